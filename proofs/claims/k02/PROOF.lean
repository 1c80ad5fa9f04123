import PyProof.Rows.All
import Wide.All
import OpenK.AllK
import Wide.FinOn
import HandS.Defaults
import HandS.Exc
import HandS.ForExc
import HandS.HeadHook4
import HandS.Head3
import HandS.ForMost
import HandS.Flow
import HandS.HeadWalk
import HandS.IsInst
import HandS.ExcIs
import HandS.ExcValue
import HandS.Gcd
import HandS.Wide
import HandS.TupMul
import HandS.Property
import HandS.MakeKw
import HandS.OwnEq
import HandS.Conv
import HandS.Zip
import HandS.Style
import HandS.Walk
import HandS.TupAny
import HandS.Strs
import HandS.SetKeys
import HandS.SetFor
import HandS.Lambda
import KE.GoesMore
import PySem.Challenge.RW_laidanew_k02_whole_areas
set_option Elab.async false
set_option linter.all false
set_option maxRecDepth 100000
set_option maxHeartbeats 4000000
/-! # HA0: a Hook that tells defs at addresses of one's own, too (getters of properties); facts as Bools -/
namespace Lay
open PySem PySem.Spec PyProof.Rows L2 He
def clsB (K : PySem.W.Frag) (C : Addr) : Bool := (PySem.W.clsIn K C).isSome && PySem.W.typeIn K (.ref C) == some (.type "type")
/-- a def that stands at an address told by what is looked at -/
structure GetD where
  at_ : PySem.W.Frag → Addr
  d : DefD
def GetD.see (K : PySem.W.Frag) (g : GetD) : FnW := match K.lookup (g.at_ K) with
  | some ⟨_, _, .func fd, _⟩ => some (fd.name, fd.qualname, fd.params, fd.body, fd.scope, fd.globals, fd.closure, fd.builtins)
  | _ => none
def GetD.ok (K : PySem.W.Frag) (g : GetD) : Bool := match K.lookup (g.at_ K) with
  | some ⟨_, _, .func fd, _⟩ => PySem.W.keepIn K (.ref (g.at_ K)) && (PySem.W.codeIn K fd.code g.d.qual && (dflB K fd.defaults [] && kwdB K fd.kwdefaults []))
  | _ => false
theorem GetD.fun_ {K : PySem.W.Frag} {g : GetD} (e : g.see K = g.d.val) (c : g.ok K = true) : ∃ fd, FunD K g.d.name g.d.qual g.d.params g.d.body g.d.scope [] [] (g.at_ K) fd := by
  unfold GetD.see at e
  unfold GetD.ok at c
  split at e
  · rename_i oc od fd osl lk
    rw [lk] at c
    obtain ⟨kp, c⟩ := ba c
    obtain ⟨c1, c⟩ := ba c
    obtain ⟨c2, c3⟩ := ba c
    obtain ⟨m1, m2, m3, m4, m5, m6, m7, m8, m9, m10, m11, m12, m13, m14, m15⟩ := fd
    unfold DefD.val at e
    simp only [Option.some.injEq, Prod.mk.injEq] at e
    obtain ⟨z1, z2, z3, z4, z5, z6, z7, z8⟩ := e
    subst z1 z2 z3 z4 z5 z6 z7 z8
    exact ⟨_, ⟨oc, od, m8, m9, m10, m11, m12, m13, m14, osl, rfl, lk, c1, dflB_ok c2, kwdB_ok c3⟩, kp⟩
  · rename_i lk
    split at c
    · rename_i q
      exact absurd q (lk _ _ _ _)
    · cases c
abbrev AlY : Type := AlX × List FnW
def seeY (n : Nat) (fa : List Fa) (fn : List DefD) (gs : List GetD) (tf : List Defn) (ex : PySem.W.Frag → Bool) (g : Addr → Option Obj) : AlY := (obsX n fa fn [] tf ex g, gs.map fun d => d.see (frT g (asD g n)))
structure SaysY (fa : List Fa) (fn : List DefD) (gs : List GetD) (tf : List Defn) (ex : PySem.W.Frag → Bool) (w : World) (h : Heap) (K : PySem.W.Frag) : Prop where
  x : SaysX fa fn [] tf ex w h K
  g : gs.map (fun d => d.see K) = gs.map fun d => d.d.val
def hookY (n : Nat) (fa : List Fa) (fn : List DefD) (gs : List GetD) (tf : List Defn) (ex : PySem.W.Frag → Bool) : PySem.W.Hook where
  α := AlY
  obs := fun s => seeY n fa fn gs tf ex s.heap.get?
  val := fun w => (valX fn [] w, gs.map fun d : GetD => d.d.val)
  says := fun w h => ∃ K : PySem.W.Frag, K.In h ∧ SaysY fa fn gs tf ex w h K
  of := fun _ _ e => ⟨_, frT_in, saysX_of (congrArg (fun z : AlY => z.1) e), by have z := congrArg (fun z : AlY => z.2) e; exact z⟩
  keeps := fun _ _ _ ⟨K, hK, c⟩ k => ⟨K, PySem.W.Frag.In.keeps hK k, ⟨c.x.t, c.x.more, c.x.hd, c.x.out, fun p hp => k _ _ (c.x.empty p hp)⟩, c.g⟩
theorem seeY_eq {n : Nat} {fa : List Fa} {fn : List DefD} {gs : List GetD} {tf : List Defn} {ex : PySem.W.Frag → Bool} {g : Addr → Option Obj} {s : Shared} (h : ∀ a, g a = s.heap.get? a) : seeY n fa fn gs tf ex g = (hookY n fa fn gs tf ex).obs s := by
  obtain rfl : g = s.heap.get? := funext h
  rfl
theorem SaysY.get {fa : List Fa} {fn : List DefD} {gs : List GetD} {tf : List Defn} {ex : PySem.W.Frag → Bool} {w : World} {h : Heap} {K : PySem.W.Frag} (c : SaysY fa fn gs tf ex w h K) (ok : gs.all (fun d => d.ok K) = true) (i : Nat) {d : GetD} (hi : gs[i]? = some d := by rfl) :
    ∃ fd, FunD K d.d.name d.d.qual d.d.params d.d.body d.d.scope [] [] (d.at_ K) fd := by
  have e2 : (gs.map fun d => d.see K)[i]? = (gs.map fun d => d.d.val)[i]? := by rw [c.g]
  rw [List.getElem?_map, List.getElem?_map, hi] at e2
  exact GetD.fun_ (Option.some.inj e2) (List.all_eq_true.mp ok d (List.mem_of_getElem? hi))
def propAt (C m : Str) (K : PySem.W.Frag) : Addr := ma K (ga K C) m
def getAt (C m : Str) (K : PySem.W.Frag) : Addr := match PySem.W.recIn K (propAt C m K) "property" with
  | some (.ref g :: _) => g
  | _ => 0
def propB (K : PySem.W.Frag) (C m : Str) : Bool := decide (PySem.W.findIn K (.ref (ga K C)) m = some (some (.ref (propAt C m K)))) && (decide (PySem.W.specialIn K (.ref (propAt C m K)) "__get__" = some (some (.builtin "property.__get__"))) && (decide (PySem.W.takesIn K (.ref (propAt C m K)) = some true) && (match PySem.W.recIn K (propAt C m K) "property" with
  | some (.ref _ :: _) => true
  | _ => false)))
def insB (K : PySem.W.Frag) (C : Addr) : Bool := decide (PySem.W.findIn K (.ref C) "__class__" = some (some (.builtin "object.__class__"))) && (decide (PySem.W.specialIn K (.builtin "object.__class__") "__get__" = some (some (.builtin "getset_descriptor.__get__"))) && (decide (PySem.W.takesIn K (.builtin "object.__class__") = some true) && (decide (PySem.W.mroIn K C (.type "object") = some true) && (clsB K C && decide (PySem.W.kitOne K (.ref C) (.ref C) = some true)))))
def ownEB (K : PySem.W.Frag) (C : Addr) : Bool := decide (PySem.W.findIn K (.ref C) "__eq__" = some (some (.ref (ma K C "__eq__")))) && (decide (PySem.W.findIn K (.ref C) "__ne__" = some (some (.builtin "object.__ne__"))) && (PySem.W.isFn K (.ref (ma K C "__eq__")) && (PySem.W.clsIn K C).isSome))
def excB (K : PySem.W.Frag) (C : Addr) : Bool := decide (PySem.W.findIn K (.ref C) "__getattribute__" = some (some (.builtin "BaseException.__getattribute__"))) && (decide (PySem.W.findIn K (.ref C) "__getattr__" = some none) && (decide (PySem.W.subIn K (.ref C) (.type "BaseException") = some true) && (PySem.W.hasDictIn K C && (decide (PySem.W.findIn K (.ref C) "__class__" = some (some (.builtin "object.__class__"))) && (decide (PySem.W.specialIn K (.builtin "object.__class__") "__get__" = some (some (.builtin "getset_descriptor.__get__"))) &&
  (decide (PySem.W.takesIn K (.builtin "object.__class__") = some true) && (decide (PySem.W.mroIn K C (.type "object") = some true) && (clsB K C && decide (PySem.W.kitOne K (.ref C) (.ref C) = some true)))))))))
end Lay

namespace KK
open PySem PySem.Spec PyProof.Rows
def top (i : Nat) : Stmt := PySem.Challenge.pw_laidanew_k02_whole_areas.main.body.getD i (.Pass ⟨0, 0, 0, 0⟩)
def clsBody (i : Nat) : List Stmt := match top i with
  | .ClassDef _ _ _ b _ _ _ _ _ _ _ => b
  | _ => []
def meth (i j : Nat) : Stmt := (clsBody i).getD j (.Pass ⟨0, 0, 0, 0⟩)
def exs : List Str := ["BadArea", "BadAreas", "BadOne", "BadOther", "BadRoots", "BadUnits"]
end KK

namespace KK
open PySem PySem.Spec PyProof.Rows L2 Lay He
def dd (x : Str) (st : Stmt) : DefD := ⟨(x, none), x, x, defArgs st, defBody st, defScope st, [], []⟩
def dm (x : Str) (st : Stmt) : DefD := ⟨("Units", some x), x, "Units." ++ x, defArgs st, defBody st, defScope st, [], []⟩
def gD (x : Str) (st : Stmt) : GetD := ⟨getAt "Units" x, ⟨(x, none), x, "Units." ++ x, defArgs st, defBody st, defScope st, [], []⟩⟩
def fn : List DefD := [dd "law" (top 86), dd "_law_begun" (top 52), dd "_law_caught" (top 56), dd "is_number" (top 12), dd "is_ratio" (top 13), dd "as_ratio" (top 14), dd "has_few_digits" (top 15), dd "is_given_number" (top 16), dd "as_pair" (top 17), dd "plus" (top 18), dd "minus" (top 19), dd "times" (top 20), dd "as_length" (top 31), dd "_law_gcd" (top 60), dd "_law_pair" (top 61), dd "_law_ratio" (top 62), dd "_law_plus" (top 63), dd "_law_minus" (top 64), dd "_law_times" (top 65), dd "_law_add" (top 69), dd "_law_less" (top 70), dd "_law_scaled" (top 71), dd "_law_is_ratio" (top 66), dd "_law_is_given" (top 67), dd "_law_nought" (top 68), dd "is_root" (top 26), dd "need_units" (top 28), dd "is_length_of" (top 30), dd "need_two" (top 32), dd "_law_kinds" (top 57), dd "_law_mixed" (top 53), dd "_law_take" (top 54), dd "_law_pick" (top 55), dd "_law_says" (top 58), dd "_law_roots" (top 78), dd "_law_item" (top 79), dd "_law_odd" (top 59), dd "sign_of" (top 21), dd "two_sign" (top 22), dd "area_items" (top 35), dd "is_area_of" (top 36), dd "as_area" (top 37), dd "nought_area" (top 38), dd "area_plus" (top 39), dd "area_minus" (top 40), dd "crossed" (top 41), dd "product_of" (top 42), dd "square_pair" (top 43), dd "area_sign_of" (top 44), dd "area_total" (top 45), dd "is_area" (top 46), dd "product" (top 47), dd "area_sum" (top 48), dd "area_sign" (top 49), dd "is_lesser" (top 50), dd "_law_root_floor" (top 72), dd "_law_sign_of" (top 73), dd "_law_insides" (top 75), dd "_law_sign" (top 74), dd "_law_area_sign" (top 77), dd "_law_item_length" (top 83), dd "_law_is_area" (top 84), dd "_law_product" (top 76), dd "_law_side" (top 80), dd "_law_place" (top 81), dd "_law_some" (top 82), dd "_law_right" (top 85), dm "__init__" (meth 27 0), dm "__eq__" (meth 27 3)]
def fa : List Fa := [.glo "law", .glo "_law_begun", .glo "_law_caught", .glo "is_number", .glo "is_ratio", .glo "as_ratio", .glo "has_few_digits", .glo "is_given_number", .glo "as_pair", .glo "plus", .glo "minus", .glo "times", .glo "as_length", .glo "_law_gcd", .glo "_law_pair", .glo "_law_ratio", .glo "_law_plus", .glo "_law_minus", .glo "_law_times", .glo "_law_add", .glo "_law_less", .glo "_law_scaled", .glo "_law_is_ratio", .glo "_law_is_given", .glo "_law_nought", .glo "is_root", .glo "need_units", .glo "is_length_of", .glo "need_two", .glo "_law_kinds", .glo "_law_mixed", .glo "_law_take", .glo "_law_pick", .glo "_law_says", .glo "_law_roots", .glo "_law_item", .glo "_law_odd", .glo "sign_of", .glo "two_sign", .glo "area_items", .glo "is_area_of", .glo "as_area", .glo "nought_area", .glo "area_plus", .glo "area_minus", .glo "crossed", .glo "product_of", .glo "square_pair", .glo "area_sign_of", .glo "area_total", .glo "is_area", .glo "product", .glo "area_sum", .glo "area_sign", .glo "is_lesser", .glo "_law_root_floor", .glo "_law_sign_of", .glo "_law_insides", .glo "_law_sign", .glo "_law_area_sign", .glo "_law_item_length", .glo "_law_is_area", .glo "_law_product", .glo "_law_side", .glo "_law_place", .glo "_law_some", .glo "_law_right", .free "isinstance", .free "int", .free "bool", .free "tuple", .free "list", .free "dict", .free "str", .free "len", .free "all", .free "any", .free "abs", .free "min", .free "max", .free "range", .free "zip", .free "enumerate", .free "set", .free "sorted", .free "repr", .free "sum", .free "reversed", .int "MOST" (10 ^ 300), .int "MOST_ROOT" 99, .int "MOST_ROOTS" 2, .int "MOST_AREAS" 400, .glo "NOUGHT", .glo "Units", .cls "Units", .noat "Units" "u_roots", .mkr "Units", .glo "PlateError", .glo "BadArea", .exc "BadArea", .exm "BadArea" "PlateError" true, .glo "BadAreas", .exc "BadAreas", .exm "BadAreas" "PlateError" true, .glo "BadOne", .exc "BadOne", .exm "BadOne" "PlateError" true, .glo "BadOther", .exc "BadOther", .exm "BadOther" "PlateError" true, .glo "BadRoots", .exc "BadRoots", .exm "BadRoots" "PlateError" true, .glo "BadUnits", .exc "BadUnits", .exm "BadUnits" "PlateError" true]
def gs : List GetD := [gD "roots" (meth 27 1), gD "many" (meth 27 2)]
def tf : List Defn := [("_law_right", none)]
def exM (K : PySem.W.Frag) : Bool := decide (PySem.W.nsIn K mainGlobals "gcd" = some (some (.builtin "math.gcd")))
def exD (K : PySem.W.Frag) : Bool := true
def ex (K : PySem.W.Frag) : Bool := insB K (ga K "Units") && (propB K "Units" "roots" && (propB K "Units" "many" && (ownEB K (ga K "Units") && (exM K && (tupB K "NOUGHT" [.int 0, .int 1] &&
  ((exs.all fun x => excB K (ga K x)) && (gs.all (fun d => d.ok K) && exD K)))))))
abbrev R : PySem.W.OpenRow := PySem.W.OpenLaw.row PySem.Challenge.rw_laidanew_k02_whole_areas
abbrev hk : PySem.W.Hook := hookY 5 fa fn gs tf ex
def ob (s : PySem.W.SharedT) : AlY := seeY 5 fa fn gs tf ex (HandSHeadRun.getT s)
theorem ob_eq (s : PySem.W.SharedT) : ob s = hk.obs s.abs := seeY_eq (HandSHeadRun.getT_eq s)
def loose0 : List Str := ["gcd", "PlateError", "BadArea", "BadAreas", "BadOne", "BadOther", "BadRoots", "BadUnits", "MOST", "NOUGHT", "is_number", "is_ratio", "as_ratio", "has_few_digits", "is_given_number", "as_pair", "plus", "minus", "times", "sign_of", "two_sign", "MOST_ROOT", "MOST_ROOTS", "is_root", "Units", "need_units", "is_length_of", "as_length", "need_two", "MOST_AREAS"]
def loose1 : List Str := ["area_items", "is_area_of", "as_area", "nought_area", "area_plus", "area_minus", "crossed", "product_of", "square_pair", "area_sign_of", "area_total", "is_area", "product", "area_sum", "area_sign", "is_lesser", "_law_begun", "_law_mixed", "_law_take", "_law_pick", "_law_caught", "_law_kinds", "_law_says", "_law_odd", "_law_gcd", "_law_pair", "_law_ratio", "_law_plus", "_law_minus", "_law_times"]
def loose2 : List Str := ["_law_is_ratio", "_law_is_given", "_law_nought", "_law_add", "_law_less", "_law_scaled", "_law_root_floor", "_law_sign_of", "_law_sign", "_law_insides", "_law_product", "_law_area_sign", "_law_roots", "_law_item", "_law_side", "_law_place", "_law_some", "_law_item_length", "_law_is_area", "_law_right"]
def looseN : List Str := loose0 ++ loose1 ++ loose2
theorem run (w : World) : HandSHeadRun.RunEqI R (PySem.W.view R.prog [86]) hk ob 6000 looseN w := by
  unfold HandSHeadRun.RunEqI
  kernel_rfl
end KK

/-! # SG1: signs of sums of square roots, by algebra -/
namespace Sgn
open Lean.Grind
/-- a ring with signs -/
structure OS (K : Type) [CommRing K] (s : K → Int) : Prop where
  tri : ∀ x, s x = 1 ∨ s x = 0 ∨ s x = -1
  zero : ∀ x, s x = 0 ↔ x = 0
  mul : ∀ x y, s (x * y) = s x * s y
  add : ∀ x y, s x = 1 → s y = 1 → s (x + y) = 1
  one : s 1 = 1
namespace OS
variable {K : Type} [CommRing K] {s : K → Int} (o : OS K s)
include o
theorem m1 : s (-1) = -1 := by
  have h : s (-1) * s (-1) = 1 := by
    rw [← o.mul, show (-1 : K) * (-1) = 1 by grind]; exact o.one
  rcases o.tri (-1) with h1 | h1 | h1
  · exfalso
    have := o.add 1 (-1) o.one h1
    rw [show (1 : K) + -1 = 0 by grind, (o.zero 0).mpr rfl] at this
    omega
  · rw [h1] at h; omega
  · exact h1
theorem neg (x : K) : s (-x) = -s x := by
  rw [show -x = (-1) * x by grind, o.mul, o.m1]; omega
theorem two : s (1 + 1) = 1 := o.add 1 1 o.one o.one
theorem z : s 0 = 0 := (o.zero 0).mpr rfl
theorem ne {x : K} (h : x ≠ 0) : s x = 1 ∨ s x = -1 := by
  rcases o.tri x with h1 | h1 | h1
  · exact .inl h1
  · exact absurd ((o.zero x).mp h1) h
  · exact .inr h1
theorem addP {x y : K} (hx : s x = 1) (hy : 0 ≤ s y) : s (x + y) = 1 := by
  rcases o.tri y with h | h | h
  · exact o.add x y hx h
  · rw [(o.zero y).mp h, show x + 0 = x by grind]; exact hx
  · omega
theorem addL {x y : K} (hx : 0 ≤ s x) (hy : 0 ≤ s y) : 0 ≤ s (x + y) := by
  rcases o.tri x with h | h | h
  · rw [o.addP h hy]; omega
  · rw [(o.zero x).mp h, show 0 + y = y by grind]; exact hy
  · omega
theorem addN {x y : K} (hx : s x = -1) (hy : s y = -1) : s (x + y) = -1 := by
  have h1 : s (-x) = 1 := by rw [o.neg, hx]; rfl
  have h2 : s (-y) = 1 := by rw [o.neg, hy]; rfl
  have h3 := o.add _ _ h1 h2
  rw [show -x + -y = -(x + y) by grind, o.neg] at h3
  omega
theorem sq {x : K} : 0 ≤ s (x * x) := by
  rw [o.mul]
  rcases o.tri x with h | h | h <;> rw [h] <;> decide
theorem sqP {x : K} (h : x ≠ 0) : s (x * x) = 1 := by
  rw [o.mul]
  rcases o.ne h with h | h <;> rw [h] <;> decide
/-- the greater square tells the sum's sign -/
theorem sqlt {x y : K} (h : s (x * x - y * y) = 1) : s (x + y) = s x := by
  have h1 : s (x + y) * s (x - y) = 1 := by rw [← o.mul, show (x + y) * (x - y) = x * x - y * y by grind]; exact h
  have h2 : s ((1 + 1) * x) = s x := by rw [o.mul, o.two]; omega
  have h3 : (x + y) + (x - y) = (1 + 1) * x := by grind
  rcases o.tri (x + y) with a | a | a <;> rcases o.tri (x - y) with b | b | b <;> rw [a, b] at h1 <;> try omega
  · have := o.add _ _ a b
    rw [h3, h2] at this
    omega
  · have := o.addN a b
    rw [h3, h2] at this
    omega
theorem mulP {x y : K} (hx : s x = 1) (hy : s y = 1) : s (x * y) = 1 := by rw [o.mul, hx, hy]; rfl
theorem noz {x y : K} (h : x * y = 0) : x = 0 ∨ y = 0 := by
  have h1 : s x * s y = 0 := by rw [← o.mul, h]; exact o.z
  rcases Int.mul_eq_zero.mp h1 with h | h
  · exact .inl ((o.zero x).mp h)
  · exact .inr ((o.zero y).mp h)
end OS
/-- re + im times the root of d -/
@[ext] structure Quad (K : Type) (d : K) where
  re : K
  im : K
namespace Quad
variable {K : Type} [CommRing K] {d : K}
local instance {K : Type} [Semiring K] : NatCast K := Semiring.natCast
local instance {K : Type} [Ring K] : IntCast K := Ring.intCast
instance : Add (Quad K d) := ⟨fun a b => ⟨a.re + b.re, a.im + b.im⟩⟩
instance : Mul (Quad K d) := ⟨fun a b => ⟨a.re * b.re + d * (a.im * b.im), a.re * b.im + a.im * b.re⟩⟩
instance : Neg (Quad K d) := ⟨fun a => ⟨-a.re, -a.im⟩⟩
instance : Sub (Quad K d) := ⟨fun a b => ⟨a.re - b.re, a.im - b.im⟩⟩
instance : NatCast (Quad K d) := ⟨fun n => ⟨(n : K), 0⟩⟩
instance (n : Nat) : OfNat (Quad K d) n := ⟨⟨OfNat.ofNat n, 0⟩⟩
instance : SMul Nat (Quad K d) := ⟨fun n a => ((n : Nat) : Quad K d) * a⟩
instance : IntCast (Quad K d) := ⟨fun n => ⟨(n : K), 0⟩⟩
instance : SMul Int (Quad K d) := ⟨fun n a => ((n : Int) : Quad K d) * a⟩
def pw (a : Quad K d) : Nat → Quad K d
  | 0 => ⟨1, 0⟩
  | n + 1 => pw a n * a
instance : HPow (Quad K d) Nat (Quad K d) := ⟨pw⟩
@[simp] theorem add_re (a b : Quad K d) : (a + b).re = a.re + b.re := rfl
@[simp] theorem add_im (a b : Quad K d) : (a + b).im = a.im + b.im := rfl
@[simp] theorem mul_re (a b : Quad K d) : (a * b).re = a.re * b.re + d * (a.im * b.im) := rfl
@[simp] theorem mul_im (a b : Quad K d) : (a * b).im = a.re * b.im + a.im * b.re := rfl
@[simp] theorem neg_re (a : Quad K d) : (-a).re = -a.re := rfl
@[simp] theorem neg_im (a : Quad K d) : (-a).im = -a.im := rfl
@[simp] theorem sub_re (a b : Quad K d) : (a - b).re = a.re - b.re := rfl
@[simp] theorem sub_im (a b : Quad K d) : (a - b).im = a.im - b.im := rfl
@[simp] theorem nat_re (n : Nat) : ((n : Nat) : Quad K d).re = (n : K) := rfl
@[simp] theorem nat_im (n : Nat) : ((n : Nat) : Quad K d).im = 0 := rfl
@[simp] theorem int_re (n : Int) : ((n : Int) : Quad K d).re = (n : K) := rfl
@[simp] theorem int_im (n : Int) : ((n : Int) : Quad K d).im = 0 := rfl
@[simp] theorem of_re (n : Nat) : (OfNat.ofNat n : Quad K d).re = OfNat.ofNat n := rfl
@[simp] theorem of_im (n : Nat) : (OfNat.ofNat n : Quad K d).im = 0 := rfl
@[simp] theorem zero_re : (0 : Quad K d).re = 0 := rfl
@[simp] theorem zero_im : (0 : Quad K d).im = 0 := rfl
@[simp] theorem one_re : (1 : Quad K d).re = 1 := rfl
@[simp] theorem one_im : (1 : Quad K d).im = 0 := rfl
instance : CommRing (Quad K d) where
  add_zero a := by ext <;> simp <;> grind
  add_comm a b := by ext <;> simp <;> grind
  add_assoc a b c := by ext <;> simp <;> grind
  mul_assoc a b c := by ext <;> simp <;> grind
  mul_one a := by ext <;> simp <;> grind
  one_mul a := by ext <;> simp <;> grind
  left_distrib a b c := by ext <;> simp <;> grind
  right_distrib a b c := by ext <;> simp <;> grind
  zero_mul a := by ext <;> simp <;> grind
  mul_zero a := by ext <;> simp <;> grind
  pow_zero a := rfl
  pow_succ a n := rfl
  ofNat_succ n := by
    ext
    · show (OfNat.ofNat (n + 1) : K) = OfNat.ofNat n + 1
      exact Semiring.ofNat_succ n
    · show (0 : K) = 0 + 0
      grind
  ofNat_eq_natCast n := by
    ext
    · show (OfNat.ofNat n : K) = (n : K)
      exact Semiring.ofNat_eq_natCast n
    · rfl
  neg_add_cancel a := by ext <;> simp <;> grind
  sub_eq_add_neg a b := by ext <;> simp <;> grind
  neg_zsmul i a := by
    show ((-i : Int) : Quad K d) * a = -(((i : Int) : Quad K d) * a)
    ext <;> simp <;> rw [Ring.intCast_neg] <;> grind
  zsmul_natCast_eq_nsmul n a := by
    show (((n : Nat) : Int) : Quad K d) * a = ((n : Nat) : Quad K d) * a
    have e : ((n : Int) : K) = (n : K) := Ring.intCast_natCast n
    ext <;> simp [e]
  intCast_ofNat n := by
    ext
    · show (((OfNat.ofNat n : Nat) : Int) : K) = OfNat.ofNat n
      exact Ring.intCast_ofNat n
    · rfl
  intCast_neg i := by
    ext
    · show ((-i : Int) : K) = -(i : K)
      exact Ring.intCast_neg i
    · show (0 : K) = -0
      grind
  mul_comm a b := by ext <;> simp <;> grind
end Quad
section
variable {K : Type} [CommRing K] {d : K} {s : K → Int}
def nrm (z : Quad K d) : K := z.re * z.re - d * (z.im * z.im)
/-- the sign of re + im times the root of d -/
def qs (s : K → Int) (z : Quad K d) : Int := if s (nrm z) = 1 then s z.re else if s (nrm z) = -1 then s z.im else 0
structure Irr (s : K → Int) (d : K) : Prop where
  pos : s d = 1
  no : ∀ x y : K, x * x = d * (y * y) → y = 0
theorem nrm_mul (z w : Quad K d) : nrm (z * w) = nrm z * nrm w := by
  simp only [nrm, Quad.mul_re, Quad.mul_im]; grind
theorem qsP {z : Quad K d} (h : s (nrm z) = 1) : qs s z = s z.re := if_pos h
theorem qsM {z : Quad K d} (h : s (nrm z) = -1) : qs s z = s z.im := by
  unfold qs
  rw [if_neg (by omega), if_pos h]
theorem qsZ {z : Quad K d} (h : s (nrm z) = 0) : qs s z = 0 := by
  unfold qs
  rw [if_neg (by omega), if_neg (by omega)]
variable (o : OS K s) (i : Irr s d)
include o i
theorem nrm_zero {z : Quad K d} (h : nrm z = 0) : z = 0 := by
  have h1 : z.re * z.re = d * (z.im * z.im) := by unfold nrm at h; grind
  have h2 := i.no _ _ h1
  rw [h2] at h1
  have h3 : z.re * z.re = 0 := by rw [h1]; grind
  have h4 : z.re = 0 := (o.noz h3).elim id id
  ext
  · exact h4
  · exact h2
theorem re_ne {z : Quad K d} (h : s (nrm z) = 1) : z.re ≠ 0 := fun e => by
  have h1 : nrm z = -(d * (z.im * z.im)) := by unfold nrm; rw [e]; grind
  rw [h1, o.neg, o.mul, i.pos] at h
  have := o.sq (x := z.im)
  omega
theorem im_ne {z : Quad K d} (h : s (nrm z) = -1) : z.im ≠ 0 := fun e => by
  have h1 : nrm z = z.re * z.re := by unfold nrm; rw [e]; grind
  rw [h1] at h
  have := o.sq (x := z.re)
  omega
theorem nn {x : K} (h : s x = -1) : s (-x) = 1 := by rw [o.neg, h]; rfl
theorem mulL {x y : K} (hx : 0 ≤ s x) (hy : 0 ≤ s y) : 0 ≤ s (x * y) := by
  rw [o.mul]; exact Int.mul_nonneg hx hy
theorem qs_mul (z w : Quad K d) : qs s (z * w) = qs s z * qs s w := by
  have hN : s (nrm (z * w)) = s (nrm z) * s (nrm w) := by rw [nrm_mul, o.mul]
  rcases o.tri (nrm z) with a | a | a
  · rcases o.tri (nrm w) with b | b | b
    · rw [qsP (by rw [hN, a, b]; rfl), qsP a, qsP b, Quad.mul_re, o.sqlt, o.mul]
      have e : (z.re * w.re) * (z.re * w.re) - (d * (z.im * w.im)) * (d * (z.im * w.im)) = nrm z * (w.re * w.re) + (d * (z.im * z.im)) * nrm w := by unfold nrm; grind
      rw [e]
      exact o.addP (o.mulP a (o.sqP (re_ne o i b))) (mulL o i (mulL o i (by rw [i.pos]; decide) o.sq) (by omega))
    · rw [qsZ (by rw [hN, b]; omega), qsZ b]; omega
    · rw [qsM (by rw [hN, a, b]; rfl), qsP a, qsM b, Quad.mul_im, o.sqlt, o.mul]
      have e : (z.re * w.im) * (z.re * w.im) - (z.im * w.re) * (z.im * w.re) = nrm z * (w.im * w.im) + (z.im * z.im) * (-nrm w) := by unfold nrm; grind
      rw [e]
      exact o.addP (o.mulP a (o.sqP (im_ne o i b))) (mulL o i o.sq (by rw [nn o i b]; decide))
  · rw [qsZ (by rw [hN, a]; omega), qsZ a]; omega
  · rcases o.tri (nrm w) with b | b | b
    · rw [qsM (by rw [hN, a, b]; rfl), qsM a, qsP b, Quad.mul_im, show z.re * w.im + z.im * w.re = z.im * w.re + z.re * w.im by grind, o.sqlt, o.mul]
      have e : (z.im * w.re) * (z.im * w.re) - (z.re * w.im) * (z.re * w.im) = (z.im * z.im) * nrm w + (w.im * w.im) * (-nrm z) := by unfold nrm; grind
      rw [e]
      exact o.addP (o.mulP (o.sqP (im_ne o i a)) b) (mulL o i o.sq (by rw [nn o i a]; decide))
    · rw [qsZ (by rw [hN, b]; omega), qsZ b]; omega
    · rw [qsP (by rw [hN, a, b]; rfl), qsM a, qsM b, Quad.mul_re, show z.re * w.re + d * (z.im * w.im) = d * (z.im * w.im) + z.re * w.re by grind, o.sqlt, o.mul, o.mul, i.pos]
      · omega
      have e : (d * (z.im * w.im)) * (d * (z.im * w.im)) - (z.re * w.re) * (z.re * w.re) = (d * (z.im * z.im)) * (-nrm w) + (w.re * w.re) * (-nrm z) := by unfold nrm; grind
      rw [e]
      exact o.addP (o.mulP (o.mulP i.pos (o.sqP (im_ne o i a))) (nn o i b)) (mulL o i o.sq (by rw [nn o i a]; decide))
theorem qs_low {m : K} {t : Quad K d} (hm : s m = 1) (ht : qs s t = 1) : qs s (⟨m, 0⟩ + t) = 1 := by
  have hN : nrm (⟨m, 0⟩ + t) = (m + t.re) * (m + t.re) - d * (t.im * t.im) := by
    simp only [nrm, Quad.add_re, Quad.add_im]; grind
  rcases o.tri (nrm t) with a | a | a
  · rw [qsP a] at ht
    have h1 : s (m + t.re) = 1 := o.add _ _ hm ht
    have h2 : s (nrm (⟨m, 0⟩ + t)) = 1 := by
      rw [hN, show (m + t.re) * (m + t.re) - d * (t.im * t.im) = nrm t + (m * m + (1 + 1) * (m * t.re)) by unfold nrm; grind]
      exact o.add _ _ a (o.add _ _ (o.mulP hm hm) (o.mulP o.two (o.mulP hm ht)))
    rw [qsP h2]
    exact h1
  · rw [qsZ a] at ht; omega
  · rw [qsM a] at ht
    rcases o.tri (nrm (⟨m, 0⟩ + t)) with b | b | b
    · rw [qsP b]
      show s (m + t.re) = 1
      have h1 : s (m * (m + (1 + 1) * t.re)) = 1 := by
        rw [show m * (m + (1 + 1) * t.re) = nrm (⟨m, 0⟩ + t) + (-nrm t) by rw [hN]; unfold nrm; grind]
        exact o.add _ _ b (nn o i a)
      rw [o.mul, hm] at h1
      have h2 : s ((1 + 1) * (m + t.re)) = 1 := by
        rw [show (1 + 1) * (m + t.re) = m + (m + (1 + 1) * t.re) by grind]
        exact o.add _ _ hm (by omega)
      rw [o.mul, o.two] at h2
      omega
    · exfalso
      have h1 : (m + t.re) * (m + t.re) = d * (t.im * t.im) := by
        have := (o.zero _).mp b
        rw [hN] at this
        grind
      have h2 := i.no _ _ h1
      rw [h2, o.z] at ht
      omega
    · rw [qsM b]
      show s (0 + t.im) = 1
      rw [show 0 + t.im = t.im by grind]; exact ht
theorem qs_fac {z : Quad K d} (h : qs s z = 1) : ∃ (c : Quad K d) (m : K), qs s c = 1 ∧ s m = 1 ∧ z * c = ⟨m, 0⟩ := by
  rcases o.tri (nrm z) with a | a | a
  · refine ⟨⟨z.re, -z.im⟩, nrm z, ?_, a, ?_⟩
    · rw [qsP (show s (nrm ⟨z.re, -z.im⟩) = 1 by rw [show nrm (⟨z.re, -z.im⟩ : Quad K d) = nrm z by unfold nrm; grind]; exact a)]
      rw [qsP a] at h; exact h
    · ext
      · show z.re * z.re + d * (z.im * -z.im) = nrm z
        unfold nrm; grind
      · show z.re * -z.im + z.im * z.re = 0
        grind
  · rw [qsZ a] at h; omega
  · refine ⟨⟨-z.re, z.im⟩, -nrm z, ?_, nn o i a, ?_⟩
    · rw [qsM (show s (nrm ⟨-z.re, z.im⟩) = -1 by rw [show nrm (⟨-z.re, z.im⟩ : Quad K d) = nrm z by unfold nrm; grind]; exact a)]
      rw [qsM a] at h; exact h
    · ext
      · show z.re * -z.re + d * (z.im * z.im) = -nrm z
        unfold nrm; grind
      · show z.re * z.im + z.im * -z.re = 0
        grind
theorem qs_add (z w : Quad K d) (hz : qs s z = 1) (hw : qs s w = 1) : qs s (z + w) = 1 := by
  obtain ⟨c, m, hc, hm, e⟩ := qs_fac o i hz
  have h1 : qs s ((z + w) * c) = 1 := by
    rw [show (z + w) * c = ⟨m, 0⟩ + w * c by rw [← e]; grind]
    exact qs_low o i hm (by rw [qs_mul o i, hw, hc]; rfl)
  rw [qs_mul o i, hc] at h1
  omega
theorem qs_os : OS (Quad K d) (qs s) where
  tri x := by
    unfold qs
    split
    · exact o.tri _
    · split
      · exact o.tri _
      · exact .inr (.inl rfl)
  zero x := by
    refine ⟨fun h => ?_, fun h => ?_⟩
    · rcases o.tri (nrm x) with a | a | a
      · rw [qsP a] at h
        exact absurd ((o.zero _).mp h) (re_ne o i a)
      · exact nrm_zero o i ((o.zero _).mp a)
      · rw [qsM a] at h
        exact absurd ((o.zero _).mp h) (im_ne o i a)
    · subst h
      refine qsZ ?_
      rw [show nrm (0 : Quad K d) = 0 by simp only [nrm, Quad.zero_re, Quad.zero_im]; grind]
      exact o.z
  mul := qs_mul o i
  add := qs_add o i
  one := by
    have h : s (nrm (1 : Quad K d)) = 1 := by
      rw [show nrm (1 : Quad K d) = 1 by simp only [nrm, Quad.one_re, Quad.one_im]; grind]
      exact o.one
    rw [qsP h]; exact o.one
/-- as the program asks for it -/
theorem qs_prog (z : Quad K d) : qs s z = if 0 ≤ s z.re * s z.im then (if s z.re ≠ 0 then s z.re else s z.im) else s z.re * s (nrm z) := by
  have hd : 0 ≤ s d := by rw [i.pos]; decide
  split
  · rename_i h
    by_cases h0 : s z.re = 0
    · rw [if_neg (fun z => z h0)]
      by_cases h1 : s z.im = 0
      · rw [h1, qsZ]
        rw [show nrm z = 0 by unfold nrm; rw [(o.zero _).mp h0, (o.zero _).mp h1]; grind]
        exact o.z
      · refine qsM ?_
        rw [show nrm z = -(d * (z.im * z.im)) by unfold nrm; rw [(o.zero _).mp h0]; grind, o.neg, o.mul, i.pos, o.sqP (fun e => h1 ((o.zero _).mpr e))]
        rfl
    · rw [if_pos h0]
      rcases o.tri (nrm z) with a | a | a
      · exact qsP a
      · exfalso
        have := nrm_zero o i ((o.zero _).mp a)
        rw [this] at h0
        exact h0 o.z
      · rw [qsM a]
        have h1 : s z.im ≠ 0 := fun e => im_ne o i a ((o.zero _).mp e)
        rcases o.tri z.re with b | b | b <;> rcases o.tri z.im with c | c | c <;> rw [b, c] at h <;> omega
  · rename_i h
    rcases o.tri (nrm z) with a | a | a
    · rw [qsP a, a]; omega
    · rw [qsZ a, a]; omega
    · rw [qsM a, a]
      rcases o.tri z.re with b | b | b <;> rcases o.tri z.im with c | c | c <;> rw [b, c] at h <;> omega
theorem qs_re (a : K) : qs s (⟨a, 0⟩ : Quad K d) = s a := by
  by_cases h : a = 0
  · subst h
    rw [o.z]
    refine qsZ ?_
    rw [show nrm (⟨0, 0⟩ : Quad K d) = 0 by unfold nrm; grind]; exact o.z
  · refine qsP ?_
    rw [show nrm (⟨a, 0⟩ : Quad K d) = a * a by unfold nrm; grind]
    exact o.sqP h
end
end Sgn

/-! # SG2: the ratios' signs, roots that are not whole -/
namespace Sgn
open Lean.Grind
/-- the sign of a ratio -/
def rs (x : Rat) : Int := if 0 < x then 1 else if x < 0 then -1 else 0
theorem rsP {x : Rat} (h : 0 < x) : rs x = 1 := if_pos h
theorem rsM {x : Rat} (h : x < 0) : rs x = -1 := by
  unfold rs
  rw [if_neg (by grind), if_pos h]
theorem rsZ : rs 0 = 0 := by decide +kernel
theorem rs_tri (x : Rat) : (0 < x ∧ rs x = 1) ∨ (x = 0 ∧ rs x = 0) ∨ (x < 0 ∧ rs x = -1) := by
  by_cases h : 0 < x
  · exact .inl ⟨h, rsP h⟩
  · by_cases h2 : x < 0
    · exact .inr (.inr ⟨h2, rsM h2⟩)
    · have : x = 0 := by grind
      subst this
      exact .inr (.inl ⟨rfl, rsZ⟩)
theorem rs_os : OS Rat rs where
  tri x := by rcases rs_tri x with h | h | h <;> simp [h.2]
  zero x := by
    rcases rs_tri x with h | h | h
    · rw [h.2]; constructor <;> grind
    · rw [h.2, h.1]; simp
    · rw [h.2]; constructor <;> grind
  mul x y := by
    rcases rs_tri x with h | h | h <;> rcases rs_tri y with g | g | g <;> rw [h.2, g.2]
    · exact rsP (Rat.mul_pos h.1 g.1)
    · rw [g.1, show x * 0 = 0 by grind]; exact rsZ
    · refine rsM ?_
      have := Rat.mul_pos h.1 (show 0 < -y by grind)
      grind
    · rw [h.1, show 0 * y = 0 by grind]; exact rsZ
    · rw [h.1, show 0 * y = 0 by grind]; exact rsZ
    · rw [h.1, show 0 * y = 0 by grind]; exact rsZ
    · refine rsM ?_
      have := Rat.mul_pos (show 0 < -x by grind) g.1
      grind
    · rw [g.1, show x * 0 = 0 by grind]; exact rsZ
    · refine rsP ?_
      have := Rat.mul_pos (show 0 < -x by grind) (show 0 < -y by grind)
      grind
  add x y hx hy := by
    rcases rs_tri x with h | h | h <;> rw [h.2] at hx <;> try omega
    rcases rs_tri y with g | g | g <;> rw [g.2] at hy <;> try omega
    exact rsP (by grind)
  one := by decide +kernel
/-- between two squares -/
def NonSq (n : Nat) : Prop := ∃ k : Nat, k * k < n ∧ n < (k + 1) * (k + 1)
theorem irrN {n : Nat} (h : NonSq n) : ∀ (y x : Nat), x * x = n * (y * y) → y = 0 := by
  obtain ⟨k, h1, h2⟩ := h
  intro y
  induction y using Nat.strongRecOn with
  | ind y ih =>
    intro x hx
    by_cases hy : y = 0
    · exact hy
    · exfalso
      have hy0 : 0 < y := by omega
      have a1 : k * y < x := by
        refine Nat.lt_of_not_le fun z => ?_
        have : x * x ≤ (k * y) * (k * y) := Nat.mul_le_mul z z
        have e : (k * y) * (k * y) = (k * k) * (y * y) := by grind
        have : (k * k) * (y * y) < n * (y * y) := Nat.mul_lt_mul_of_pos_right h1 (Nat.mul_pos hy0 hy0)
        omega
      have a2 : x < (k + 1) * y := by
        refine Nat.lt_of_not_le fun z => ?_
        have : ((k + 1) * y) * ((k + 1) * y) ≤ x * x := Nat.mul_le_mul z z
        have e : ((k + 1) * y) * ((k + 1) * y) = ((k + 1) * (k + 1)) * (y * y) := by grind
        have : n * (y * y) < ((k + 1) * (k + 1)) * (y * y) := Nat.mul_lt_mul_of_pos_right h2 (Nat.mul_pos hy0 hy0)
        omega
      obtain ⟨y', e1⟩ : ∃ y', x = k * y + y' := ⟨x - k * y, by omega⟩
      have hy1 : 0 < y' := by omega
      have hy2 : y' < y := by
        have : (k + 1) * y = k * y + y := by grind
        omega
      have a3 : k * x ≤ n * y := by
        refine Nat.le_of_lt (Nat.lt_of_not_le fun z => ?_)
        have q1 : (n * y) * x ≤ (k * x) * x := Nat.mul_le_mul_right x z
        have q2 : (k * x) * x = k * (n * (y * y)) := by rw [← hx]; grind
        have q3 : (k * y) * (n * y) < x * (n * y) := Nat.mul_lt_mul_of_pos_right a1 (Nat.mul_pos (by omega) hy0)
        have q4 : (k * y) * (n * y) = k * (n * (y * y)) := by grind
        have q5 : x * (n * y) = (n * y) * x := Nat.mul_comm _ _
        omega
      obtain ⟨x', e2⟩ : ∃ x', n * y = k * x + x' := ⟨n * y - k * x, by omega⟩
      have e3 : x' * x' = n * (y' * y') := by
        have f1 : (x' : Int) = n * y - k * x := by have : ((n * y : Nat) : Int) = ((k * x + x' : Nat) : Int) := by rw [e2]
                                                   grind
        have f2 : (y' : Int) = x - k * y := by have : ((x : Nat) : Int) = ((k * y + y' : Nat) : Int) := by rw [← e1]
                                               grind
        have f3 : (x : Int) * x = n * (y * y) := by exact_mod_cast hx
        have : (x' : Int) * x' = n * (y' * y') := by rw [f1, f2]; grind
        exact_mod_cast this
      exact absurd (ih y' hy2 x' e3) (by omega)
theorem irrI {n : Nat} (h : NonSq n) {x y : Int} (e : x * x = n * (y * y)) : y = 0 := by
  have : x.natAbs * x.natAbs = n * (y.natAbs * y.natAbs) := by
    have h1 : ((x.natAbs * x.natAbs : Nat) : Int) = x * x := by simp [Int.natAbs_mul_self]
    have h2 : ((y.natAbs * y.natAbs : Nat) : Int) = y * y := by simp [Int.natAbs_mul_self]
    have : ((x.natAbs * x.natAbs : Nat) : Int) = ((n * (y.natAbs * y.natAbs) : Nat) : Int) := by
      rw [h1, Int.natCast_mul, h2]; exact e
    exact_mod_cast this
  have := irrN h _ _ this
  omega
theorem num_eq (x : Rat) : (x.num : Rat) = x * (x.den : Rat) := by
  have h : ((x.den : Int) : Rat) ≠ 0 := by
    have := x.den_nz
    intro z
    have : (x.den : Int) = 0 := by exact_mod_cast z
    omega
  have e := Rat.num_divInt_den x
  rw [Rat.divInt_eq_div] at e
  have h2 : ((x.den : Int) : Rat) = (x.den : Rat) := by norm_cast
  rw [h2] at e h
  conv => rhs; rw [← e]
  grind
theorem irrQ {n : Nat} (h : NonSq n) {x y : Rat} (e : x * x = (n : Rat) * (y * y)) : y = 0 := by
  have e1 := num_eq x
  have e2 := num_eq y
  have e3 : ((x.num * (y.den : Int)) * (x.num * (y.den : Int)) : Rat) = (n : Rat) * ((y.num * (x.den : Int)) * (y.num * (x.den : Int))) := by
    have c1 : ((y.den : Int) : Rat) = (y.den : Rat) := by norm_cast
    have c2 : ((x.den : Int) : Rat) = (x.den : Rat) := by norm_cast
    rw [e1, e2, c1, c2]
    grind
  have e4 : (x.num * (y.den : Int)) * (x.num * (y.den : Int)) = (n : Int) * ((y.num * (x.den : Int)) * (y.num * (x.den : Int))) := by exact_mod_cast e3
  have e5 := irrI h e4
  have hd : (x.den : Int) ≠ 0 := by
    have := x.den_nz
    omega
  have e6 : y.num = 0 := by
    rcases Int.mul_eq_zero.mp e5 with z | z
    · exact z
    · exact absurd z hd
  exact Rat.num_eq_zero.mp e6
theorem rs_nat {n : Nat} (h : 0 < n) : rs (n : Rat) = 1 := rsP (by exact_mod_cast h)
theorem NonSq.pos {n : Nat} (h : NonSq n) : 0 < n := by
  obtain ⟨k, h1, _⟩ := h
  omega
theorem irr1 {r : Nat} (h : NonSq r) : Irr rs (r : Rat) := ⟨rs_nat h.pos, fun _ _ e => irrQ h e⟩
/-- the ratios and the root of r -/
abbrev K1 (r : Nat) : Type := Quad Rat (r : Rat)
theorem os1 {r : Nat} (h : NonSq r) : OS (K1 r) (qs rs) := qs_os rs_os (irr1 h)
theorem irr2 {r t : Nat} (h : NonSq r) (h2 : NonSq t) (h3 : NonSq (r * t)) : Irr (qs rs) (⟨(t : Rat), 0⟩ : K1 r) := by
  refine ⟨by rw [qs_re rs_os (irr1 h)]; exact rs_nat h2.pos, fun z w e => ?_⟩
  have er : z.re * z.re + r * (z.im * z.im) = t * (w.re * w.re + r * (w.im * w.im)) := by
    have := congrArg Quad.re e
    simp only [Quad.mul_re, Quad.mul_im] at this
    grind
  have ei : z.re * z.im + z.im * z.re = t * (w.re * w.im + w.im * w.re) := by
    have := congrArg Quad.im e
    simp only [Quad.mul_re, Quad.mul_im] at this
    grind
  -- z times w turned: p and q
  obtain ⟨p, hp⟩ : ∃ p, p = z.re * w.re - r * (z.im * w.im) := ⟨_, rfl⟩
  obtain ⟨q, hq⟩ : ∃ q, q = z.im * w.re - z.re * w.im := ⟨_, rfl⟩
  have hn : nrm w = w.re * w.re - r * (w.im * w.im) := rfl
  have f1 : p * p + r * (q * q) = t * (nrm w * nrm w) := by rw [hp, hq, hn]; grind
  have f2 : p * q = 0 := by rw [hp, hq]; grind
  have f3 : nrm w = 0 := by
    rcases rs_os.noz f2 with z0 | z0
    · rw [z0] at f1
      have : (r * q) * (r * q) = ((r * t : Nat) : Rat) * (nrm w * nrm w) := by
        have : ((r * t : Nat) : Rat) = (r : Rat) * t := by norm_cast
        rw [this]; grind
      exact irrQ h3 this
    · rw [z0] at f1
      exact irrQ h2 (show p * p = (t : Rat) * (nrm w * nrm w) by grind)
  exact nrm_zero rs_os (irr1 h) f3
/-- the ratios and both roots -/
abbrev K2 (r t : Nat) : Type := Quad (K1 r) ⟨(t : Rat), 0⟩
theorem os2 {r t : Nat} (h : NonSq r) (h2 : NonSq t) (h3 : NonSq (r * t)) : OS (K2 r t) (qs (qs rs)) := qs_os (os1 h) (irr2 h h2 h3)
end Sgn

/-! # SG3: bounds from below and above -/
namespace Sgn
open Lean.Grind
/-- a whole number in K -/
def iK {K : Type} [CommRing K] (n : Int) : K := Ring.intCast.intCast n
section
variable {K : Type} [CommRing K]
@[simp] theorem iK_add (a b : Int) : (iK (a + b) : K) = iK a + iK b := Ring.intCast_add a b
@[simp] theorem iK_sub (a b : Int) : (iK (a - b) : K) = iK a - iK b := Ring.intCast_sub a b
@[simp] theorem iK_mul (a b : Int) : (iK (a * b) : K) = iK a * iK b := Ring.intCast_mul a b
@[simp] theorem iK_neg (a : Int) : (iK (-a) : K) = -iK a := Ring.intCast_neg a
@[simp] theorem iK_zero : (iK 0 : K) = 0 := Ring.intCast_zero
@[simp] theorem iK_one : (iK 1 : K) = 1 := Ring.intCast_one
end
section
variable {K : Type} [CommRing K] {s : K → Int} (o : OS K s)
include o
theorem s_nat : ∀ n : Nat, s (iK (n : Int)) = if n = 0 then 0 else 1
  | 0 => by
    rw [if_pos rfl, show ((0 : Nat) : Int) = 0 from rfl, iK_zero]; exact o.z
  | n + 1 => by
    rw [if_neg (by omega), Int.natCast_succ, show (iK ((n : Int) + 1) : K) = 1 + iK (n : Int) by rw [iK_add, iK_one]; grind]
    exact o.addP o.one (by rw [s_nat n]; split <;> omega)
theorem s_int (n : Int) : s (iK n) = if 0 < n then 1 else if n < 0 then -1 else 0 := by
  obtain ⟨m, rfl | rfl⟩ := Int.eq_nat_or_neg n
  · rw [s_nat o]
    split
    · rw [if_neg (by omega), if_neg (by omega)]
    · rw [if_pos (by omega)]
  · rw [iK_neg, o.neg, s_nat o]
    split
    · rw [if_neg (by omega), if_neg (by omega)]; rfl
    · rw [if_neg (by omega), if_pos (by omega)]
theorem s_int_pos {n : Int} (h : 0 < n) : s (iK n) = 1 := by rw [s_int o, if_pos h]
theorem s_int_nn {n : Int} (h : 0 ≤ n) : 0 ≤ s (iK n) := by
  rw [s_int o]; split
  · decide
  · rw [if_neg (by omega)]; decide
theorem int_of_s {n : Int} (h : 0 ≤ s (iK n)) : 0 ≤ n := by
  rw [s_int o] at h
  split at h
  · omega
  · split at h <;> omega
theorem cmpSq {a b : K} (ha : 0 ≤ s a) (hb : 0 ≤ s b) (h : 0 ≤ s (a * a - b * b)) : 0 ≤ s (a - b) := by
  rw [show a * a - b * b = (a + b) * (a - b) by grind, o.mul] at h
  have h1 := o.addL ha hb
  rcases o.tri (a + b) with c | c | c
  · rw [c] at h; omega
  · have e1 : a = 0 := by
      refine (o.zero a).mp ?_
      rcases o.tri a with z | z | z
      · rw [o.addP z hb] at c; omega
      · exact z
      · omega
    have e2 : a - b = -(a + b) := by rw [e1]; grind
    rw [e2, o.neg, c]; decide
  · omega
theorem nn_mul {a b : K} (ha : 0 ≤ s a) (hb : 0 ≤ s b) : 0 ≤ s (a * b) := by rw [o.mul]; exact Int.mul_nonneg ha hb
end
/-- the root of n, downwards -/
def flN : Nat → Nat
  | 0 => 0
  | n + 1 => if (flN n + 1) * (flN n + 1) ≤ n + 1 then flN n + 1 else flN n
theorem flN_ok : ∀ n : Nat, flN n * flN n ≤ n ∧ n < (flN n + 1) * (flN n + 1)
  | 0 => ⟨Nat.le_refl _, by decide⟩
  | n + 1 => by
    obtain ⟨h1, h2⟩ := flN_ok n
    unfold flN
    split
    · rename_i h
      refine ⟨h, ?_⟩
      have : (flN n + 1 + 1) * (flN n + 1 + 1) = (flN n + 1) * (flN n + 1) + 2 * (flN n + 1) + 1 := by grind
      omega
    · rename_i h
      exact ⟨by omega, by omega⟩
def fl (n : Int) : Int := (flN n.toNat : Int)
theorem fl_ok {n : Int} (h : 0 ≤ n) : 0 ≤ fl n ∧ fl n * fl n ≤ n ∧ n < (fl n + 1) * (fl n + 1) := by
  obtain ⟨h1, h2⟩ := flN_ok n.toNat
  obtain ⟨m, rfl⟩ := Int.eq_ofNat_of_zero_le h
  simp only [Int.toNat_natCast] at h1 h2
  unfold fl
  simp only [Int.toNat_natCast]
  exact ⟨by omega, by exact_mod_cast h1, by exact_mod_cast h2⟩
theorem sq_lt {a b : Int} (ha : 0 ≤ a) (h : a < b) : (a + 1) * (a + 1) ≤ b * b := Int.mul_le_mul (by omega) (by omega) (by omega) (by omega)
theorem fl_eq {n f : Int} (h0 : 0 ≤ f) (h1 : f * f ≤ n) (h2 : n < (f + 1) * (f + 1)) : f = fl n := by
  have hn : 0 ≤ n := Int.le_trans (Int.mul_nonneg h0 h0) h1
  obtain ⟨g0, g1, g2⟩ := fl_ok hn
  rcases Int.lt_trichotomy f (fl n) with h | h | h
  · have := sq_lt h0 h
    omega
  · exact h
  · have := sq_lt g0 h
    omega
/-- 1 if the root of n is not whole -/
def ex (n : Int) : Int := if fl n * fl n = n then 0 else 1
theorem ex01 (n : Int) : 0 ≤ ex n ∧ ex n ≤ 1 := by unfold ex; split <;> decide
abbrev inN (p : Int × Int) (S : Int) : Int := p.1 * p.1 * p.2 * S * S
def lowT (S : Int) (p : Int × Int) : Int := if 0 ≤ p.1 then fl (inN p S) else 0 - fl (inN p S) - ex (inN p S)
def highT (S : Int) (p : Int × Int) : Int := if 0 ≤ p.1 then fl (inN p S) + ex (inN p S) else 0 - fl (inN p S)
def lo (S : Int) : List (Int × Int) → Int
  | [] => 0
  | p :: l => lowT S p + lo S l
def hi (S : Int) : List (Int × Int) → Int
  | [] => 0
  | p :: l => highT S p + hi S l
theorem hi_lo (S : Int) : ∀ l, hi S l - lo S l ≤ l.length
  | [] => by simp [hi, lo]
  | p :: l => by
    have := hi_lo S l
    have := ex01 (inN p S)
    simp only [hi, lo, lowT, highT, List.length_cons]
    split <;> omega
section
variable {K : Type} [CommRing K] {s : K → Int}
/-- these are the roots, above nought -/
def Rts (s : K → Int) : List (Int × Int) → List K → Prop
  | [], [] => True
  | p :: l, ρ :: ρs => (0 ≤ p.2 ∧ s ρ = 1 ∧ ρ * ρ = iK p.2) ∧ Rts s l ρs
  | _, _ => False
def tot : List (Int × Int) → List K → K
  | p :: l, ρ :: ρs => iK p.1 * ρ + tot l ρs
  | _, _ => 0
variable (o : OS K s)
include o
theorem term_ok {p : Int × Int} {ρ : K} {S : Int} (hS : 0 ≤ S) (h0 : 0 ≤ p.2) (h1 : s ρ = 1) (h2 : ρ * ρ = iK p.2) :
    0 ≤ s (iK S * (iK p.1 * ρ) - iK (lowT S p)) ∧ 0 ≤ s (iK (highT S p) - iK S * (iK p.1 * ρ)) := by
  obtain ⟨n, k⟩ := p
  have h0 : 0 ≤ k := h0
  have h2 : ρ * ρ = iK k := h2
  obtain ⟨m, hm0, hm, hm2⟩ : ∃ m : Int, 0 ≤ m ∧ m * m = n * n ∧ (m = n ∨ m = -n) := by
    by_cases c : 0 ≤ n
    · exact ⟨n, c, rfl, .inl rfl⟩
    · exact ⟨-n, by omega, by grind, .inr rfl⟩
  have hN0 : 0 ≤ inN (n, k) S := Int.mul_nonneg (Int.mul_nonneg (Int.mul_nonneg (by have := Int.mul_nonneg hm0 hm0; rw [hm] at this; exact this) h0) hS) hS
  obtain ⟨g0, g1, g2⟩ := fl_ok hN0
  obtain ⟨N, hN⟩ : ∃ N, N = inN (n, k) S := ⟨_, rfl⟩
  rw [← hN] at g0 g1 g2 hN0
  have ha : 0 ≤ s (iK m * iK S * ρ) := nn_mul o (nn_mul o (s_int_nn o hm0) (s_int_nn o hS)) (by omega)
  have sqa : (iK m * iK S * ρ) * (iK m * iK S * ρ) = (iK N : K) := by
    have e : (iK N : K) = iK m * iK m * iK k * iK S * iK S := by
      rw [hN]
      show (iK (n * n * k * S * S) : K) = _
      rw [← hm]
      simp only [iK_mul]
    rw [e, ← h2]; grind
  have b1 : 0 ≤ s (iK m * iK S * ρ - iK (fl N)) := by
    refine cmpSq o ha (s_int_nn o g0) ?_
    rw [sqa, ← iK_mul, ← iK_sub]
    exact s_int_nn o (by omega)
  have b2 : 0 ≤ s (iK (fl N + ex N) - iK m * iK S * ρ) := by
    have hx := ex01 N
    refine cmpSq o (s_int_nn o (by omega)) ha ?_
    rw [sqa, ← iK_mul, ← iK_sub]
    refine s_int_nn o ?_
    unfold ex
    split
    · rename_i h
      have : (fl N + 0) * (fl N + 0) = N := by rw [Int.add_zero]; exact h
      omega
    · omega
  by_cases hn : 0 ≤ n
  · have e : m = n := by omega
    subst e
    have eL : lowT S (m, k) = fl N := by unfold lowT; rw [if_pos hn, ← hN]
    have eH : highT S (m, k) = fl N + ex N := by unfold highT; rw [if_pos hn, ← hN]
    rw [eL, eH]
    show 0 ≤ s (iK S * (iK m * ρ) - _) ∧ 0 ≤ s (_ - iK S * (iK m * ρ))
    rw [show iK S * (iK m * ρ) = iK m * iK S * ρ by grind]
    exact ⟨b1, b2⟩
  · have e : n = -m := by omega
    subst e
    have eL : lowT S (-m, k) = 0 - fl N - ex N := by unfold lowT; rw [if_neg hn, ← hN]
    have eH : highT S (-m, k) = 0 - fl N := by unfold highT; rw [if_neg hn, ← hN]
    rw [eL, eH]
    show 0 ≤ s (iK S * (iK (-m) * ρ) - _) ∧ 0 ≤ s (_ - iK S * (iK (-m) * ρ))
    refine ⟨?_, ?_⟩
    · rw [show iK S * (iK (-m) * ρ) - iK (0 - fl N - ex N) = iK (fl N + ex N) - iK m * iK S * ρ by simp only [iK_sub, iK_add, iK_neg, iK_zero]; grind]
      exact b2
    · rw [show iK (0 - fl N) - iK S * (iK (-m) * ρ) = iK m * iK S * ρ - iK (fl N) by simp only [iK_sub, iK_add, iK_neg, iK_zero]; grind]
      exact b1
theorem bounds {S : Int} (hS : 0 ≤ S) : ∀ (l : List (Int × Int)) (ρs : List K), Rts s l ρs → 0 ≤ s (iK S * tot l ρs - iK (lo S l)) ∧ 0 ≤ s (iK (hi S l) - iK S * tot l ρs)
  | [], [], _ => by
    have e : iK S * tot ([] : List (Int × Int)) ([] : List K) - iK (lo S []) = 0 := by simp only [tot, lo, iK_zero]; grind
    have e2 : iK (hi S []) - iK S * tot ([] : List (Int × Int)) ([] : List K) = 0 := by simp only [tot, hi, iK_zero]; grind
    rw [e, e2, o.z]
    decide
  | p :: l, ρ :: ρs, h => by
    obtain ⟨a1, a2⟩ := term_ok o hS h.1.1 h.1.2.1 h.1.2.2
    obtain ⟨b1, b2⟩ := bounds hS l ρs h.2
    have c1 := o.addL a1 b1
    have c2 := o.addL a2 b2
    refine ⟨?_, ?_⟩
    · rw [show iK S * tot (p :: l) (ρ :: ρs) - iK (lo S (p :: l)) = (iK S * (iK p.1 * ρ) - iK (lowT S p)) + (iK S * tot l ρs - iK (lo S l)) by simp only [tot, lo, iK_add]; grind]
      exact c1
    · rw [show iK (hi S (p :: l)) - iK S * tot (p :: l) (ρ :: ρs) = (iK (highT S p) - iK S * (iK p.1 * ρ)) + (iK (hi S l) - iK S * tot l ρs) by simp only [tot, hi, iK_add]; grind]
      exact c2
  | [], _ :: _, h => h.elim
  | _ :: _, [], h => h.elim
theorem lo_pos {S : Int} {l : List (Int × Int)} {ρs : List K} (hS : 0 < S) (h : Rts s l ρs) (hl : 0 < lo S l) : s (tot l ρs) = 1 := by
  have h1 := (bounds o (Int.le_of_lt hS) l ρs h).1
  have h2 := o.addP (s_int_pos o hl) h1
  rw [show iK (lo S l) + (iK S * tot l ρs - iK (lo S l)) = iK S * tot l ρs by grind, o.mul, s_int_pos o hS] at h2
  omega
theorem hi_neg {S : Int} {l : List (Int × Int)} {ρs : List K} (hS : 0 < S) (h : Rts s l ρs) (hl : hi S l < 0) : s (tot l ρs) = -1 := by
  have h1 := (bounds o (Int.le_of_lt hS) l ρs h).2
  have h2 := o.addP (s_int_pos o (n := -hi S l) (by omega)) h1
  rw [show iK (-hi S l) + (iK (hi S l) - iK S * tot l ρs) = -(iK S * tot l ρs) by rw [iK_neg]; grind, o.neg, o.mul, s_int_pos o hS] at h2
  omega
/-- the number x is one over B from nought, or more -/
def Far (s : K → Int) (B : Int) (x : K) : Prop := 0 ≤ s (iK B * x - 1) ∨ 0 ≤ s (iK B * (-x) - 1)
/-- far enough the bounds tell -/
theorem told {S B N : Int} {l : List (Int × Int)} {ρs : List K} (h : Rts s l ρs) (h3 : l.length ≤ N) (hB0 : 0 ≤ B) (hB : (N + 1) * B ≤ S) (hx : Far s B (tot l ρs)) : 0 < lo S l ∨ hi S l < 0 := by
  have hl := hi_lo S l
  have hN : 0 ≤ N := by omega
  have hP := Int.mul_nonneg (show 0 ≤ N + 1 by omega) hB0
  have hS : 0 ≤ S := by omega
  obtain ⟨R, hR0, hR⟩ : ∃ R, 0 ≤ R ∧ S = (N + 1) * B + R := ⟨S - (N + 1) * B, by omega, by omega⟩
  have key : ∀ y : K, 0 ≤ s (iK B * y - 1) → 0 ≤ s (iK S * y - iK (N + 1)) := fun y hy => by
    have sy : 0 ≤ s y := by
      have h1 := o.addP o.one hy
      rw [show (1 : K) + (iK B * y - 1) = iK B * y by grind, o.mul] at h1
      have h2 := s_int_nn o hB0
      rcases o.tri y with z | z | z
      · omega
      · omega
      · rw [z] at h1
        omega
    have h1 := nn_mul o (s_int_nn o (n := N + 1) (by omega)) hy
    have h2 := nn_mul o (s_int_nn o hR0) sy
    have h3 := o.addL h1 h2
    rw [show iK S * y - iK (N + 1) = iK (N + 1) * (iK B * y - 1) + iK R * y by rw [hR]; simp only [iK_add, iK_mul, iK_one]; grind]
    exact h3
  rcases hx with hx | hx
  · have h1 := o.addL (bounds o hS l ρs h).2 (key _ hx)
    rw [show iK (hi S l) - iK S * tot l ρs + (iK S * tot l ρs - iK (N + 1)) = iK (hi S l - (N + 1)) by rw [iK_sub]; grind] at h1
    have := int_of_s o h1
    omega
  · have h1 := o.addL (bounds o hS l ρs h).1 (key _ hx)
    rw [show iK S * tot l ρs - iK (lo S l) + (iK S * (-tot l ρs) - iK (N + 1)) = iK (-lo S l - (N + 1)) by rw [iK_sub, iK_neg]; grind] at h1
    have := int_of_s o h1
    omega
/-- x is at most C, either way -/
def Bd (s : K → Int) (C : Int) (x : K) : Prop := 0 ≤ s (iK C - x) ∧ 0 ≤ s (iK C + x)
theorem bd_add {A B : Int} {x y : K} (h : Bd s A x) (g : Bd s B y) : Bd s (A + B) (x + y) := by
  have h1 := o.addL h.1 g.1
  have h2 := o.addL h.2 g.2
  refine ⟨?_, ?_⟩
  · rw [show iK (A + B) - (x + y) = (iK A - x) + (iK B - y) by rw [iK_add]; grind]; exact h1
  · rw [show iK (A + B) + (x + y) = (iK A + x) + (iK B + y) by rw [iK_add]; grind]; exact h2
theorem bd_mul {A B : Int} {x y : K} (h : Bd s A x) (g : Bd s B y) (hA : 0 ≤ A) (hB : 0 ≤ B) : Bd s (A * B) (x * y) := by
  have p1 := nn_mul o h.1 g.1
  have p2 := nn_mul o h.2 g.2
  have p3 := nn_mul o h.1 g.2
  have p4 := nn_mul o h.2 g.1
  have half : ∀ z : K, 0 ≤ s ((1 + 1) * z) → 0 ≤ s z := fun z hz => by rw [o.mul, o.two] at hz; omega
  refine ⟨half _ ?_, half _ ?_⟩
  · have := o.addL p3 p4
    rw [show (1 + 1) * (iK (A * B) - x * y) = (iK A - x) * (iK B + y) + (iK A + x) * (iK B - y) by rw [iK_mul]; grind]
    exact this
  · have := o.addL p1 p2
    rw [show (1 + 1) * (iK (A * B) + x * y) = (iK A - x) * (iK B - y) + (iK A + x) * (iK B + y) by rw [iK_mul]; grind]
    exact this
theorem bd_int {A n : Int} (h : -A ≤ n ∧ n ≤ A) : Bd s A (iK n) := by
  refine ⟨?_, ?_⟩
  · rw [← iK_sub]; exact s_int_nn o (by omega)
  · rw [← iK_add]; exact s_int_nn o (by omega)
theorem bd_neg {A : Int} {x : K} (h : Bd s A x) : Bd s A (-x) := ⟨by rw [show iK A - -x = iK A + x by grind]; exact h.2, by rw [show iK A + -x = iK A - x by grind]; exact h.1⟩
theorem bd_root {k : Int} {ρ : K} (hk : 1 ≤ k) (h1 : s ρ = 1) (h2 : ρ * ρ = iK k) : Bd s k ρ := by
  refine ⟨cmpSq o (s_int_nn o (by omega)) (by omega) ?_, by rw [o.addP (s_int_pos o (by omega)) (by omega)]; decide⟩
  rw [h2, ← iK_mul, ← iK_sub]
  refine s_int_nn o ?_
  have := Int.mul_le_mul_of_nonneg_right hk (show 0 ≤ k by omega)
  omega
/-- x times something that is not too great is a whole number, not nought -/
theorem far_of {C m : Int} {x c : K} (hC : 0 ≤ C) (hm : m ≠ 0) (h : x * c = iK m) (hc : Bd s C c) : Far s C x := by
  have pos : ∀ y : K, 0 ≤ s y → 0 ≤ s (iK C * y - y * c) ∧ 0 ≤ s (iK C * y + y * c) := fun y hy => by
    refine ⟨?_, ?_⟩
    · rw [show iK C * y - y * c = y * (iK C - c) by grind]; exact nn_mul o hy hc.1
    · rw [show iK C * y + y * c = y * (iK C + c) by grind]; exact nn_mul o hy hc.2
  have fin : ∀ y : K, 0 ≤ s y → (y * c = iK m ∨ y * c = -iK m) → 0 ≤ s (iK C * y - 1) := fun y hy e => by
    obtain ⟨p1, p2⟩ := pos y hy
    obtain ⟨n, hn, e⟩ : ∃ n : Int, n ≠ 0 ∧ y * c = iK n := by
      rcases e with e | e
      · exact ⟨m, hm, e⟩
      · exact ⟨-m, by omega, by rw [iK_neg]; exact e⟩
    rw [e] at p1 p2
    by_cases c0 : 0 < n
    · have := o.addL p1 (s_int_nn o (n := n - 1) (by omega))
      rw [show iK C * y - 1 = (iK C * y - iK n) + iK (n - 1) by rw [iK_sub, iK_one]; grind]
      exact this
    · have := o.addL p2 (s_int_nn o (n := -n - 1) (by omega))
      rw [show iK C * y - 1 = (iK C * y + iK n) + iK (-n - 1) by rw [iK_sub, iK_neg, iK_one]; grind]
      exact this
  rcases o.tri x with z | z | z
  · exact .inl (fin x (by omega) (.inl h))
  · exact .inl (fin x (by omega) (.inl h))
  · exact .inr (fin (-x) (by rw [o.neg, z]; decide) (.inr (by rw [← h]; grind)))
end
end Sgn

/-! # SG4: the sign of a length; the bounds tell it -/
namespace Sgn
open Lean.Grind
/-- the ratio of a pair -/
def rv (x : Int × Int) : Rat := (x.1 : Rat) / (x.2 : Rat)
/-- the sign of a length -/
def lenSgn : List Int → List (Int × Int) → Int
  | [], [a] => rs (rv a)
  | [r], [a, b] => qs rs (⟨rv a, rv b⟩ : K1 r.toNat)
  | [r, t], [a, b, c] => qs (qs rs) (⟨⟨rv a, rv b⟩, ⟨rv c, 0⟩⟩ : K2 r.toNat t.toNat)
  | _, _ => 0
/-- roots that are no whole numbers, and do not depend -/
def Rok : List Int → Prop
  | [] => True
  | [r] => r ≤ 99 ∧ NonSq r.toNat
  | [r, t] => r ≤ 99 ∧ t ≤ 99 ∧ NonSq r.toNat ∧ NonSq t.toNat ∧ NonSq (r.toNat * t.toNat)
  | _ => False
section
variable {K : Type} [CommRing K] {s : K → Int} (o : OS K s)
include o
theorem bd_mono {A B : Int} {x : K} (h : Bd s A x) (g : A ≤ B) : Bd s B x := by
  have h1 := o.addL h.1 (s_int_nn o (n := B - A) (by omega))
  have h2 := o.addL h.2 (s_int_nn o (n := B - A) (by omega))
  refine ⟨?_, ?_⟩
  · rw [show iK B - x = (iK A - x) + iK (B - A) by rw [iK_sub]; grind]; exact h1
  · rw [show iK B + x = (iK A + x) + iK (B - A) by rw [iK_sub]; grind]; exact h2
end
theorem iK_rat (n : Int) : (iK n : Rat) = (n : Rat) := rfl
theorem iK_re {K : Type} [CommRing K] {d : K} (n : Int) : (iK n : Quad K d) = ⟨iK n, 0⟩ := rfl
/-- the roots of units as numbers -/
def rtsOf : List Int → Type
  | [] => Rat
  | [r] => K1 r.toNat
  | [r, t] => K2 r.toNat t.toNat
  | _ => Rat
theorem far0 {n : Int} (h : n ≠ 0) : Far rs 1 (tot [(n, 1)] [(1 : Rat)]) := by
  refine far_of (m := n) (c := 1) rs_os (by decide) h ?_ (by have b := bd_int rs_os (A := 1) (n := 1) (by omega); rwa [iK_one] at b)
  simp only [tot]; grind
theorem rts0 (n : Int) : Rts rs [(n, 1)] [(1 : Rat)] := ⟨⟨by show (0 : Int) ≤ 1; decide, by decide +kernel, by rw [iK_one]; grind⟩, trivial⟩
abbrev ρ1 (r : Nat) : K1 r := ⟨0, 1⟩
theorem natI {r : Int} (h : 0 ≤ r) : ((r.toNat : Nat) : Rat) = (r : Rat) := by
  obtain ⟨m, rfl⟩ := Int.eq_ofNat_of_zero_le h
  rw [Int.toNat_natCast]; norm_cast
theorem ρ1_sq {r : Int} (h : 0 ≤ r) : ρ1 r.toNat * ρ1 r.toNat = iK r := by
  ext
  · show (0 : Rat) * 0 + (r.toNat : Rat) * (1 * 1) = (r : Rat)
    rw [natI h]; grind
  · show (0 : Rat) * 1 + 1 * 0 = 0
    grind
theorem ρ1_pos {r : Nat} (h : NonSq r) : qs rs (ρ1 r) = 1 := by
  refine (qsM ?_).trans (by show rs 1 = 1; decide +kernel)
  refine (show nrm (ρ1 r) = -(r : Rat) by unfold nrm; grind) ▸ ?_
  rw [rs_os.neg, rs_nat h.pos]
theorem one_pos1 {r : Nat} (h : NonSq r) : qs rs (1 : K1 r) = 1 := (os1 h).one
theorem rts1 {r : Int} (h0 : 0 ≤ r) (h : NonSq r.toNat) (n m : Int) : Rts (qs rs) [(n, 1), (m, r)] [(1 : K1 r.toNat), ρ1 r.toNat] :=
  ⟨⟨by show (0 : Int) ≤ 1; decide, one_pos1 h, by rw [iK_one]; grind⟩, ⟨h0, ρ1_pos h, ρ1_sq h0⟩, trivial⟩
theorem tot1 {r : Int} (n m : Int) : tot [(n, 1), (m, r)] [(1 : K1 r.toNat), ρ1 r.toNat] = ⟨(n : Rat), (m : Rat)⟩ := by
  simp only [tot]
  ext
  · show ((n : Rat) * 1 + (r.toNat : Rat) * (0 * 0)) + (((m : Rat) * 0 + (r.toNat : Rat) * (0 * 1)) + 0) = (n : Rat)
    grind
  · show ((n : Rat) * 0 + 0 * 1) + (((m : Rat) * 1 + 0 * 0) + 0) = (m : Rat)
    grind
theorem NonSq.ge {r : Int} (h : NonSq r.toNat) : 0 ≤ r ∧ 1 ≤ r := by
  have := h.pos
  omega
theorem irrZ {r : Int} (h : NonSq r.toNat) {x y : Int} (e : x * x = r * (y * y)) : y = 0 := irrI h (by rw [show ((r.toNat : Nat) : Int) = r by have := h.ge; omega]; exact e)
theorem sqz {x : Int} (h : x * x = 0) : x = 0 := (Int.mul_eq_zero.mp h).elim id id
theorem abs_mul {A B x y : Int} (hA : -A ≤ x ∧ x ≤ A) (hB : -B ≤ y ∧ y ≤ B) : -(A * B) ≤ x * y ∧ x * y ≤ A * B := by
  have h := Int.mul_le_mul (show (x.natAbs : Int) ≤ A by omega) (show (y.natAbs : Int) ≤ B by omega) (by omega) (by omega)
  have e : ((x.natAbs : Nat) : Int) * y.natAbs = ((x * y).natAbs : Nat) := by rw [Int.natAbs_mul]; simp
  rw [e] at h
  omega
theorem far1 {r : Int} (h : NonSq r.toNat) (hr : r ≤ 99) {n m A : Int} (hA : 1 ≤ A) (hn : -A ≤ n ∧ n ≤ A) (hm : -A ≤ m ∧ m ≤ A) (hz : ¬(n = 0 ∧ m = 0)) : Far (qs rs) (100 * A) (tot [(n, 1), (m, r)] [(1 : K1 r.toNat), ρ1 r.toNat]) := by
  obtain ⟨h0, h1⟩ := h.ge
  refine far_of (m := n * n - r * (m * m)) (c := iK n + -(iK m * ρ1 r.toNat)) (os1 h) (by omega) (fun z => hz ?_) ?_ ?_
  · have e : n * n = r * (m * m) := by omega
    have := irrZ h e
    subst this
    exact ⟨sqz (by omega), rfl⟩
  · have e := ρ1_sq h0
    simp only [tot, iK_sub, iK_mul, iK_one]
    rw [← e]; grind
  · have b1 := bd_int (os1 h) hn
    have b2 := bd_mul (os1 h) (bd_int (os1 h) hm) (bd_root (os1 h) h1 (ρ1_pos h) (ρ1_sq h0)) (by omega) h0
    refine bd_mono (os1 h) (bd_add (os1 h) b1 (bd_neg (os1 h) b2)) ?_
    have := Int.mul_le_mul_of_nonneg_left hr (show 0 ≤ A by omega)
    omega
abbrev ρ2 (r t : Nat) : K2 r t := ⟨⟨0, 1⟩, 0⟩
abbrev τ2 (r t : Nat) : K2 r t := ⟨0, 1⟩
section
variable {r t : Int} (h : NonSq r.toNat) (g : NonSq t.toNat) (k : NonSq (r.toNat * t.toNat))
include h g k
theorem ρ2_sq : ρ2 r.toNat t.toNat * ρ2 r.toNat t.toNat = iK r := by
  have e := ρ1_sq h.ge.1
  ext
  · exact (show (ρ1 r.toNat * ρ1 r.toNat + ⟨(t.toNat : Rat), 0⟩ * ((0 : K1 r.toNat) * 0)).re = _ by rw [e]; show (r : Rat) + ((t.toNat : Rat) * (0 * 0 + _ * (0 * 0)) + _ * (0 * _)) = (r : Rat); grind)
  · exact (show (ρ1 r.toNat * ρ1 r.toNat + ⟨(t.toNat : Rat), 0⟩ * ((0 : K1 r.toNat) * 0)).im = _ by rw [e]; show (0 : Rat) + ((t.toNat : Rat) * (0 * 0 + 0 * 0) + 0 * _) = (0 : Rat); grind)
  · show (ρ1 r.toNat * 0 + 0 * ρ1 r.toNat : K1 r.toNat).re = 0
    rw [show (ρ1 r.toNat * 0 + 0 * ρ1 r.toNat : K1 r.toNat) = 0 by grind]; rfl
  · show (ρ1 r.toNat * 0 + 0 * ρ1 r.toNat : K1 r.toNat).im = 0
    rw [show (ρ1 r.toNat * 0 + 0 * ρ1 r.toNat : K1 r.toNat) = 0 by grind]; rfl
theorem τ2_sq : τ2 r.toNat t.toNat * τ2 r.toNat t.toNat = iK t := by
  have e1 : (0 : K1 r.toNat) * 0 + ⟨(t.toNat : Rat), 0⟩ * (1 * 1) = ⟨(t : Rat), 0⟩ := by
    rw [natI g.ge.1]; grind
  have e2 : (0 : K1 r.toNat) * 1 + 1 * 0 = 0 := by grind
  exact Quad.ext e1 e2
theorem ρ2_pos : qs (qs rs) (ρ2 r.toNat t.toNat) = 1 := by
  rw [qs_re (os1 h) (irr2 h g k)]; exact ρ1_pos h
theorem τ2_pos : qs (qs rs) (τ2 r.toNat t.toNat) = 1 := by
  refine (qsM ?_).trans (one_pos1 h)
  rw [show nrm (τ2 r.toNat t.toNat) = -⟨(t.toNat : Rat), 0⟩ by unfold nrm; grind, (os1 h).neg, (irr2 h g k).pos]
theorem rts2 (n m l : Int) : Rts (qs (qs rs)) [(n, 1), (m, r), (l, t)] [(1 : K2 r.toNat t.toNat), ρ2 r.toNat t.toNat, τ2 r.toNat t.toNat] :=
  ⟨⟨by show (0 : Int) ≤ 1; decide, (os2 h g k).one, by rw [iK_one]; grind⟩, ⟨h.ge.1, ρ2_pos h g k, ρ2_sq h g k⟩, ⟨g.ge.1, τ2_pos h g k, τ2_sq h g k⟩, trivial⟩
theorem tot2 (n m l : Int) : tot [(n, 1), (m, r), (l, t)] [(1 : K2 r.toNat t.toNat), ρ2 r.toNat t.toNat, τ2 r.toNat t.toNat] = ⟨⟨(n : Rat), (m : Rat)⟩, ⟨(l : Rat), 0⟩⟩ := by
  have e1 : (iK n : K1 r.toNat) * 1 + ⟨(t.toNat : Rat), 0⟩ * (0 * 0) + (((iK m : K1 r.toNat) * ρ1 r.toNat + ⟨(t.toNat : Rat), 0⟩ * (0 * 0)) + (((iK l : K1 r.toNat) * 0 + ⟨(t.toNat : Rat), 0⟩ * (0 * 1)) + 0)) = iK n + iK m * ρ1 r.toNat := by grind
  have e2 : (iK n : K1 r.toNat) * 0 + 0 * 1 + (((iK m : K1 r.toNat) * 0 + 0 * ρ1 r.toNat) + (((iK l : K1 r.toNat) * 1 + 0 * 0) + 0)) = iK l := by grind
  refine Quad.ext (e1.trans ?_) (e2.trans rfl)
  ext
  · show (n : Rat) + ((m : Rat) * 0 + (r.toNat : Rat) * (0 * 1)) = n
    grind
  · show (0 : Rat) + ((m : Rat) * 1 + 0 * 0) = m
    grind
theorem far2 (hr : r ≤ 99) (ht : t ≤ 99) {n m l A : Int} (hA : 1 ≤ A) (hn : -A ≤ n ∧ n ≤ A) (hm : -A ≤ m ∧ m ≤ A) (hl : -A ≤ l ∧ l ≤ A) (hz : ¬(n = 0 ∧ m = 0 ∧ l = 0)) :
    Far (qs (qs rs)) (199 * A * (397 * (A * A))) (tot [(n, 1), (m, r), (l, t)] [(1 : K2 r.toNat t.toNat), ρ2 r.toNat t.toNat, τ2 r.toNat t.toNat]) := by
  have O := os2 h g k
  obtain ⟨r0, r1⟩ := h.ge
  obtain ⟨t0, t1⟩ := g.ge
  have er := ρ2_sq h g k
  have et := τ2_sq h g k
  obtain ⟨a, ha⟩ : ∃ a, a = n * n + r * (m * m) - t * (l * l) := ⟨_, rfl⟩
  obtain ⟨b, hb⟩ : ∃ b, b = 2 * (n * m) := ⟨_, rfl⟩
  have hA0 : 0 ≤ A := by omega
  refine far_of (m := a * a - r * (b * b)) (c := (iK n + iK m * ρ2 r.toNat t.toNat + -(iK l * τ2 r.toNat t.toNat)) * (iK a + -(iK b * ρ2 r.toNat t.toNat))) O (Int.mul_nonneg (by omega) (Int.mul_nonneg (by omega) (Int.mul_nonneg hA0 hA0))) (fun z => hz ?_) ?_ ?_
  · have e : a * a = r * (b * b) := by omega
    have b0 := irrZ h e
    rw [b0] at e
    have a0 : a = 0 := sqz (by omega)
    have nm : n * m = 0 := by omega
    rcases Int.mul_eq_zero.mp nm with z | z
    · subst z
      have e2 : r * (m * m) = t * (l * l) := by omega
      have e3 : (r * m) * (r * m) = (r * t) * (l * l) := by grind
      have l0 : l = 0 := by
        refine irrI (n := r.toNat * t.toNat) k ?_ (x := r * m)
        rw [e3]
        have : ((r.toNat * t.toNat : Nat) : Int) = r * t := by
          rw [Int.natCast_mul, show ((r.toNat : Nat) : Int) = r by omega, show ((t.toNat : Nat) : Int) = t by omega]
        rw [this]
      subst l0
      have : r * (m * m) = 0 := by omega
      rcases Int.mul_eq_zero.mp this with z | z
      · omega
      · exact ⟨rfl, sqz z, rfl⟩
    · subst z
      have e2 : n * n = t * (l * l) := by omega
      have l0 := irrZ g e2
      subst l0
      exact ⟨sqz (by omega), rfl, rfl⟩
  · simp only [tot]
    have ea : (iK a : K2 r.toNat t.toNat) = iK n * iK n + iK r * (iK m * iK m) - iK t * (iK l * iK l) := by rw [ha]; simp only [iK_add, iK_sub, iK_mul]
    have eb : (iK b : K2 r.toNat t.toNat) = (1 + 1) * (iK n * iK m) := by
      rw [hb, show (2 : Int) * (n * m) = n * m + n * m by omega]; simp only [iK_add, iK_mul]; grind
    have f1 : (iK n * 1 + (iK m * ρ2 r.toNat t.toNat + (iK l * τ2 r.toNat t.toNat + 0))) * (iK n + iK m * ρ2 r.toNat t.toNat + -(iK l * τ2 r.toNat t.toNat)) = iK a + iK b * ρ2 r.toNat t.toNat := by
      rw [ea, eb, ← er, ← et]; grind
    have f2 : (iK a + iK b * ρ2 r.toNat t.toNat) * (iK a + -(iK b * ρ2 r.toNat t.toNat)) = iK (a * a - r * (b * b)) := by
      simp only [iK_sub, iK_mul]
      rw [← er]; grind
    rw [← f2, ← f1]; grind
  · have bρ := bd_root O r1 (ρ2_pos h g k) er
    have bτ := bd_root O t1 (τ2_pos h g k) et
    have c1 := bd_add O (bd_add O (bd_int O hn) (bd_mul O (bd_int O hm) bρ hA0 r0)) (bd_neg O (bd_mul O (bd_int O hl) bτ hA0 t0))
    have AA : 0 ≤ A * A := Int.mul_nonneg hA0 hA0
    have qn := abs_mul hn hn
    have qm := abs_mul hm hm
    have ql := abs_mul hl hl
    have qnm := abs_mul hn hm
    have qa : -(199 * (A * A)) ≤ a ∧ a ≤ 199 * (A * A) := by
      have w1 := abs_mul (A := 99) (B := A * A) (x := r) (y := m * m) (by omega) qm
      have w2 := abs_mul (A := 99) (B := A * A) (x := t) (y := l * l) (by omega) ql
      omega
    have qb : -(2 * (A * A)) ≤ b ∧ b ≤ 2 * (A * A) := by omega
    have c2 := bd_add O (bd_int O qa) (bd_neg O (bd_mul O (bd_int O qb) bρ (by omega) r0))
    have d1 := bd_mono O c1 (B := 199 * A) (by
      have := Int.mul_le_mul_of_nonneg_left hr hA0
      have := Int.mul_le_mul_of_nonneg_left ht hA0
      omega)
    have d2 := bd_mono O c2 (B := 397 * (A * A)) (by
      have := Int.mul_le_mul_of_nonneg_left hr (show 0 ≤ 2 * (A * A) by omega)
      omega)
    exact bd_mul O d1 d2 (by omega) (by omega)
theorem ρτ_sq : (ρ2 r.toNat t.toNat * τ2 r.toNat t.toNat) * (ρ2 r.toNat t.toNat * τ2 r.toNat t.toNat) = iK (r * t) := by
  have e1 := ρ2_sq h g k
  have e2 := τ2_sq h g k
  rw [iK_mul, ← e1, ← e2]; grind
theorem ρτ_pos : qs (qs rs) (ρ2 r.toNat t.toNat * τ2 r.toNat t.toNat) = 1 := (os2 h g k).mulP (ρ2_pos h g k) (τ2_pos h g k)
theorem rtsA (n m l d : Int) : Rts (qs (qs rs)) [(n, 1), (m, r), (l, t), (d, r * t)] ([1, ρ2 r.toNat t.toNat, τ2 r.toNat t.toNat, ρ2 r.toNat t.toNat * τ2 r.toNat t.toNat] : List (K2 r.toNat t.toNat)) :=
  ⟨⟨by show (0 : Int) ≤ 1; decide, (os2 h g k).one, by rw [iK_one]; grind⟩, ⟨h.ge.1, ρ2_pos h g k, ρ2_sq h g k⟩, ⟨g.ge.1, τ2_pos h g k, τ2_sq h g k⟩, ⟨Int.mul_nonneg h.ge.1 g.ge.1, ρτ_pos h g k, ρτ_sq h g k⟩, trivial⟩
theorem ρτ_mk : ρ2 r.toNat t.toNat * τ2 r.toNat t.toNat = ⟨0, ⟨0, 1⟩⟩ := by
  have e1 : (⟨0, 1⟩ : K1 r.toNat) * 0 + ⟨(t.toNat : Rat), 0⟩ * (0 * 1) = 0 := by grind
  have e2 : (⟨0, 1⟩ : K1 r.toNat) * 1 + 0 * 0 = ⟨0, 1⟩ := by grind
  exact Quad.ext e1 e2
theorem totA (n m l d : Int) : tot [(n, 1), (m, r), (l, t), (d, r * t)] ([1, ρ2 r.toNat t.toNat, τ2 r.toNat t.toNat, ρ2 r.toNat t.toNat * τ2 r.toNat t.toNat] : List (K2 r.toNat t.toNat)) = ⟨⟨(n : Rat), (m : Rat)⟩, ⟨(l : Rat), (d : Rat)⟩⟩ := by
  rw [ρτ_mk h g k]
  have e1 : (iK n : K1 r.toNat) * 1 + ⟨(t.toNat : Rat), 0⟩ * (0 * 0) + (((iK m : K1 r.toNat) * ρ1 r.toNat + ⟨(t.toNat : Rat), 0⟩ * (0 * 0)) + (((iK l : K1 r.toNat) * 0 + ⟨(t.toNat : Rat), 0⟩ * (0 * 1)) + (((iK d : K1 r.toNat) * 0 + ⟨(t.toNat : Rat), 0⟩ * (0 * ρ1 r.toNat)) + 0))) = iK n + iK m * ρ1 r.toNat := by grind
  have e2 : (iK n : K1 r.toNat) * 0 + 0 * 1 + (((iK m : K1 r.toNat) * 0 + 0 * ρ1 r.toNat) + (((iK l : K1 r.toNat) * 1 + 0 * 0) + (((iK d : K1 r.toNat) * ρ1 r.toNat + 0 * 0) + 0))) = iK l + iK d * ρ1 r.toNat := by grind
  have f : ∀ a b : Int, (iK a : K1 r.toNat) + iK b * ρ1 r.toNat = ⟨(a : Rat), (b : Rat)⟩ := fun a b => by
    ext
    · show (a : Rat) + ((b : Rat) * 0 + (r.toNat : Rat) * (0 * 1)) = a
      grind
    · show (0 : Rat) + ((b : Rat) * 1 + 0 * 0) = b
      grind
  exact Quad.ext (e1.trans (f n m)) (e2.trans (f l d))
theorem farA (hr : r ≤ 99) (ht : t ≤ 99) {n m l d A : Int} (hA : 1 ≤ A) (hn : -A ≤ n ∧ n ≤ A) (hm : -A ≤ m ∧ m ≤ A) (hl : -A ≤ l ∧ l ≤ A) (hd : -A ≤ d ∧ d ≤ A) (hz : ¬(n = 0 ∧ m = 0 ∧ l = 0 ∧ d = 0)) :
    Far (qs (qs rs)) (10000 * A * (29800 * (A * A))) (tot [(n, 1), (m, r), (l, t), (d, r * t)] ([1, ρ2 r.toNat t.toNat, τ2 r.toNat t.toNat, ρ2 r.toNat t.toNat * τ2 r.toNat t.toNat] : List (K2 r.toNat t.toNat))) := by
  have O := os2 h g k
  obtain ⟨r0, r1⟩ := h.ge
  obtain ⟨t0, t1⟩ := g.ge
  have er := ρ2_sq h g k
  have et := τ2_sq h g k
  have erz := ρ1_sq r0
  obtain ⟨a, ha⟩ : ∃ a, a = n * n + r * (m * m) - t * (l * l) - t * (r * (d * d)) := ⟨_, rfl⟩
  obtain ⟨b, hb⟩ : ∃ b, b = 2 * (n * m) - t * (2 * (l * d)) := ⟨_, rfl⟩
  have hA0 : 0 ≤ A := by omega
  have AA : 0 ≤ A * A := Int.mul_nonneg hA0 hA0
  have tA := totA h g k n m l d
  have no : ¬(a = 0 ∧ b = 0) := fun z => hz (by
    have en : nrm (⟨⟨(n : Rat), (m : Rat)⟩, ⟨(l : Rat), (d : Rat)⟩⟩ : K2 r.toNat t.toNat) = 0 := by
      ext
      · show (n : Rat) * n + (r.toNat : Rat) * ((m : Rat) * m) - ((t.toNat : Rat) * ((l : Rat) * l + (r.toNat : Rat) * ((d : Rat) * d)) + (r.toNat : Rat) * (0 * ((l : Rat) * d + (d : Rat) * l))) = 0
        rw [natI r0, natI t0]
        have : ((n * n + r * (m * m) - t * (l * l) - t * (r * (d * d)) : Int) : Rat) = 0 := by rw [← ha, z.1]; rfl
        have e : ((n * n + r * (m * m) - t * (l * l) - t * (r * (d * d)) : Int) : Rat) = (n : Rat) * n + r * ((m : Rat) * m) - t * ((l : Rat) * l) - t * (r * ((d : Rat) * d)) := by norm_cast
        grind
      · show (n : Rat) * m + (m : Rat) * n - ((t.toNat : Rat) * ((l : Rat) * d + (d : Rat) * l) + 0 * ((l : Rat) * l + (r.toNat : Rat) * ((d : Rat) * d))) = 0
        rw [natI t0]
        have : ((2 * (n * m) - t * (2 * (l * d)) : Int) : Rat) = 0 := by rw [← hb, z.2]; rfl
        have e : ((2 * (n * m) - t * (2 * (l * d)) : Int) : Rat) = 2 * ((n : Rat) * m) - t * (2 * ((l : Rat) * d)) := by norm_cast
        grind
    have ez := nrm_zero (os1 h) (irr2 h g k) en
    have c1 : (n : Rat) = 0 := congrArg (fun z => z.re.re) ez
    have c2 : (m : Rat) = 0 := congrArg (fun z => z.re.im) ez
    have c3 : (l : Rat) = 0 := congrArg (fun z => z.im.re) ez
    have c4 : (d : Rat) = 0 := congrArg (fun z => z.im.im) ez
    exact ⟨by exact_mod_cast c1, by exact_mod_cast c2, by exact_mod_cast c3, by exact_mod_cast c4⟩)
  refine far_of (m := a * a - r * (b * b)) (c := (iK n + iK m * ρ2 r.toNat t.toNat + -(iK l * τ2 r.toNat t.toNat + iK d * (ρ2 r.toNat t.toNat * τ2 r.toNat t.toNat))) * (iK a + -(iK b * ρ2 r.toNat t.toNat))) O (Int.mul_nonneg (by omega) (by omega)) (fun z => no ?_) ?_ ?_
  · have e : a * a = r * (b * b) := by omega
    have b0 := irrZ h e
    rw [b0] at e
    exact ⟨sqz (by omega), b0⟩
  · simp only [tot]
    have ea : (iK a : K2 r.toNat t.toNat) = iK n * iK n + iK r * (iK m * iK m) - iK t * (iK l * iK l) - iK t * (iK r * (iK d * iK d)) := by rw [ha]; simp only [iK_add, iK_sub, iK_mul]
    have eb : (iK b : K2 r.toNat t.toNat) = (1 + 1) * (iK n * iK m) - iK t * ((1 + 1) * (iK l * iK d)) := by
      rw [hb, show (2 : Int) * (n * m) - t * (2 * (l * d)) = n * m + n * m - t * (l * d + l * d) by grind]; simp only [iK_add, iK_sub, iK_mul]; grind
    have f1 : (iK n * 1 + (iK m * ρ2 r.toNat t.toNat + (iK l * τ2 r.toNat t.toNat + (iK d * (ρ2 r.toNat t.toNat * τ2 r.toNat t.toNat) + 0)))) * (iK n + iK m * ρ2 r.toNat t.toNat + -(iK l * τ2 r.toNat t.toNat + iK d * (ρ2 r.toNat t.toNat * τ2 r.toNat t.toNat))) = iK a + iK b * ρ2 r.toNat t.toNat := by
      rw [ea, eb, ← er, ← et]; grind
    have f2 : (iK a + iK b * ρ2 r.toNat t.toNat) * (iK a + -(iK b * ρ2 r.toNat t.toNat)) = iK (a * a - r * (b * b)) := by
      simp only [iK_sub, iK_mul]
      rw [← er]; grind
    rw [← f2, ← f1]; grind
  · have bρ := bd_root O r1 (ρ2_pos h g k) er
    have bτ := bd_root O t1 (τ2_pos h g k) et
    have rt1 : 1 ≤ r * t := by
      have := Int.mul_le_mul r1 t1 (by decide) r0
      omega
    have rt2 : r * t ≤ 9801 := by
      have := Int.mul_le_mul hr ht t0 (by decide)
      omega
    have bρτ := bd_root O rt1 (ρτ_pos h g k) (ρτ_sq h g k)
    have c1 := bd_add O (bd_add O (bd_int O hn) (bd_mul O (bd_int O hm) bρ hA0 r0)) (bd_neg O (bd_add O (bd_mul O (bd_int O hl) bτ hA0 t0) (bd_mul O (bd_int O hd) bρτ hA0 (by omega))))
    have qn := abs_mul hn hn
    have qm := abs_mul hm hm
    have ql := abs_mul hl hl
    have qd := abs_mul hd hd
    have qnm := abs_mul hn hm
    have qld := abs_mul hl hd
    have qa : -(10000 * (A * A)) ≤ a ∧ a ≤ 10000 * (A * A) := by
      have w1 := abs_mul (A := 99) (B := A * A) (x := r) (y := m * m) (by omega) qm
      have w2 := abs_mul (A := 99) (B := A * A) (x := t) (y := l * l) (by omega) ql
      have w3 := abs_mul (A := 99) (B := A * A) (x := r) (y := d * d) (by omega) qd
      have w4 := abs_mul (A := 99) (B := 99 * (A * A)) (x := t) (y := r * (d * d)) (by omega) w3
      omega
    have qb : -(200 * (A * A)) ≤ b ∧ b ≤ 200 * (A * A) := by
      have w1 := abs_mul (A := 99) (B := 2 * (A * A)) (x := t) (y := 2 * (l * d)) (by omega) (by omega)
      omega
    have c2 := bd_add O (bd_int O qa) (bd_neg O (bd_mul O (bd_int O qb) bρ (by omega) r0))
    have d1 := bd_mono O c1 (B := 10000 * A) (by
      have := Int.mul_le_mul_of_nonneg_left hr hA0
      have := Int.mul_le_mul_of_nonneg_left ht hA0
      have := Int.mul_le_mul_of_nonneg_left rt2 hA0
      omega)
    have d2 := bd_mono O c2 (B := 29800 * (A * A)) (by
      have := Int.mul_le_mul_of_nonneg_left hr (show 0 ≤ 200 * (A * A) by omega)
      omega)
    exact bd_mul O d1 d2 (by omega) (by omega)
end
end Sgn

/-! # SG5: the bounds of the numbers of a length -/
namespace Sgn
open Lean.Grind
def numL (D : Int) (ns : List Int) (p : List (Int × Int)) : List (Int × Int) := (p.map fun x => x.1 * (D / x.2)).zip (1 :: ns)
theorem rv_num {D : Int} {x : Int × Int} (h : 0 < x.2) (g : x.2 ∣ D) : ((x.1 * (D / x.2) : Int) : Rat) = (D : Rat) * rv x := by
  obtain ⟨k, rfl⟩ := g
  have h2 : ((x.2 : Int) : Rat) ≠ 0 := fun z => by
    have : x.2 = 0 := by exact_mod_cast z
    omega
  rw [Int.mul_ediv_cancel_left _ (by omega)]
  unfold rv
  have e1 : ((x.1 * k : Int) : Rat) = (x.1 : Rat) * k := by norm_cast
  have e2 : ((x.2 * k : Int) : Rat) = (x.2 : Rat) * k := by norm_cast
  rw [e1, e2]
  grind
/-- how far the bounds must go for numbers up to A -/
def farB (A : Int) : Int := 298000000 * (A * (A * A))
/-- all that the bounds tell of a sign -/
structure Told (v : Int) (l : List (Int × Int)) : Prop where
  up : ∀ S, 0 < S → 0 < lo S l → v = 1
  dn : ∀ S, 0 < S → hi S l < 0 → v = -1
  zr : (∀ q ∈ l, q.1 = 0) → v = 0
  far : ∀ A S, 1 ≤ A → (∀ q ∈ l, -A ≤ q.1 ∧ q.1 ≤ A) → ¬(∀ q ∈ l, q.1 = 0) → 5 * farB A ≤ S → 0 < lo S l ∨ hi S l < 0
theorem cubeA {A : Int} (h : 1 ≤ A) : A ≤ A * (A * A) ∧ 0 ≤ A * (A * A) := by
  have h1 : 1 ≤ A * A := Int.le_trans (by decide) (Int.mul_le_mul h h (by decide) (by omega))
  have h2 := Int.mul_le_mul_of_nonneg_left h1 (show 0 ≤ A by omega)
  omega
theorem told_of {K : Type} [CommRing K] {s : K → Int} (o : OS K s) {v : Int} {l : List (Int × Int)} {ρs : List K} (h3 : l.length ≤ (4 : Int)) (R : Rts s l ρs) (e : v = s (tot l ρs))
    (z : (∀ q ∈ l, q.1 = 0) → tot l ρs = 0) (F : ∀ A, 1 ≤ A → (∀ q ∈ l, -A ≤ q.1 ∧ q.1 ≤ A) → ¬(∀ q ∈ l, q.1 = 0) → ∃ B, 0 ≤ B ∧ B ≤ farB A ∧ Far s B (tot l ρs)) : Told v l :=
  ⟨fun S hS h => by rw [e]; exact lo_pos o hS R h, fun S hS h => by rw [e]; exact hi_neg o hS R h, fun h => by rw [e, z h]; exact o.z, fun A S hA hq hz hS => by
    obtain ⟨B, b0, b1, f⟩ := F A hA hq hz
    exact told o R h3 b0 (by omega) f⟩
theorem scale {K : Type} [CommRing K] {s : K → Int} (o : OS K s) {D : Int} (hD : 0 < D) (z : K) : s (iK D * z) = s z := by
  rw [o.mul, s_int_pos o hD]; omega
theorem told_len {ns : List Int} (hr : Rok ns) {p : List (Int × Int)} (hl : p.length = ns.length + 1) {D : Int} (hD : 0 < D) (hp : ∀ x ∈ p, 0 < x.2 ∧ x.2 ∣ D) : Told (lenSgn ns p) (numL D ns p) := by
  match ns, p, hr, hl with
  | [], [a], _, _ =>
    obtain ⟨a1, a2⟩ := hp a (by simp)
    have e := rv_num a1 a2
    show Told _ [(a.1 * (D / a.2), 1)]
    obtain ⟨n, hn⟩ : ∃ n, n = a.1 * (D / a.2) := ⟨_, rfl⟩
    rw [← hn] at e ⊢
    have et : tot [(n, 1)] [(1 : Rat)] = iK D * rv a := by
      simp only [tot]
      rw [show (iK n : Rat) = (n : Rat) from rfl, e, show (iK D : Rat) = (D : Rat) from rfl]; grind
    refine told_of rs_os (by simp) (rts0 n) (by rw [et, scale rs_os hD]; rfl) (fun h => ?_) fun A hA hq hz => ?_
    · have h0 : n = 0 := h (n, 1) (by simp)
      subst h0
      simp only [tot, iK_zero]; grind
    · have h0 : n ≠ 0 := fun z => hz fun q hq => by
        simp only [List.mem_singleton] at hq
        rw [hq]; exact z
      have := cubeA hA
      exact ⟨1, by decide, by unfold farB; omega, far0 h0⟩
  | [r], [a, b], hr, _ =>
    obtain ⟨hr99, hr⟩ := hr
    obtain ⟨a1, a2⟩ := hp a (by simp)
    obtain ⟨b1, b2⟩ := hp b (by simp)
    have ea := rv_num a1 a2
    have eb := rv_num b1 b2
    show Told _ [(a.1 * (D / a.2), 1), (b.1 * (D / b.2), r)]
    obtain ⟨n, hn⟩ : ∃ n, n = a.1 * (D / a.2) := ⟨_, rfl⟩
    obtain ⟨m, hm⟩ : ∃ m, m = b.1 * (D / b.2) := ⟨_, rfl⟩
    rw [← hn] at ea ⊢
    rw [← hm] at eb ⊢
    have et : tot [(n, 1), (m, r)] [(1 : K1 r.toNat), ρ1 r.toNat] = iK D * ⟨rv a, rv b⟩ := by
      rw [tot1]
      ext
      · show (n : Rat) = (D : Rat) * rv a + _ * (0 * rv b)
        rw [ea]; grind
      · show (m : Rat) = (D : Rat) * rv b + 0 * rv a
        rw [eb]; grind
    refine told_of (os1 hr) (by simp) (rts1 hr.ge.1 hr n m) (by rw [et, scale (os1 hr) hD]; rfl) (fun h => ?_) fun A hA hq hz => ?_
    · have h0 : n = 0 := h (n, 1) (by simp)
      have h1 : m = 0 := h (m, r) (by simp)
      subst h0 h1
      simp only [tot, iK_zero]; grind
    · have qn := hq (n, 1) (by simp)
      have qm := hq (m, r) (by simp)
      have := cubeA hA
      refine ⟨100 * A, by omega, by unfold farB; omega, far1 hr hr99 hA qn qm fun z => hz fun q hq => ?_⟩
      simp only [List.mem_cons, List.mem_nil_iff, or_false] at hq
      rcases hq with rfl | rfl
      · exact z.1
      · exact z.2
  | [r, t], [a, b, c], hr, _ =>
    obtain ⟨hr99, ht99, h, g, k⟩ := hr
    obtain ⟨a1, a2⟩ := hp a (by simp)
    obtain ⟨b1, b2⟩ := hp b (by simp)
    obtain ⟨c1, c2⟩ := hp c (by simp)
    have ea := rv_num a1 a2
    have eb := rv_num b1 b2
    have ec := rv_num c1 c2
    show Told _ [(a.1 * (D / a.2), 1), (b.1 * (D / b.2), r), (c.1 * (D / c.2), t)]
    obtain ⟨n, hn⟩ : ∃ n, n = a.1 * (D / a.2) := ⟨_, rfl⟩
    obtain ⟨m, hm⟩ : ∃ m, m = b.1 * (D / b.2) := ⟨_, rfl⟩
    obtain ⟨l, hl⟩ : ∃ l, l = c.1 * (D / c.2) := ⟨_, rfl⟩
    rw [← hn] at ea ⊢
    rw [← hm] at eb ⊢
    rw [← hl] at ec ⊢
    have et : tot [(n, 1), (m, r), (l, t)] [(1 : K2 r.toNat t.toNat), ρ2 r.toNat t.toNat, τ2 r.toNat t.toNat] = iK D * ⟨⟨rv a, rv b⟩, ⟨rv c, 0⟩⟩ := by
      rw [tot2 h g k]
      have e1 : (⟨(n : Rat), (m : Rat)⟩ : K1 r.toNat) = iK D * ⟨rv a, rv b⟩ + ⟨(t.toNat : Rat), 0⟩ * (0 * ⟨rv c, 0⟩) := by
        rw [show (iK D : K1 r.toNat) * ⟨rv a, rv b⟩ + ⟨(t.toNat : Rat), 0⟩ * (0 * ⟨rv c, 0⟩) = iK D * ⟨rv a, rv b⟩ by grind]
        ext
        · show (n : Rat) = (D : Rat) * rv a + _ * (0 * rv b)
          rw [ea]; grind
        · show (m : Rat) = (D : Rat) * rv b + 0 * rv a
          rw [eb]; grind
      have e2 : (⟨(l : Rat), 0⟩ : K1 r.toNat) = iK D * ⟨rv c, 0⟩ + 0 * ⟨rv a, rv b⟩ := by
        rw [show (iK D : K1 r.toNat) * ⟨rv c, 0⟩ + 0 * ⟨rv a, rv b⟩ = iK D * ⟨rv c, 0⟩ by grind]
        ext
        · show (l : Rat) = (D : Rat) * rv c + _ * (0 * 0)
          rw [ec]; grind
        · show (0 : Rat) = (D : Rat) * 0 + 0 * rv c
          grind
      exact Quad.ext e1 e2
    refine told_of (os2 h g k) (by simp) (rts2 h g k n m l) (by rw [et, scale (os2 h g k) hD]; rfl) (fun hz => ?_) fun A hA hq hz => ?_
    · have h0 : n = 0 := hz (n, 1) (by simp)
      have h1 : m = 0 := hz (m, r) (by simp)
      have h2 : l = 0 := hz (l, t) (by simp)
      subst h0 h1 h2
      simp only [tot, iK_zero]; grind
    · have qn := hq (n, 1) (by simp)
      have qm := hq (m, r) (by simp)
      have ql := hq (l, t) (by simp)
      have AA := Int.mul_nonneg (show 0 ≤ A by omega) (show 0 ≤ A by omega)
      refine ⟨199 * A * (397 * (A * A)), Int.mul_nonneg (by omega) (by omega), by rw [show 199 * A * (397 * (A * A)) = 79003 * (A * (A * A)) by grind]; unfold farB; have := cubeA hA; omega, far2 h g k hr99 ht99 hA qn qm ql fun z => hz fun q hq => ?_⟩
      simp only [List.mem_cons, List.mem_nil_iff, or_false] at hq
      rcases hq with rfl | rfl | rfl
      · exact z.1
      · exact z.2.1
      · exact z.2.2
  | [], [], _, h => simp at h
  | [], _ :: _ :: _, _, h => simp at h
  | [_], [], _, h => simp at h
  | [_], [_], _, h => simp at h
  | [_], _ :: _ :: _ :: _, _, h => simp at h
  | [_, _], [], _, h => simp at h
  | [_, _], [_], _, h => simp at h
  | [_, _], [_, _], _, h => simp at h
  | [_, _], _ :: _ :: _ :: _ :: _, _, h => simp at h
  | _ :: _ :: _ :: _, _, h, _ => exact h.elim
/-- what stands below the roots of the units' products -/
def insA : List Int → List Int
  | [] => [1]
  | [r] => [1, r]
  | [r, t] => [1, r, t, r * t]
  | _ => []
/-- the sign of an area -/
def areaSgn : List Int → List (Int × Int) → Int
  | [], [a] => rs (rv a)
  | [r], [a, b] => qs rs (⟨rv a, rv b⟩ : K1 r.toNat)
  | [r, t], [a, b, c, d] => qs (qs rs) (⟨⟨rv a, rv b⟩, ⟨rv c, rv d⟩⟩ : K2 r.toNat t.toNat)
  | _, _ => 0
def numA (D : Int) (ns : List Int) (p : List (Int × Int)) : List (Int × Int) := (p.map fun x => x.1 * (D / x.2)).zip (insA ns)
theorem told_area {ns : List Int} (hr : Rok ns) {p : List (Int × Int)} (hl : p.length = (insA ns).length) {D : Int} (hD : 0 < D) (hp : ∀ x ∈ p, 0 < x.2 ∧ x.2 ∣ D) : Told (areaSgn ns p) (numA D ns p) := by
  match ns, p, hr, hl with
  | [], [a], _, _ =>
    obtain ⟨a1, a2⟩ := hp a (by simp)
    have e := rv_num a1 a2
    show Told _ [(a.1 * (D / a.2), 1)]
    obtain ⟨n, hn⟩ : ∃ n, n = a.1 * (D / a.2) := ⟨_, rfl⟩
    rw [← hn] at e ⊢
    have et : tot [(n, 1)] [(1 : Rat)] = iK D * rv a := by
      simp only [tot]
      rw [show (iK n : Rat) = (n : Rat) from rfl, e, show (iK D : Rat) = (D : Rat) from rfl]; grind
    refine told_of rs_os (by simp) (rts0 n) (by rw [et, scale rs_os hD]; rfl) (fun h => ?_) fun A hA hq hz => ?_
    · have h0 : n = 0 := h (n, 1) (by simp)
      subst h0
      simp only [tot, iK_zero]; grind
    · have h0 : n ≠ 0 := fun z => hz fun q hq => by
        simp only [List.mem_singleton] at hq
        rw [hq]; exact z
      have := cubeA hA
      exact ⟨1, by decide, by unfold farB; omega, far0 h0⟩
  | [r], [a, b], hr, _ =>
    obtain ⟨hr99, hr⟩ := hr
    obtain ⟨a1, a2⟩ := hp a (by simp)
    obtain ⟨b1, b2⟩ := hp b (by simp)
    have ea := rv_num a1 a2
    have eb := rv_num b1 b2
    show Told _ [(a.1 * (D / a.2), 1), (b.1 * (D / b.2), r)]
    obtain ⟨n, hn⟩ : ∃ n, n = a.1 * (D / a.2) := ⟨_, rfl⟩
    obtain ⟨m, hm⟩ : ∃ m, m = b.1 * (D / b.2) := ⟨_, rfl⟩
    rw [← hn] at ea ⊢
    rw [← hm] at eb ⊢
    have et : tot [(n, 1), (m, r)] [(1 : K1 r.toNat), ρ1 r.toNat] = iK D * ⟨rv a, rv b⟩ := by
      rw [tot1]
      ext
      · show (n : Rat) = (D : Rat) * rv a + _ * (0 * rv b)
        rw [ea]; grind
      · show (m : Rat) = (D : Rat) * rv b + 0 * rv a
        rw [eb]; grind
    refine told_of (os1 hr) (by simp) (rts1 hr.ge.1 hr n m) (by rw [et, scale (os1 hr) hD]; rfl) (fun h => ?_) fun A hA hq hz => ?_
    · have h0 : n = 0 := h (n, 1) (by simp)
      have h1 : m = 0 := h (m, r) (by simp)
      subst h0 h1
      simp only [tot, iK_zero]; grind
    · have qn := hq (n, 1) (by simp)
      have qm := hq (m, r) (by simp)
      have := cubeA hA
      refine ⟨100 * A, by omega, by unfold farB; omega, far1 hr hr99 hA qn qm fun z => hz fun q hq => ?_⟩
      simp only [List.mem_cons, List.mem_nil_iff, or_false] at hq
      rcases hq with rfl | rfl
      · exact z.1
      · exact z.2
  | [r, t], [a, b, c, d], hr, _ =>
    obtain ⟨hr99, ht99, h, g, k⟩ := hr
    obtain ⟨a1, a2⟩ := hp a (by simp)
    obtain ⟨b1, b2⟩ := hp b (by simp)
    obtain ⟨c1, c2⟩ := hp c (by simp)
    obtain ⟨d1, d2⟩ := hp d (by simp)
    have ea := rv_num a1 a2
    have eb := rv_num b1 b2
    have ec := rv_num c1 c2
    have ed := rv_num d1 d2
    show Told _ [(a.1 * (D / a.2), 1), (b.1 * (D / b.2), r), (c.1 * (D / c.2), t), (d.1 * (D / d.2), r * t)]
    obtain ⟨n, hn⟩ : ∃ n, n = a.1 * (D / a.2) := ⟨_, rfl⟩
    obtain ⟨m, hm⟩ : ∃ m, m = b.1 * (D / b.2) := ⟨_, rfl⟩
    obtain ⟨l, hl⟩ : ∃ l, l = c.1 * (D / c.2) := ⟨_, rfl⟩
    obtain ⟨w, hw⟩ : ∃ w, w = d.1 * (D / d.2) := ⟨_, rfl⟩
    rw [← hn] at ea ⊢
    rw [← hm] at eb ⊢
    rw [← hl] at ec ⊢
    rw [← hw] at ed ⊢
    have f : ∀ (x y : Rat) (u v : Int), (u : Rat) = (D : Rat) * x → (v : Rat) = (D : Rat) * y → (⟨(u : Rat), (v : Rat)⟩ : K1 r.toNat) = iK D * ⟨x, y⟩ := fun x y u v e1 e2 => by
      ext
      · show (u : Rat) = (D : Rat) * x + _ * (0 * y)
        rw [e1]; grind
      · show (v : Rat) = (D : Rat) * y + 0 * x
        rw [e2]; grind
    have et : tot [(n, 1), (m, r), (l, t), (w, r * t)] ([1, ρ2 r.toNat t.toNat, τ2 r.toNat t.toNat, ρ2 r.toNat t.toNat * τ2 r.toNat t.toNat] : List (K2 r.toNat t.toNat)) = iK D * ⟨⟨rv a, rv b⟩, ⟨rv c, rv d⟩⟩ := by
      rw [totA h g k]
      have e1 : (⟨(n : Rat), (m : Rat)⟩ : K1 r.toNat) = iK D * ⟨rv a, rv b⟩ + ⟨(t.toNat : Rat), 0⟩ * (0 * ⟨rv c, rv d⟩) := by
        rw [show (iK D : K1 r.toNat) * ⟨rv a, rv b⟩ + ⟨(t.toNat : Rat), 0⟩ * (0 * ⟨rv c, rv d⟩) = iK D * ⟨rv a, rv b⟩ by grind]
        exact f _ _ _ _ ea eb
      have e2 : (⟨(l : Rat), (w : Rat)⟩ : K1 r.toNat) = iK D * ⟨rv c, rv d⟩ + 0 * ⟨rv a, rv b⟩ := by
        rw [show (iK D : K1 r.toNat) * ⟨rv c, rv d⟩ + 0 * ⟨rv a, rv b⟩ = iK D * ⟨rv c, rv d⟩ by grind]
        exact f _ _ _ _ ec ed
      exact Quad.ext e1 e2
    refine told_of (os2 h g k) (by simp) (rtsA h g k n m l w) (by rw [et, scale (os2 h g k) hD]; rfl) (fun hz => ?_) fun A hA hq hz => ?_
    · have h0 : n = 0 := hz (n, 1) (by simp)
      have h1 : m = 0 := hz (m, r) (by simp)
      have h2 : l = 0 := hz (l, t) (by simp)
      have h3 : w = 0 := hz (w, r * t) (by simp)
      subst h0 h1 h2 h3
      simp only [tot, iK_zero]; grind
    · have qn := hq (n, 1) (by simp)
      have qm := hq (m, r) (by simp)
      have ql := hq (l, t) (by simp)
      have qw := hq (w, r * t) (by simp)
      have AA := Int.mul_nonneg (show 0 ≤ A by omega) (show 0 ≤ A by omega)
      refine ⟨10000 * A * (29800 * (A * A)), Int.mul_nonneg (by omega) (by omega), by rw [show 10000 * A * (29800 * (A * A)) = 298000000 * (A * (A * A)) by grind]; exact Int.le_refl _, farA h g k hr99 ht99 hA qn qm ql qw fun z => hz fun q hq => ?_⟩
      simp only [List.mem_cons, List.mem_nil_iff, or_false] at hq
      rcases hq with rfl | rfl | rfl | rfl
      · exact z.1
      · exact z.2.1
      · exact z.2.2.1
      · exact z.2.2.2
  | [], [], _, h => simp [insA] at h
  | [], _ :: _ :: _, _, h => simp [insA] at h
  | [_], [], _, h => simp [insA] at h
  | [_], [_], _, h => simp [insA] at h
  | [_], _ :: _ :: _ :: _, _, h => simp [insA] at h
  | [_, _], [], _, h => simp [insA] at h
  | [_, _], [_], _, h => simp [insA] at h
  | [_, _], [_, _], _, h => simp [insA] at h
  | [_, _], [_, _, _], _, h => simp [insA] at h
  | [_, _], _ :: _ :: _ :: _ :: _ :: _, _, h => simp [insA] at h
  | _ :: _ :: _ :: _, _, h, _ => exact h.elim
end Sgn

/-! # SG6: the root of a number, by halves -/
namespace Sgn
/-- the next guess is none too small -/
theorem newton {N h : Int} (hN : 0 ≤ N) (hh : 0 < h) : N < ((h + N / h) / 2 + 1) * ((h + N / h) / 2 + 1) := by
  obtain ⟨q, hq⟩ : ∃ q, q = N / h := ⟨_, rfl⟩
  obtain ⟨y, hy⟩ : ∃ y, y = (h + N / h) / 2 := ⟨_, rfl⟩
  rw [← hq] at hy ⊢
  rw [← hy]
  have q0 : 0 ≤ q := by rw [hq]; exact Int.ediv_nonneg hN (by omega)
  have q1 : N < (q + 1) * h := by
    have := Int.lt_ediv_add_one_mul_self N hh
    rw [← hq] at this; exact this
  have y1 : h + q + 1 ≤ 2 * (y + 1) := by omega
  have sq : 0 ≤ (h - q - 1) * (h - q - 1) := by
    rcases Int.le_total 0 (h - q - 1) with z | z
    · exact Int.mul_nonneg z z
    · have := Int.mul_nonneg (show 0 ≤ -(h - q - 1) by omega) (show 0 ≤ -(h - q - 1) by omega)
      grind
  have e : (h + q + 1) * (h + q + 1) = 4 * ((q + 1) * h) + (h - q - 1) * (h - q - 1) := by grind
  have y2 : (h + q + 1) * (h + q + 1) ≤ (2 * (y + 1)) * (2 * (y + 1)) := Int.mul_le_mul y1 y1 (by omega) (by omega)
  have e2 : (2 * (y + 1)) * (2 * (y + 1)) = 4 * ((y + 1) * (y + 1)) := by grind
  omega
/-- no less guess: the guess is the root -/
theorem newton_end {N h : Int} (hN : 0 ≤ N) (h0 : 0 ≤ h) (hu : N < (h + 1) * (h + 1)) (hl : h = 0 ∨ (0 < h ∧ h ≤ (h + N / h) / 2)) : h = fl N := by
  refine fl_eq h0 ?_ hu
  rcases hl with rfl | ⟨hp, hl⟩
  · omega
  · have q1 : h ≤ N / h := by omega
    have := (Int.le_ediv_iff_mul_le hp).mp q1
    exact this
theorem lo_snoc (S : Int) (p : Int × Int) : ∀ l, lo S (l ++ [p]) = lo S l + lowT S p
  | [] => by simp only [List.nil_append, lo]; omega
  | q :: l => by simp only [List.cons_append, lo, lo_snoc S p l]; omega
theorem hi_snoc (S : Int) (p : Int × Int) : ∀ l, hi S (l ++ [p]) = hi S l + highT S p
  | [] => by simp only [List.nil_append, hi]; omega
  | q :: l => by simp only [List.cons_append, hi, hi_snoc S p l]; omega
end Sgn

/-! # DS1: data over the hand layer. A value is told by the datum that it bears; a def by what it makes of data. -/
namespace Lay
open PySem PySem.Spec PyProof.Rows L2

/-- data -/
inductive D where
  | non | bl (b : Bool) | int (i : Int) | str (x : Str)
  | tup (l : List D) | lst (l : List D)
  | dic (ks : List Key) (ds : List D)
  | ins (C : Addr) (fs : List Str) (ds : List D)
  | exc (C : Addr) (fs : List Str) (ds : List D)
  | drw
  /-- the list of ints from outside -/
  | frz (ns : List Int)

/-- where the draws' state stands: its dict, its list of great numbers, its list of cells -/
structure Dr where
  dw : Addr
  lg : Addr
  cl : Addr
  cs : List Int
/-- an exception object, held as a value -/
def ExV (C : Addr) (dd : Option Addr) (a : Addr) : HO := .ext fun h => ∃ (oe : Obj) (vs : Array Value), h.get? a = some oe ∧ oe.cls = .ref C ∧ oe.dict = dd ∧ oe.data = .fields vs

mutual
/-- the value bears the datum -/
def Rep (K : PySem.W.Frag) (dr : Option Dr) (H : Hp) : D → V → Prop
  | .non, v => v = .non
  | .bl b, v => v = .bl b
  | .int i, v => v = .int i
  | .str x, v => v = .str x
  | .tup l, v => ∃ a xs, v = .ref a ∧ SqT K H a xs ∧ RepL K dr H l xs
  | .lst l, v => ∃ a xs, v = .ref a ∧ H a = some (.lst xs) ∧ RepL K dr H l xs
  | .dic ks ds, v => ∃ a xs, v = .ref a ∧ H a = some (.dK (ks.zip xs)) ∧ ks.length = xs.length ∧ RepL K dr H ds xs
  | .ins C fs ds, v => ∃ a dx xs, v = .ref a ∧ H a = some (.ins C dx (fs.zip xs)) ∧ fs.length = xs.length ∧ RepL K dr H ds xs
  | .exc C fs ds, v => ∃ a dd, v = .ref a ∧ H a = some (ExV C dd a) ∧ ((dd = none ∧ fs = [] ∧ ds = []) ∨ (fs ≠ [] ∧ ∃ d xs, dd = some d ∧ H d = some (.xd (fs.zip xs)) ∧ fs.length = xs.length ∧ RepL K dr H ds xs))
  | .drw, v => ∃ d, dr = some d ∧ v = .ref d.dw
  | .frz ns, v => ∃ a, v = .ref a ∧ SqL K H a (ns.map V.int)
def RepL (K : PySem.W.Frag) (dr : Option Dr) (H : Hp) : List D → List V → Prop
  | [], xs => xs = []
  | d :: ds, xs => ∃ v vs, xs = v :: vs ∧ Rep K dr H d v ∧ RepL K dr H ds vs
end

theorem ext_ne_tbl {φ : Heap → Prop} (ps : Array Value) : HO.ext φ ≠ .tbl ps := fun z => by cases z
/-- a heap with more -/
abbrev ExN := LamX.ExtN
theorem ExN.rd {H H' : Hp} (e : ExN H H') {a : Addr} {u : HO} (r : Rd H a u) (hu : ∀ ps, u ≠ .tbl ps) : Rd H' a u := by
  rcases r with r | ⟨o, r⟩
  · exact .inl (e _ _ r hu)
  · exact .inr ⟨o, e _ _ r fun ps z => by cases z⟩
theorem ExN.seqL {K : PySem.W.Frag} {H H' : Hp} (e : ExN H H') {a : Addr} {xs : List V} (r : SqL K H a xs) : SqL K H' a xs := by
  rcases r with r | r
  · exact .inl (ExN.rd e r fun ps z => by cases z)
  · exact .inr r
theorem ExN.seqT {K : PySem.W.Frag} {H H' : Hp} (e : ExN H H') {a : Addr} {xs : List V} (r : SqT K H a xs) : SqT K H' a xs := by
  rcases r with r | r
  · exact .inl (ExN.rd e r fun ps z => by cases z)
  · exact .inr r

mutual
theorem Rep.mono {K : PySem.W.Frag} {dr : Option Dr} {H H' : Hp} (e : ExN H H') : ∀ (d : D) (v : V), Rep K dr H d v → Rep K dr H' d v
  | .non, _, h => h
  | .bl _, _, h => h
  | .int _, _, h => h
  | .str _, _, h => h
  | .tup l, _, h => by
    obtain ⟨a, xs, h1, h2, h3⟩ := h
    exact ⟨a, xs, h1, ExN.seqT e h2, RepL.mono e l xs h3⟩
  | .lst l, _, h => by
    obtain ⟨a, xs, h1, h2, h3⟩ := h
    exact ⟨a, xs, h1, e _ _ h2 (fun ps z => by cases z), RepL.mono e l xs h3⟩
  | .dic ks ds, _, h => by
    obtain ⟨a, xs, h1, h2, h3, h4⟩ := h
    exact ⟨a, xs, h1, e _ _ h2 (fun ps z => by cases z), h3, RepL.mono e ds xs h4⟩
  | .ins C fs ds, _, h => by
    obtain ⟨a, dx, xs, h1, h2, h3, h4⟩ := h
    exact ⟨a, dx, xs, h1, e _ _ h2 (fun ps z => by cases z), h3, RepL.mono e ds xs h4⟩
  | .exc C fs ds, _, h => by
    obtain ⟨a, dd, h1, h2, h3⟩ := h
    refine ⟨a, dd, h1, e _ _ h2 ext_ne_tbl, ?_⟩
    rcases h3 with h3 | ⟨h0, d, xs, h4, h5, h6, h7⟩
    · exact .inl h3
    · exact .inr ⟨h0, d, xs, h4, e _ _ h5 (fun ps z => by cases z), h6, RepL.mono e ds xs h7⟩
  | .drw, _, h => h
  | .frz _, _, h => by
    obtain ⟨a, h1, h2⟩ := h
    exact ⟨a, h1, ExN.seqL e h2⟩
theorem RepL.mono {K : PySem.W.Frag} {dr : Option Dr} {H H' : Hp} (e : ExN H H') : ∀ (ds : List D) (vs : List V), RepL K dr H ds vs → RepL K dr H' ds vs
  | [], _, h => h
  | d :: ds, _, h => by
    obtain ⟨v, vs, h1, h2, h3⟩ := h
    exact ⟨v, vs, h1, Rep.mono e d v h2, RepL.mono e ds vs h3⟩
end
section
variable {K : PySem.W.Frag} {dr : Option Dr} {H H' : Hp}
theorem RepL.nil : RepL K dr H [] [] := rfl
theorem RepL.cons {d : D} {ds : List D} {v : V} {vs : List V} (h : Rep K dr H d v) (t : RepL K dr H ds vs) : RepL K dr H (d :: ds) (v :: vs) := ⟨v, vs, rfl, h, t⟩
theorem RepL.length : ∀ {ds : List D} {vs : List V}, RepL K dr H ds vs → ds.length = vs.length
  | [], _, h => by cases h; rfl
  | d :: ds, _, h => by
    obtain ⟨v, vs, rfl, h2, h3⟩ := h
    rw [List.length_cons, List.length_cons, RepL.length h3]
theorem RepL.get : ∀ {ds : List D} {vs : List V} {i : Nat} {v : V}, RepL K dr H ds vs → vs[i]? = some v → ∃ d, ds[i]? = some d ∧ Rep K dr H d v
  | [], _, i, v, h, e => by cases h; simp at e
  | d :: ds, _, 0, v, h, e => by
    obtain ⟨v', vs, rfl, h2, h3⟩ := h
    simp at e; subst e; exact ⟨d, rfl, h2⟩
  | d :: ds, _, i + 1, v, h, e => by
    obtain ⟨v', vs, rfl, h2, h3⟩ := h
    obtain ⟨d', e1, r1⟩ := RepL.get (i := i) (v := v) h3 (by simpa using e)
    exact ⟨d', by simpa using e1, r1⟩
theorem RepL.getD : ∀ {ds : List D} {vs : List V} {i : Nat} {d : D}, RepL K dr H ds vs → ds[i]? = some d → ∃ v, vs[i]? = some v ∧ Rep K dr H d v
  | [], _, i, v, h, e => by simp at e
  | d :: ds, _, 0, _, h, e => by
    obtain ⟨v', vs, rfl, h2, h3⟩ := h
    simp at e; subst e; exact ⟨v', rfl, h2⟩
  | d :: ds, _, i + 1, _, h, e => by
    obtain ⟨v', vs, rfl, h2, h3⟩ := h
    obtain ⟨v2, e1, r1⟩ := RepL.getD (i := i) h3 (by simpa using e)
    exact ⟨v2, by simpa using e1, r1⟩
theorem RepL.append : ∀ {ds es : List D} {vs us : List V}, RepL K dr H ds vs → RepL K dr H es us → RepL K dr H (ds ++ es) (vs ++ us)
  | [], _, _, _, h, t => by cases h; exact t
  | d :: ds, _, _, _, h, t => by
    obtain ⟨v, vs, rfl, h2, h3⟩ := h
    exact ⟨v, _, rfl, h2, RepL.append h3 t⟩
theorem RepL.take : ∀ {ds : List D} {vs : List V} (n : Nat), RepL K dr H ds vs → RepL K dr H (ds.take n) (vs.take n)
  | _, _, 0, _ => rfl
  | [], _, n + 1, h => by cases h; exact rfl
  | d :: ds, _, n + 1, h => by
    obtain ⟨v, vs, rfl, h2, h3⟩ := h
    exact ⟨v, _, rfl, h2, RepL.take n h3⟩
theorem RepL.drop : ∀ {ds : List D} {vs : List V} (n : Nat), RepL K dr H ds vs → RepL K dr H (ds.drop n) (vs.drop n)
  | _, _, 0, h => h
  | [], _, n + 1, h => by cases h; exact rfl
  | d :: ds, _, n + 1, h => by
    obtain ⟨v, vs, rfl, h2, h3⟩ := h
    exact RepL.drop n h3
theorem RepL.dropLast {ds : List D} {vs : List V} (h : RepL K dr H ds vs) : RepL K dr H ds.dropLast vs.dropLast := by
  rw [List.dropLast_eq_take, List.dropLast_eq_take, ← h.length]
  exact RepL.take _ h
theorem RepL.set {d : D} {v : V} (r : Rep K dr H d v) : ∀ {ds : List D} {vs : List V} (i : Nat), RepL K dr H ds vs → RepL K dr H (ds.set i d) (vs.set i v)
  | [], _, _, h => by cases h; exact rfl
  | _ :: ds, _, 0, h => by
    obtain ⟨v, vs, rfl, h2, h3⟩ := h
    exact ⟨_, _, rfl, r, h3⟩
  | _ :: ds, _, i + 1, h => by
    obtain ⟨v, vs, rfl, h2, h3⟩ := h
    exact ⟨_, _, rfl, h2, RepL.set r i h3⟩
theorem RepL.replicate {d : D} {v : V} (r : Rep K dr H d v) : ∀ n : Nat, RepL K dr H (List.replicate n d) (List.replicate n v)
  | 0 => rfl
  | n + 1 => ⟨v, _, rfl, r, RepL.replicate r n⟩
theorem RepL.flatten {ds : List D} {vs : List V} (h : RepL K dr H ds vs) : ∀ n : Nat, RepL K dr H (List.replicate n ds).flatten (List.replicate n vs).flatten
  | 0 => rfl
  | n + 1 => by
    rw [List.replicate_succ, List.replicate_succ, List.flatten_cons, List.flatten_cons]
    exact h.append (RepL.flatten h n)
theorem RepL.reverse : ∀ {ds : List D} {vs : List V}, RepL K dr H ds vs → RepL K dr H ds.reverse vs.reverse
  | [], _, h => by cases h; exact rfl
  | d :: ds, _, h => by
    obtain ⟨v, vs, rfl, h2, h3⟩ := h
    rw [List.reverse_cons, List.reverse_cons]
    exact (RepL.reverse h3).append (.cons h2 .nil)
end

/-! ### the heap without some addresses -/
def hide (S : List Addr) (H : Hp) : Hp := fun b => if b ∈ S then none else H b
theorem hide_some {S : List Addr} {H : Hp} {b : Addr} {o : HO} (h : hide S H b = some o) : b ∉ S ∧ H b = some o := by
  unfold hide at h
  by_cases c : b ∈ S
  · rw [if_pos c] at h; cases h
  · rw [if_neg c] at h; exact ⟨c, h⟩
theorem hide_of {S : List Addr} {H : Hp} {b : Addr} {o : HO} (c : b ∉ S) (h : H b = some o) : hide S H b = some o := by
  unfold hide
  rw [if_neg c]
  exact h
theorem hide_none {S : List Addr} {H : Hp} {b : Addr} (h : H b = none) : hide S H b = none := by
  unfold hide
  by_cases c : b ∈ S
  · rw [if_pos c]
  · rw [if_neg c]; exact h
theorem hide_sub {S : List Addr} {H : Hp} : ExN (hide S H) H := fun b o h _ => (hide_some h).2
theorem hide_more {S S' : List Addr} {H : Hp} (h : ∀ a, a ∈ S → a ∈ S') : ExN (hide S' H) (hide S H) := fun b o e _ => by
  obtain ⟨c, e⟩ := hide_some e
  exact hide_of (fun z => c (h b z)) e

/-! ### the world of a def: its code objects' tables, the draws -/
structure Wd where
  T : List (Addr × Str)
  dr : Option Dr
def Wd.rg (W : Wd) : List Addr := match W.dr with
  | none => []
  | some d => [d.dw, d.lg, d.cl]
def drD (d : Dr) (rest turn : Int) : HO := .dK [(.inr "large", .ref d.lg), (.inr "rest", .int rest), (.inr "cells", .ref d.cl), (.inr "turn", .int turn)]
def DrOk (d : Dr) (H : Hp) : Prop := ∃ (rest turn : Int) (lg : List Int), H d.dw = some (drD d rest turn) ∧ H d.lg = some (.lst (lg.map V.int)) ∧ H d.cl = some (.lst (d.cs.map V.int)) ∧ d.lg ≠ d.cl
structure WOk (W : Wd) (H : Hp) : Prop where
  tabs : LamX.Tabs W.T H
  drs : ∀ d, W.dr = some d → DrOk d H
/-- what stood stands, but for the draws -/
structure Ext (W : Wd) (H H' : Hp) : Prop where
  keep : ∀ b o, b ∉ W.rg → H b = some o → (∀ ps, o ≠ .tbl ps) → H' b = some o
  ok : WOk W H'
theorem Ext.refl {W : Wd} {H : Hp} (h : WOk W H) : Ext W H H := ⟨fun _ _ _ h _ => h, h⟩
theorem Ext.trans {W : Wd} {H H1 H2 : Hp} (a : Ext W H H1) (b : Ext W H1 H2) : Ext W H H2 := ⟨fun c o n h t => b.keep c o n (a.keep c o n h t) t, b.ok⟩
theorem Ext.hide {W : Wd} {H H' : Hp} (e : Ext W H H') {S : List Addr} (hs : ∀ a, a ∈ W.rg → a ∈ S) : ExN (hide S H) (hide S H') := fun b o h t => by
  obtain ⟨c, h⟩ := hide_some h
  exact hide_of c (e.keep b o (fun z => c (hs b z)) h t)
theorem mem_rg {W : Wd} {d : Dr} (h : W.dr = some d) : W.rg = [d.dw, d.lg, d.cl] := by
  unfold Wd.rg
  rw [h]
theorem DrOk.stay {d : Dr} {H H' : Hp} (h : DrOk d H) (k : ∀ b o, H b = some o → (∀ ps, o ≠ .tbl ps) → (b = d.dw ∨ b = d.lg ∨ b = d.cl) → H' b = some o) : DrOk d H' := by
  obtain ⟨r, t, lg, h1, h2, h3, h4⟩ := h
  exact ⟨r, t, lg, k _ _ h1 (fun _ z => by cases z) (.inl rfl), k _ _ h2 (fun _ z => by cases z) (.inr (.inl rfl)), k _ _ h3 (fun _ z => by cases z) (.inr (.inr rfl)), h4⟩
/-- all is kept -/
theorem WOk.same {W : Wd} {H H' : Hp} (h : WOk W H) (k : ∀ b o, H b = some o → H' b = some o) : WOk W H' :=
  ⟨h.tabs.ext k, fun d e => (h.drs d e).stay fun b o x _ _ => k b o x⟩
theorem Ext.same {W : Wd} {H H' : Hp} (h : WOk W H) (k : ∀ b o, H b = some o → H' b = some o) : Ext W H H' := ⟨fun b o _ e _ => k b o e, h.same k⟩
/-- a new object -/
theorem Ext.new {W : Wd} {H : Hp} (h : WOk W H) {p : Addr} {o : HO} (n : H p = none) : Ext W H (upd H p o) := .same h fun b u e => by
  rw [upd_ne (ne_of_none e n)]
  exact e
/-- an object of one's own is changed: no table, no code object, none of the draws -/
theorem WOk.write {W : Wd} {H : Hp} (h : WOk W H) {a : Addr} {o u : HO} (e : H a = some o) (m : Mut (some o)) (hx : ∀ φ, o ≠ .ext φ) (hr : a ∉ W.rg) : WOk W (upd H a u) := by
  have nt : ∀ ps, o ≠ .tbl ps := fun ps z => by subst z; exact m
  refine ⟨fun p hp => ?_, fun d hd => (h.drs d hd).stay fun b o' x _ hb => ?_⟩
  · obtain ⟨ps, h1, h2, h3⟩ := h.tabs p hp
    refine ⟨ps, ?_, h2, fun pos cv hc => ?_⟩
    · rw [upd_ne (fun z => by rw [z, e] at h1; exact nt ps (Option.some.inj h1))]
      exact h1
    · obtain ⟨c, e1, e2⟩ := h3 pos cv hc
      refine ⟨c, e1, ?_⟩
      rw [upd_ne (fun z => by rw [z, e] at e2; exact hx _ (Option.some.inj e2))]
      exact e2
  · rw [upd_ne (fun z => by
      rw [mem_rg hd] at hr
      subst z
      simp only [List.mem_cons, List.mem_nil_iff, or_false, not_or] at hr
      rcases hb with z | z | z
      · exact hr.1 z
      · exact hr.2.1 z
      · exact hr.2.2 z)]
    exact x

/-! ### slots -/
inductive Sl where
  /-- nothing is known -/
  | un
  /-- a datum -/
  | im (d : D)
  /-- a list of one's own -/
  | ow (l : List D)
  /-- an instance of one's own -/
  | oi (p C : Addr) (fs : List Str) (ds : List D)
abbrev De := List Sl
def ownA : De → L2.St → List Addr
  | .ow _ :: δ, some (.ref a) :: σ => a :: ownA δ σ
  | .oi _ _ _ _ :: δ, some (.ref a) :: σ => a :: ownA δ σ
  | _ :: δ, _ :: σ => ownA δ σ
  | _, _ => []
def SlotOk (K : PySem.W.Frag) (dr : Option Dr) (S : List Addr) (H : Hp) : Sl → Option V → Prop
  | .un, _ => True
  | .im d, o => ∃ v, o = some v ∧ Rep K dr (hide S H) d v
  | .ow l, o => ∃ a xs, o = some (.ref a) ∧ H a = some (.lst xs) ∧ RepL K dr (hide S H) l xs
  | .oi p C fs ds, o => ∃ a dx xs, o = some (.ref a) ∧ H a = some (.ins C dx (fs.zip xs)) ∧ fs.length = xs.length ∧ RepL K dr (hide S H) ds xs ∧ a = p
def SlotsOk (K : PySem.W.Frag) (dr : Option Dr) (S : List Addr) (H : Hp) : De → L2.St → Prop
  | [], [] => True
  | s :: δ, o :: σ => SlotOk K dr S H s o ∧ SlotsOk K dr S H δ σ
  | _, _ => False
abbrev hidA (W : Wd) (M : List Addr) (δ : De) (σ : L2.St) : List Addr := W.rg ++ M ++ ownA δ σ
structure EnvOk (K : PySem.W.Frag) (W : Wd) (M : List Addr) (δ : De) (σ : L2.St) (H : Hp) : Prop where
  w : WOk W H
  m : ∀ a ∈ M, a ∉ W.rg ∧ ∃ o, H a = some o ∧ ∀ ps, o ≠ .tbl ps
  nd : (ownA δ σ).Nodup
  dj : ∀ a ∈ ownA δ σ, a ∉ W.rg ∧ a ∉ M
  sl : SlotsOk K W.dr (hidA W M δ σ) H δ σ
section
variable {K : PySem.W.Frag} {dr : Option Dr} {S S' : List Addr} {H H' : Hp}
theorem SlotOk.stay {s : Sl} {o : Option V} (h : SlotOk K dr S H s o) (k : ExN (hide S H) (hide S' H')) (ko : ∀ a u, a ∈ ownA [s] [o] → H a = some u → (∀ ps, u ≠ .tbl ps) → H' a = some u) : SlotOk K dr S' H' s o := by
  cases s with
  | un => trivial
  | im d =>
    obtain ⟨v, h1, h2⟩ := h
    exact ⟨v, h1, h2.mono k⟩
  | ow l =>
    obtain ⟨a, xs, rfl, h2, h3⟩ := h
    exact ⟨a, xs, rfl, ko a _ (by simp [ownA]) h2 (fun _ z => by cases z), h3.mono k⟩
  | oi p C fs ds =>
    obtain ⟨a, dx, xs, rfl, h2, h3, h4, h5⟩ := h
    exact ⟨a, dx, xs, rfl, ko a _ (by simp [ownA]) h2 (fun _ z => by cases z), h3, h4.mono k, h5⟩
theorem ownA_cons {s : Sl} {o : Option V} {δ : De} {σ : L2.St} {a : Addr} : a ∈ ownA (s :: δ) (o :: σ) ↔ a ∈ ownA [s] [o] ∨ a ∈ ownA δ σ := by
  cases s <;> (cases o with
    | none => simp [ownA]
    | some v => cases v <;> simp [ownA])
theorem SlotsOk.stay : ∀ {δ : De} {σ : L2.St}, SlotsOk K dr S H δ σ → ExN (hide S H) (hide S' H') → (∀ a u, a ∈ ownA δ σ → H a = some u → (∀ ps, u ≠ .tbl ps) → H' a = some u) → SlotsOk K dr S' H' δ σ
  | [], [], _, _, _ => trivial
  | s :: δ, o :: σ, h, k, ko => ⟨h.1.stay k fun a u m => ko a u (ownA_cons.mpr (.inl m)), SlotsOk.stay h.2 k fun a u m => ko a u (ownA_cons.mpr (.inr m))⟩
  | [], _ :: _, h, _, _ => h.elim
  | _ :: _, [], h, _, _ => h.elim
theorem SlotsOk.get : ∀ {δ : De} {σ : L2.St} {i : Nat} {s : Sl}, SlotsOk K dr S H δ σ → δ[i]? = some s → ∃ o, σ[i]? = some o ∧ SlotOk K dr S H s o
  | [], [], i, s, _, e => by simp at e
  | s :: δ, o :: σ, 0, _, h, e => by
    simp at e; subst e; exact ⟨o, rfl, h.1⟩
  | s :: δ, o :: σ, i + 1, _, h, e => by
    obtain ⟨o', e1, r⟩ := SlotsOk.get (i := i) h.2 (by simpa using e)
    exact ⟨o', by simpa using e1, r⟩
  | [], _ :: _, _, _, h, _ => h.elim
  | _ :: _, [], _, _, h, _ => h.elim
theorem SlotsOk.length : ∀ {δ : De} {σ : L2.St}, SlotsOk K dr S H δ σ → δ.length = σ.length
  | [], [], _ => rfl
  | s :: δ, o :: σ, h => by rw [List.length_cons, List.length_cons, SlotsOk.length h.2]
  | [], _ :: _, h => h.elim
  | _ :: _, [], h => h.elim
theorem mem_ownA : ∀ {δ : De} {σ : L2.St} {a : Addr}, a ∈ ownA δ σ → ∃ i : Nat, σ[i]? = some (some (.ref a))
  | [], _, a, h => by simp [ownA] at h
  | s :: δ, [], a, h => by cases s <;> simp [ownA] at h
  | s :: δ, o :: σ, a, h => by
    rcases ownA_cons.mp h with h | h
    · refine ⟨0, ?_⟩
      cases s <;> (cases o with
        | none => simp [ownA] at h
        | some v => cases v <;> first | (simp [ownA] at h; done) | (simp [ownA] at h; subst h; rfl))
    · obtain ⟨i, e⟩ := mem_ownA h
      exact ⟨i + 1, by simpa using e⟩
end
section
variable {K : PySem.W.Frag} {W : Wd} {M : List Addr} {δ : De} {σ : L2.St} {H H' : Hp}
theorem EnvOk.ext (h : EnvOk K W M δ σ H) (e : Ext W H H') : EnvOk K W M δ σ H' :=
  ⟨e.ok, fun a ha => by
    obtain ⟨h1, o, h2, h3⟩ := h.m a ha
    exact ⟨h1, o, e.keep a o h1 h2 h3, h3⟩, h.nd, h.dj, h.sl.stay (e.hide fun a ha => by simp [hidA, ha]) fun a u ha => e.keep a u (h.dj a ha).1⟩
/-- a slot's datum -/
theorem EnvOk.get (h : EnvOk K W M δ σ H) {i : Nat} {d : D} (e : δ[i]? = some (.im d)) : ∃ v, σ[i]? = some (some v) ∧ Rep K W.dr (hide (hidA W M δ σ) H) d v := by
  obtain ⟨o, e1, v, e2, r⟩ := h.sl.get e
  exact ⟨v, by rw [e1, e2], r⟩
end

/-! ### exceptions -/
structure Ex where
  C : Addr
  fs : List Str := []
  ds : List D := []
def XOk (K : PySem.W.Frag) (dr : Option Dr) (H : Hp) (x : Ex) (cls : Value) (dd : Option Addr) : Prop :=
  cls = .ref x.C ∧ ((dd = none ∧ x.fs = [] ∧ x.ds = []) ∨ (x.fs ≠ [] ∧ ∃ d xs, dd = some d ∧ H d = some (.xd (x.fs.zip xs)) ∧ x.fs.length = xs.length ∧ RepL K dr H x.ds xs))
theorem XOk.mono {K : PySem.W.Frag} {dr : Option Dr} {H H' : Hp} {x : Ex} {cls : Value} {dd : Option Addr} (h : XOk K dr H x cls dd) (e : ExN H H') : XOk K dr H' x cls dd := by
  obtain ⟨h1, h2⟩ := h
  refine ⟨h1, ?_⟩
  rcases h2 with h2 | ⟨z, d, xs, a, b, c, r⟩
  · exact .inl h2
  · exact .inr ⟨z, d, xs, a, e _ _ b (fun _ z => by cases z), c, r.mono e⟩

/-! ### readings of data -/
abbrev KD := D → Prop
abbrev KX := Ex → Prop
/-- an expression comes to a datum of which Kp holds, or raises what Ke tells -/
def tE (K : PySem.W.Frag) (W : Wd) (M : List Addr) (wx : WX) (δ : De) (Kp : KD) (Ke : KX) : TE := fun σ H Q =>
  EnvOk K W M δ σ H ∧ (∀ v H' d, Ext W H H' → Rep K W.dr (hide (hidA W M δ σ) H') d v → Kp d → Q v H') ∧
    ∀ x cls dd H', Ext W H H' → XOk K W.dr (hide (hidA W M δ σ) H') x cls dd → Ke x → wx cls dd σ H'
def tT (K : PySem.W.Frag) (W : Wd) (M : List Addr) (wx : WX) (δ : De) (Kp : Bool → Prop) (Ke : KX) : TT := fun σ H Q =>
  EnvOk K W M δ σ H ∧ (∀ b H', Ext W H H' → Kp b → Q b H') ∧
    ∀ x cls dd H', Ext W H H' → XOk K W.dr (hide (hidA W M δ σ) H') x cls dd → Ke x → wx cls dd σ H'
def tA (K : PySem.W.Frag) (W : Wd) (M : List Addr) (wx : WX) (δ : De) (Kp : List D → Prop) (Ke : KX) : TA := fun σ H Q =>
  EnvOk K W M δ σ H ∧ (∀ vs H' ds, Ext W H H' → RepL K W.dr (hide (hidA W M δ σ) H') ds vs → Kp ds → Q vs H') ∧
    ∀ x cls dd H', Ext W H H' → XOk K W.dr (hide (hidA W M δ σ) H') x cls dd → Ke x → wx cls dd σ H'
def DE (X : Cx) (W : Wd) (M : List Addr) (wx : WX) (δ : De) (e : Expr) (Kp : KD) (Ke : KX) : Prop := PE X e (tE X.K W M wx δ Kp Ke)
def DT (X : Cx) (W : Wd) (M : List Addr) (wx : WX) (δ : De) (e : Expr) (Kp : Bool → Prop) (Ke : KX) : Prop := PT X e (tT X.K W M wx δ Kp Ke)
def DA (X : Cx) (W : Wd) (M : List Addr) (wx : WX) (δ : De) (es : List Expr) (Kp : List D → Prop) (Ke : KX) : Prop := PA X es (tA X.K W M wx δ Kp Ke)

/-- any reading -/
def tAny (X : Cx) (e : Expr) : TE := fun σ H Q => ∃ t, PE X e t ∧ t σ H Q
theorem pe_any {X : Cx} {e : Expr} : PE X e (tAny X e) := ⟨fun pins s σ H Q I ⟨_, h, q⟩ => h.run pins s σ H Q I q⟩
def ttAny (X : Cx) (e : Expr) : TT := fun σ H Q => ∃ t, PT X e t ∧ t σ H Q
theorem pt_any {X : Cx} {e : Expr} : PT X e (ttAny X e) := ⟨fun pins s σ H Q I ⟨_, h, q⟩ => h.run pins s σ H Q I q⟩
def twAny (X : Cx) (e : Expr) : TT := fun σ H Q => ∃ t, PW X e t ∧ t σ H Q
theorem pw_any {X : Cx} {e : Expr} : PW X e (twAny X e) := ⟨fun wh pins s σ H Q I ⟨_, h, q⟩ => h.run wh pins s σ H Q I q⟩
def taAny (X : Cx) (es : List Expr) : TA := fun σ H Q => ∃ t, PA X es t ∧ t σ H Q
theorem pa_any {X : Cx} {es : List Expr} : PA X es (taAny X es) := ⟨fun pos pins s σ H Q I ⟨_, h, q⟩ => h.run pos pins s σ H Q I q⟩
def tsAny (X : Cx) (st : Stmt) : TS := fun Dn σ H => ∃ t, PS X st t ∧ t Dn σ H
theorem ps_any {X : Cx} {st : Stmt} : PS X st (tsAny X st) := ⟨fun pins s σ H Q I ⟨_, h, q⟩ => h.run pins s σ H Q I q⟩
def tssAny (X : Cx) (st : List Stmt) : TS := fun Dn σ H => ∃ t, PSs X st t ∧ t Dn σ H
theorem pss_any {X : Cx} {st : List Stmt} : PSs X st (tssAny X st) := ⟨fun pins s σ H Q I ⟨_, h, q⟩ => h.run pins s σ H Q I q⟩

section
variable {X : Cx} {W : Wd} {M : List Addr} {wx : WX} {δ : De} {e a b c : Expr} {es : List Expr} {Kp : KD} {Ke : KX} {pos : Pos}
theorem PE.imp {t t' : TE} (h : PE X e t) (k : ∀ σ H Q, t' σ H Q → t σ H Q) : PE X e t' := ⟨fun pins s σ H Q I q => h.run pins s σ H Q I (k σ H Q q)⟩
theorem PT.imp {t t' : TT} (h : PT X e t) (k : ∀ σ H Q, t' σ H Q → t σ H Q) : PT X e t' := ⟨fun pins s σ H Q I q => h.run pins s σ H Q I (k σ H Q q)⟩
theorem PA.imp {t t' : TA} (h : PA X es t) (k : ∀ σ H Q, t' σ H Q → t σ H Q) : PA X es t' := ⟨fun pos pins s σ H Q I q => h.run pos pins s σ H Q I (k σ H Q q)⟩
theorem PS.imp {st : Stmt} {t t' : TS} (h : PS X st t) (k : ∀ Dn σ H, t' Dn σ H → t Dn σ H) : PS X st t' := ⟨fun pins s σ H Q I q => h.run pins s σ H Q I (k Q σ H q)⟩
theorem PSs.imp {st : List Stmt} {t t' : TS} (h : PSs X st t) (k : ∀ Dn σ H, t' Dn σ H → t Dn σ H) : PSs X st t' := ⟨fun pins s σ H Q I q => h.run pins s σ H Q I (k Q σ H q)⟩
theorem DE.weak {Kp' : KD} {Ke' : KX} (h : DE X W M wx δ e Kp Ke) (k : ∀ d, Kp d → Kp' d) (kx : ∀ x, Ke x → Ke' x := by exact fun _ h => h) : DE X W M wx δ e Kp' Ke' :=
  PE.imp h fun σ H Q ⟨e1, q, qx⟩ => ⟨e1, fun v H' d x r p => q v H' d x r (k d p), fun x cls dd H' e r p => qx x cls dd H' e r (kx x p)⟩
theorem DE.run {σ : L2.St} {H : Hp} {Q : VK} (h : DE X W M wx δ e Kp Ke) (env : EnvOk X.K W M δ σ H) (q : ∀ v H' d, Ext W H H' → Rep X.K W.dr (hide (hidA W M δ σ) H') d v → Kp d → Q v H')
    (qx : ∀ x cls dd H', Ext W H H' → XOk X.K W.dr (hide (hidA W M δ σ) H') x cls dd → Ke x → wx cls dd σ H') : tAny X e σ H Q := ⟨_, h, env, q, qx⟩
end
end Lay

/-! # DS2: expressions -/
namespace Lay
open PySem PySem.Spec PyProof.Rows L2

/-- the heap around a value: what is hidden -/
structure Amb (W : Wd) (S : List Addr) (H : Hp) : Prop where
  w : WOk W H
  rg : ∀ a ∈ W.rg, a ∈ S
  tr : ∀ a ∈ S, a ∈ W.rg ∨ ∃ o, H a = some o ∧ ∀ ps, o ≠ .tbl ps
theorem DrOk.tr {d : Dr} {H : Hp} (h : DrOk d H) {a : Addr} (ha : a = d.dw ∨ a = d.lg ∨ a = d.cl) : ∃ o, H a = some o ∧ ∀ ps, o ≠ .tbl ps := by
  obtain ⟨r, t, lg, h1, h2, h3, h4⟩ := h
  rcases ha with rfl | rfl | rfl
  · exact ⟨_, h1, fun _ z => by cases z⟩
  · exact ⟨_, h2, fun _ z => by cases z⟩
  · exact ⟨_, h3, fun _ z => by cases z⟩
theorem WOk.tr {W : Wd} {H : Hp} (h : WOk W H) {a : Addr} (ha : a ∈ W.rg) : ∃ o, H a = some o ∧ ∀ ps, o ≠ .tbl ps := by
  unfold Wd.rg at ha
  cases e : W.dr with
  | none => rw [e] at ha; simp at ha
  | some d =>
    rw [e] at ha
    exact (h.drs d e).tr (by simpa using ha)
theorem Amb.some {W : Wd} {S : List Addr} {H : Hp} (h : Amb W S H) {a : Addr} (ha : a ∈ S) : ∃ o, H a = some o ∧ ∀ ps, o ≠ .tbl ps := (h.tr a ha).elim (fun z => h.w.tr z) id
theorem Amb.new {W : Wd} {S : List Addr} {H : Hp} (h : Amb W S H) {p : Addr} (n : H p = none) : p ∉ S := fun z => by
  obtain ⟨o, e, _⟩ := h.some z
  rw [n] at e; cases e
theorem Amb.ext {W : Wd} {S : List Addr} {H H' : Hp} (h : Amb W S H) (e : Ext W H H') : Amb W S H' := ⟨e.ok, h.rg, fun a ha => by
  by_cases c : a ∈ W.rg
  · exact .inl c
  · rcases h.tr a ha with z | ⟨o, h1, h2⟩
    · exact .inl z
    · exact .inr ⟨o, e.keep a o c h1 h2, h2⟩⟩
theorem Amb.hid {W : Wd} {S : List Addr} {H H' : Hp} (h : Amb W S H) (e : Ext W H H') : ExN (hide S H) (hide S H') := e.hide h.rg
theorem EnvOk.amb {K : PySem.W.Frag} {W : Wd} {M : List Addr} {δ : De} {σ : L2.St} {H : Hp} (h : EnvOk K W M δ σ H) : Amb W (hidA W M δ σ) H := ⟨h.w, fun a ha => by simp [hidA, ha], fun a ha => by
  simp only [hidA, List.mem_append] at ha
  rcases ha with (ha | ha) | ha
  · exact .inl ha
  · exact .inr (h.m a ha).2
  · refine .inr ?_
    have go : ∀ (δ : De) (σ : L2.St) (S : List Addr), SlotsOk K W.dr S H δ σ → a ∈ ownA δ σ → ∃ o, H a = some o ∧ ∀ ps, o ≠ .tbl ps := by
      intro δ
      induction δ with
      | nil => intro σ S _ hm; simp [ownA] at hm
      | cons s δ ih =>
        intro σ S hs hm
        cases σ with
        | nil => exact hs.elim
        | cons o σ =>
          rcases ownA_cons.mp hm with hm | hm
          · cases s with
            | un => simp [ownA] at hm
            | im d => simp [ownA] at hm
            | ow l =>
              obtain ⟨b, xs, rfl, h2, h3⟩ := hs.1
              simp [ownA] at hm
              subst hm
              exact ⟨_, h2, fun _ z => by cases z⟩
            | oi p C fs ds =>
              obtain ⟨b, dx, xs, rfl, h2, h3⟩ := hs.1
              simp [ownA] at hm
              subst hm
              exact ⟨_, h2, fun _ z => by cases z⟩
          · exact ih σ S hs.2 hm
    exact go δ σ _ h.sl ha⟩
/-- a new object that bears a datum -/
theorem rep_new {K : PySem.W.Frag} {W : Wd} {S : List Addr} {H : Hp} (h : Amb W S H) {p : Addr} (n : H p = none) {o : HO} : hide S (upd H p o) p = some o := hide_of (h.new n) upd_same
theorem rep_tup {K : PySem.W.Frag} {W : Wd} {S : List Addr} {H : Hp} {ds : List D} {xs : List V} (h : Amb W S H) {p : Addr} (n : H p = none) (r : RepL K W.dr (hide S H) ds xs) : Rep K W.dr (hide S (upd H p (.tup xs))) (.tup ds) (.ref p) :=
  ⟨p, xs, rfl, SqT.of (hide_of (h.new n) upd_same), r.mono (h.hid (Ext.new h.w n))⟩
theorem rep_lst {K : PySem.W.Frag} {W : Wd} {S : List Addr} {H : Hp} {ds : List D} {xs : List V} (h : Amb W S H) {p : Addr} (n : H p = none) (r : RepL K W.dr (hide S H) ds xs) : Rep K W.dr (hide S (upd H p (.lst xs))) (.lst ds) (.ref p) :=
  ⟨p, xs, rfl, hide_of (h.new n) upd_same, r.mono (h.hid (Ext.new h.w n))⟩
theorem hide_SqT {K : PySem.W.Frag} {S : List Addr} {H : Hp} {a : Addr} {xs : List V} (h : SqT K (hide S H) a xs) : SqT K H a xs := ExN.seqT hide_sub h
theorem hide_lst {S : List Addr} {H : Hp} {a : Addr} {o : HO} (h : hide S H a = some o) : H a = some o := (hide_some h).2

/-! ### operators by data -/
def OpD (X : Cx) (f : Value → Value → Sem Value) (g : D → D → KD → Prop) : Prop :=
  ∃ r, OpR X f r ∧ ∀ (W : Wd) (S : List Addr) (H : Hp) (x y : V) (d e : D) (Kp : KD) (Q : VK), Amb W S H → Rep X.K W.dr (hide S H) d x → Rep X.K W.dr (hide S H) e y → g d e Kp →
    (∀ v H' d', Ext W H H' → Rep X.K W.dr (hide S H') d' v → Kp d' → Q v H') → r x y H Q
section
variable {X : Cx} {W : Wd} {M : List Addr} {wx : WX} {δ : De} {e a b c : Expr} {es : List Expr} {Kp : KD} {Kb : Bool → Prop} {Ke : KX} {pos : Pos} {g g' : D → D → KD → Prop}
theorem dx_name (i : Nat) {x : Str} {d : D} (hN : X.N[i]? = some x) (hv : Vis X.env.scope x) (hd : δ[i]? = some (.im d)) (k : Kp d)
    (hdb : (x == ("__debug__" : Str)) = false := by decide) (hcd : (x == ("__classdict__" : Str)) = false := by decide) : DE X W M wx δ (.Name x pos) Kp Ke :=
  PE.imp (pe_var hN hv hdb hcd) fun σ H Q ⟨env, q, _⟩ => by
    obtain ⟨v, e, r⟩ := env.get hd
    exact ⟨v, e, q v H d (Ext.refl env.w) r k⟩
theorem dx_int {i : Int} {j} (k : Kp (.int i)) : DE X W M wx δ (.Constant (.int i) j pos) Kp Ke := PE.imp pe_int fun σ H Q ⟨env, q, _⟩ => q _ H (.int i) (Ext.refl env.w) rfl k
theorem dx_bl {i : Bool} {j} (k : Kp (.bl i)) : DE X W M wx δ (.Constant (.bool i) j pos) Kp Ke := PE.imp pe_bl fun σ H Q ⟨env, q, _⟩ => q _ H (.bl i) (Ext.refl env.w) rfl k
theorem dx_non {j} (k : Kp .non) : DE X W M wx δ (.Constant .none j pos) Kp Ke := PE.imp pe_non fun σ H Q ⟨env, q, _⟩ => q _ H .non (Ext.refl env.w) rfl k
theorem dx_str {x : Str} {j} (k : Kp (.str x)) : DE X W M wx δ (.Constant (.str x) j pos) Kp Ke := PE.imp pe_str fun σ H Q ⟨env, q, _⟩ => q _ H (.str x) (Ext.refl env.w) rfl k
/-- a constant of the module -/
theorem dx_glob {x : Str} {v : V} {u : Value} {d : D} (hg : Gl X x) (hm : X.mg x = some u) (r : RelV v u) (hr : ∀ H, Rep X.K none H d v) (hr2 : ∀ dr H, Rep X.K none H d v → Rep X.K dr H d v) (k : Kp d) (hdb : (x == ("__debug__" : Str)) = false := by decide) :
    DE X W M wx δ (.Name x pos) Kp Ke := PE.imp (pe_glob hg hm r hdb) fun σ H Q ⟨env, q, _⟩ => q v H d (Ext.refl env.w) (hr2 _ _ (hr _)) k

theorem dx_op {op : Operator} (ho : OpD X (binaryOp op) g) (h : DE X W M wx δ a (fun d1 => DE X W M wx δ b (fun d2 => g d1 d2 Kp) Ke) Ke) : DE X W M wx δ (.BinOp a op b pos) Kp Ke := by
  obtain ⟨r, hr, hD⟩ := ho
  refine PE.imp (pe_op hr pe_any pe_any) fun σ H Q ⟨env, q, qx⟩ => ?_
  refine h.run env (fun x H1 d1 e1 r1 hb => ?_) qx
  refine hb.run (env.ext e1) (fun y H2 d2 e2 r2 hg => ?_) fun x cls dd H' e => qx x cls dd H' (e1.trans e)
  exact hD W _ H2 x y d1 d2 Kp Q (env.ext (e1.trans e2)).amb (r1.mono ((env.ext e1).amb.hid e2)) r2 hg fun v H' d' e3 r3 k => q v H' d' ((e1.trans e2).trans e3) r3 k
theorem dx_cmp {op : CmpOp} (ho : OpD X (compareOp op) g) (hm : behindInMarks op b = false) (h : DE X W M wx δ a (fun d1 => DE X W M wx δ b (fun d2 => g d1 d2 Kp) Ke) Ke) : DE X W M wx δ (.Compare a [op] [b] pos) Kp Ke := by
  obtain ⟨r, hr, hD⟩ := ho
  refine PE.imp (pe_cmpR hr pe_any pe_any hm) fun σ H Q ⟨env, q, qx⟩ => ?_
  refine h.run env (fun x H1 d1 e1 r1 hb => ?_) qx
  refine hb.run (env.ext e1) (fun y H2 d2 e2 r2 hg => ?_) fun x cls dd H' e => qx x cls dd H' (e1.trans e)
  exact hD W _ H2 x y d1 d2 Kp Q (env.ext (e1.trans e2)).amb (r1.mono ((env.ext e1).amb.hid e2)) r2 hg fun v H' d' e3 r3 k => q v H' d' ((e1.trans e2).trans e3) r3 k
/-- a truth value asked -/
def asB (Kb : Bool → Prop) : KD
  | .bl b => Kb b
  | _ => False
theorem asB_ex {d : D} (h : asB Kb d) : ∃ b, d = .bl b ∧ Kb b := by
  cases d <;> first | exact ⟨_, rfl, h⟩ | exact h.elim
theorem dt_cmp {op : CmpOp} (ho : OpD X (compareOp op) g) (hm : behindInMarks op b = false) (h : DE X W M wx δ a (fun d1 => DE X W M wx δ b (fun d2 => g d1 d2 (asB Kb)) Ke) Ke) : DT X W M wx δ (.Compare a [op] [b] pos) Kb Ke := by
  obtain ⟨r, hr, hD⟩ := ho
  refine PT.imp (pt_cmpR hr pe_any pe_any hm) fun σ H Q ⟨env, q, qx⟩ => ?_
  refine h.run env (fun x H1 d1 e1 r1 hb => ?_) qx
  refine hb.run (env.ext e1) (fun y H2 d2 e2 r2 hg => ?_) fun x cls dd H' e => qx x cls dd H' (e1.trans e)
  refine hD W _ H2 x y d1 d2 _ _ (env.ext (e1.trans e2)).amb (r1.mono ((env.ext e1).amb.hid e2)) r2 hg fun v H' d' e3 r3 k => ?_
  obtain ⟨k', rfl, kb⟩ := asB_ex k
  exact ⟨k', r3, q k' H' ((e1.trans e2).trans e3) kb⟩
/-- a < b < c -/
theorem dx_chain {op op' : CmpOp} (ho : OpD X (compareOp op) g) (ho' : OpD X (compareOp op') g') (hm : lastMarks [op, op'] [b, c] = false)
    (h : DE X W M wx δ a (fun d1 => DE X W M wx δ b (fun d2 => g d1 d2 (asB fun k => (k = true → DE X W M wx δ c (fun d3 => g' d2 d3 Kp) Ke) ∧ (k = false → Kp (.bl false)))) Ke) Ke) : DE X W M wx δ (.Compare a [op, op'] [b, c] pos) Kp Ke := by
  obtain ⟨r, hr, hD⟩ := ho
  obtain ⟨r', hr', hD'⟩ := ho'
  refine PE.imp (pe_chain hr hr' pe_any pe_any pe_any hm) fun σ H Q ⟨env, q, qx⟩ => ?_
  refine h.run env (fun x H1 d1 e1 r1 hb => ?_) qx
  refine hb.run (env.ext e1) (fun y H2 d2 e2 r2 hg => ?_) fun x cls dd H' e => qx x cls dd H' (e1.trans e)
  refine hD W _ H2 x y d1 d2 _ _ (env.ext (e1.trans e2)).amb (r1.mono ((env.ext e1).amb.hid e2)) r2 hg fun v H' d' e3 r3 k => ?_
  obtain ⟨k', rfl, k1, k2⟩ := asB_ex k
  refine ⟨k', r3, ?_⟩
  have e4 := (e1.trans e2).trans e3
  cases k' with
  | false => exact q _ H' (.bl false) e4 rfl (k2 rfl)
  | true =>
    rw [if_pos rfl]
    refine (k1 rfl).run (env.ext e4) (fun z H4 d3 e5 r5 hg' => ?_) fun x cls dd H' e => qx x cls dd H' (e4.trans e)
    exact hD' W _ H4 y z d2 d3 Kp Q (env.ext (e4.trans e5)).amb (r2.mono ((env.ext (e1.trans e2)).amb.hid (e3.trans e5))) r5 hg' fun v H' d' e6 r6 k => q v H' d' ((e4.trans e5).trans e6) r6 k
theorem dt_chain {op op' : CmpOp} (ho : OpD X (compareOp op) g) (ho' : OpD X (compareOp op') g') (hm : lastMarks [op, op'] [b, c] = false)
    (h : DE X W M wx δ a (fun d1 => DE X W M wx δ b (fun d2 => g d1 d2 (asB fun k => (k = true → DE X W M wx δ c (fun d3 => g' d2 d3 (asB Kb)) Ke) ∧ (k = false → Kb false))) Ke) Ke) : DT X W M wx δ (.Compare a [op, op'] [b, c] pos) Kb Ke := by
  obtain ⟨r, hr, hD⟩ := ho
  obtain ⟨r', hr', hD'⟩ := ho'
  refine PT.imp (pt_chain hr hr' pe_any pe_any pe_any hm) fun σ H Q ⟨env, q, qx⟩ => ?_
  refine h.run env (fun x H1 d1 e1 r1 hb => ?_) qx
  refine hb.run (env.ext e1) (fun y H2 d2 e2 r2 hg => ?_) fun x cls dd H' e => qx x cls dd H' (e1.trans e)
  refine hD W _ H2 x y d1 d2 _ _ (env.ext (e1.trans e2)).amb (r1.mono ((env.ext e1).amb.hid e2)) r2 hg fun v H' d' e3 r3 k => ?_
  obtain ⟨k', rfl, k1, k2⟩ := asB_ex k
  refine ⟨k', r3, ?_⟩
  have e4 := (e1.trans e2).trans e3
  cases k' with
  | false => exact ⟨false, rfl, q _ H' e4 (k2 rfl)⟩
  | true =>
    rw [if_pos rfl]
    refine (k1 rfl).run (env.ext e4) (fun z H4 d3 e5 r5 hg' => ?_) fun x cls dd H' e => qx x cls dd H' (e4.trans e)
    refine hD' W _ H4 y z d2 d3 _ _ (env.ext (e4.trans e5)).amb (r2.mono ((env.ext (e1.trans e2)).amb.hid (e3.trans e5))) r5 hg' fun v H' d' e6 r6 k => ?_
    obtain ⟨k', rfl, kb⟩ := asB_ex k
    exact ⟨k', r6, q k' H' ((e4.trans e5).trans e6) kb⟩
/-! ### and, or, not, if -/
theorem dx_one {op} (h : DE X W M wx δ a Kp Ke) : DE X W M wx δ (.BoolOp op [a] pos) Kp Ke := pe_one h
theorem dx_and {rest : List Expr} (h : DE X W M wx δ a (asB fun k => (k = true → DE X W M wx δ (.BoolOp .And (b :: rest) pos) Kp Ke) ∧ (k = false → Kp (.bl false))) Ke) : DE X W M wx δ (.BoolOp .And (a :: b :: rest) pos) Kp Ke :=
  PE.imp (pe_and pe_any pe_any) fun σ H Q ⟨env, q, qx⟩ => h.run env (fun x H1 d1 e1 r1 k => by
    obtain ⟨k', rfl, k1, k2⟩ := asB_ex k
    refine ⟨k', r1, ?_⟩
    cases k' with
    | true => exact (k1 rfl).run (env.ext e1) (fun v H' d e r k => q v H' d (e1.trans e) r k) fun x cls dd H' e => qx x cls dd H' (e1.trans e)
    | false => exact q _ H1 (.bl false) e1 rfl (k2 rfl)) qx
theorem dx_or {rest : List Expr} (h : DE X W M wx δ a (asB fun k => (k = true → Kp (.bl true)) ∧ (k = false → DE X W M wx δ (.BoolOp .Or (b :: rest) pos) Kp Ke)) Ke) : DE X W M wx δ (.BoolOp .Or (a :: b :: rest) pos) Kp Ke :=
  PE.imp (pe_or pe_any pe_any) fun σ H Q ⟨env, q, qx⟩ => h.run env (fun x H1 d1 e1 r1 k => by
    obtain ⟨k', rfl, k1, k2⟩ := asB_ex k
    refine ⟨k', r1, ?_⟩
    cases k' with
    | false => exact (k2 rfl).run (env.ext e1) (fun v H' d e r k => q v H' d (e1.trans e) r k) fun x cls dd H' e => qx x cls dd H' (e1.trans e)
    | true => exact q _ H1 (.bl true) e1 rfl (k1 rfl)) qx
theorem dx_not (h : DE X W M wx δ a (asB fun k => Kp (.bl (!k))) Ke) : DE X W M wx δ (.UnaryOp .Not a pos) Kp Ke :=
  PE.imp (pe_not pe_any) fun σ H Q ⟨env, q, qx⟩ => h.run env (fun x H1 d1 e1 r1 k => by
    obtain ⟨k', rfl, k1⟩ := asB_ex k
    exact ⟨k', r1, q _ H1 (.bl (!k')) e1 rfl k1⟩) qx
theorem DT.run {σ : L2.St} {H : Hp} {Q : Bool → Hp → Prop} (h : DT X W M wx δ e Kb Ke) (env : EnvOk X.K W M δ σ H) (q : ∀ b H', Ext W H H' → Kb b → Q b H')
    (qx : ∀ x cls dd H', Ext W H H' → XOk X.K W.dr (hide (hidA W M δ σ) H') x cls dd → Ke x → wx cls dd σ H') : ttAny X e σ H Q := ⟨_, h, env, q, qx⟩
theorem DT.weak {Kb' : Bool → Prop} (h : DT X W M wx δ e Kb Ke) (k : ∀ b, Kb b → Kb' b) : DT X W M wx δ e Kb' Ke :=
  PT.imp h fun σ H Q ⟨e1, q, qx⟩ => ⟨e1, fun b H' x p => q b H' x (k b p), qx⟩
/-- the truth of a datum -/
def truB : D → Option Bool
  | .non => some false
  | .bl b => some b
  | .int i => some (i != 0)
  | .tup l => some (!l.isEmpty)
  | .lst l => some (!l.isEmpty)
  | _ => none
theorem tru_of {K : PySem.W.Frag} {dr : Option Dr} {H : Hp} {d : D} {v : V} {k : Bool} {S : List Addr} (r : Rep K dr (hide S H) d v) (h : truB d = some k) : TruV K v H k := by
  cases d with
  | non => cases r; cases h; rfl
  | bl b => cases r; cases h; rfl
  | int i => cases r; cases h; rfl
  | str x => cases h
  | tup l =>
    obtain ⟨a, xs, rfl, h1, h2⟩ := r
    cases h
    refine .inr (.inl ⟨xs, hide_SqT h1, ?_⟩)
    have := h2.length
    cases l <;> cases xs <;> simp at this ⊢
  | lst l =>
    obtain ⟨a, xs, rfl, h1, h2⟩ := r
    cases h
    refine .inl ⟨xs, SqL.of (hide_lst h1), ?_⟩
    have := h2.length
    cases l <;> cases xs <;> simp at this ⊢
  | _ => cases h
/-- an expression's truth -/
def tru (Kb : Bool → Prop) : KD := fun d => ∃ k, truB d = some k ∧ Kb k
theorem dt_val (he : ∀ whole, isTrue e X.env whole = (do let v ← whole; standAt e.pos; holding [v] (truthy v))) (h : DE X W M wx δ e (tru Kb) Ke) : DT X W M wx δ e Kb Ke :=
  PT.imp (pt_truth pe_any he) fun σ H Q ⟨env, q, qx⟩ => h.run env (fun x H1 d1 e1 r1 ⟨k, hk, kb⟩ => ⟨k, tru_of r1 hk, q k H1 e1 kb⟩) qx
theorem dt_not (h : DT X W M wx δ a (fun k => Kb (!k)) Ke) : DT X W M wx δ (.UnaryOp .Not a pos) Kb Ke :=
  PT.imp (pt_not pt_any) fun σ H Q ⟨env, q, qx⟩ => h.run env (fun b H' e k => q (!b) H' e k) qx
/-- chains of and, or -/
def DW (X : Cx) (W : Wd) (M : List Addr) (wx : WX) (δ : De) (e : Expr) (Kb : Bool → Prop) (Ke : KX) : Prop := PW X e (tT X.K W M wx δ Kb Ke)
theorem DW.run {σ : L2.St} {H : Hp} {Q : Bool → Hp → Prop} (h : DW X W M wx δ e Kb Ke) (env : EnvOk X.K W M δ σ H) (q : ∀ b H', Ext W H H' → Kb b → Q b H')
    (qx : ∀ x cls dd H', Ext W H H' → XOk X.K W.dr (hide (hidA W M δ σ) H') x cls dd → Ke x → wx cls dd σ H') : twAny X e σ H Q := ⟨_, h, env, q, qx⟩
theorem PW.imp {t t' : TT} (h : PW X e t) (k : ∀ σ H Q, t' σ H Q → t σ H Q) : PW X e t' := ⟨fun wh pins s σ H Q I q => h.run wh pins s σ H Q I (k σ H Q q)⟩
theorem dw_and1 (h : DT X W M wx δ a Kb Ke) : DW X W M wx δ (.BoolOp .And [a] pos) Kb Ke := pw_and1 h
theorem dw_or1 (h : DT X W M wx δ a Kb Ke) : DW X W M wx δ (.BoolOp .Or [a] pos) Kb Ke := pw_or1 h
theorem dw_and {rest : List Expr} (h : DT X W M wx δ a (fun k => (k = true → DW X W M wx δ (.BoolOp .And (b :: rest) pos) Kb Ke) ∧ (k = false → Kb false)) Ke) : DW X W M wx δ (.BoolOp .And (a :: b :: rest) pos) Kb Ke :=
  PW.imp (pw_and pt_any pw_any) fun σ H Q ⟨env, q, qx⟩ => h.run env (fun k H1 e1 ⟨k1, k2⟩ => by
    cases k with
    | true => exact (k1 rfl).run (env.ext e1) (fun b H' e k => q b H' (e1.trans e) k) fun x cls dd H' e => qx x cls dd H' (e1.trans e)
    | false => exact q _ H1 e1 (k2 rfl)) qx
theorem dw_or {rest : List Expr} (h : DT X W M wx δ a (fun k => (k = true → Kb true) ∧ (k = false → DW X W M wx δ (.BoolOp .Or (b :: rest) pos) Kb Ke)) Ke) : DW X W M wx δ (.BoolOp .Or (a :: b :: rest) pos) Kb Ke :=
  PW.imp (pw_or pt_any pw_any) fun σ H Q ⟨env, q, qx⟩ => h.run env (fun k H1 e1 ⟨k1, k2⟩ => by
    cases k with
    | false => exact (k2 rfl).run (env.ext e1) (fun b H' e k => q b H' (e1.trans e) k) fun x cls dd H' e => qx x cls dd H' (e1.trans e)
    | true => exact q _ H1 e1 (k1 rfl)) qx
theorem dt_w (h : DW X W M wx δ e Kb Ke) : DT X W M wx δ e Kb Ke := PW.pt h
theorem dx_if {t : Expr} (h : DT X W M wx δ t (fun k => (k = true → DE X W M wx δ a Kp Ke) ∧ (k = false → DE X W M wx δ b Kp Ke)) Ke) : DE X W M wx δ (.IfExp t a b pos) Kp Ke :=
  PE.imp (pe_ifExp pt_any pe_any pe_any) fun σ H Q ⟨env, q, qx⟩ => h.run env (fun k H1 e1 ⟨k1, k2⟩ => by
    cases k with
    | true => exact (k1 rfl).run (env.ext e1) (fun v H' d e r k => q v H' d (e1.trans e) r k) fun x cls dd H' e => qx x cls dd H' (e1.trans e)
    | false => exact (k2 rfl).run (env.ext e1) (fun v H' d e r k => q v H' d (e1.trans e) r k) fun x cls dd H' e => qx x cls dd H' (e1.trans e)) qx
/-! ### arguments, displays -/
variable {KL : List D → Prop}
theorem DA.run {σ : L2.St} {H : Hp} {Q : List V → Hp → Prop} (h : DA X W M wx δ es KL Ke) (env : EnvOk X.K W M δ σ H) (q : ∀ vs H' ds, Ext W H H' → RepL X.K W.dr (hide (hidA W M δ σ) H') ds vs → KL ds → Q vs H')
    (qx : ∀ x cls dd H', Ext W H H' → XOk X.K W.dr (hide (hidA W M δ σ) H') x cls dd → Ke x → wx cls dd σ H') : taAny X es σ H Q := ⟨_, h, env, q, qx⟩
theorem da_nil (k : KL []) : DA X W M wx δ [] KL Ke := PA.imp pa_nil fun σ H Q ⟨env, q, qx⟩ => q [] H [] (Ext.refl env.w) .nil k
theorem da_cons (h : DE X W M wx δ e (fun d => DA X W M wx δ es (fun ds => KL (d :: ds)) Ke) Ke) (hs : starEach (e :: es) X.env = (false, eval e X.env) :: starEach es X.env := by rfl) : DA X W M wx δ (e :: es) KL Ke :=
  PA.imp (pa_cons pe_any pa_any hs) fun σ H Q ⟨env, q, qx⟩ => h.run env (fun x H1 d1 e1 r1 ha =>
    ha.run (env.ext e1) (fun vs H2 ds e2 r2 k => q (x :: vs) H2 (d1 :: ds) (e1.trans e2) (.cons (r1.mono ((env.ext e1).amb.hid e2)) r2) k) fun x cls dd H' e => qx x cls dd H' (e1.trans e)) qx
theorem dx_tup {k1} (h : DA X W M wx δ es (fun ds => ds.length ≤ 16777216 ∧ Kp (.tup ds)) Ke) : DE X W M wx δ (.Tuple es k1 pos) Kp Ke :=
  PE.imp (pe_tup pa_any) fun σ H Q ⟨env, q, qx⟩ => h.run env (fun vs H1 ds e1 r1 ⟨hl, k⟩ => by
    refine ⟨by rw [← r1.length, sizeLine_eq]; exact hl, fun p hp => ?_⟩
    have am := (env.ext e1).amb
    exact q _ _ (.tup ds) (e1.trans (Ext.new am.w hp)) (rep_tup am hp r1) k) qx
theorem dx_lst (h : DA X W M wx δ es (fun ds => ds.length ≤ 16777216 ∧ Kp (.lst ds)) Ke) : DE X W M wx δ (.List es pos) Kp Ke :=
  PE.imp (pe_lst pa_any) fun σ H Q ⟨env, q, qx⟩ => h.run env (fun vs H1 ds e1 r1 ⟨hl, k⟩ => by
    refine ⟨by rw [← r1.length, sizeLine_eq]; exact hl, fun p hp => ?_⟩
    have am := (env.ext e1).amb
    exact q _ _ (.lst ds) (e1.trans (Ext.new am.w hp)) (rep_lst am hp r1) k) qx
end

/-! ### the operators -/
section
variable {X : Cx}
def gAdd : D → D → KD → Prop
  | .int i, .int j, k => k (.int (i + j))
  | .lst l, .lst m, k => l.length + m.length ≤ 16777216 ∧ k (.lst (l ++ m))
  | .tup l, .tup m, k => l.length + m.length ≤ 16777216 ∧ k (.tup (l ++ m))
  | .str x, .str y, k => x.length + y.length ≤ 16777216 ∧ k (.str (x ++ y))
  | _, _, _ => False
theorem od_add : OpD X (binaryOp .Add) gAdd := by
  refine ⟨_, OpR.or op_add (OpR.or op_cat (OpR.or op_catA op_add_str)), fun W S H x y d e Kp Q am rx ry g q => ?_⟩
  cases d <;> cases e <;> first | exact g.elim | skip
  · cases rx; cases ry
    exact .inl ⟨_, _, rfl, rfl, q _ H (.int _) (Ext.refl am.w) rfl g⟩
  · cases rx; cases ry
    exact .inr (.inr (.inr ⟨_, _, rfl, rfl, by rw [sizeLine_eq]; exact g.1, q _ H (.str _) (Ext.refl am.w) rfl g.2⟩))
  · obtain ⟨a, xs, rfl, h1, h2⟩ := rx
    obtain ⟨b, ys, rfl, h3, h4⟩ := ry
    refine .inr (.inr (.inl ⟨a, b, xs, ys, rfl, rfl, hide_SqT h1, hide_SqT h3, by rw [sizeLine_eq, ← h2.length, ← h4.length]; exact g.1, fun hx => ?_, fun hx hy => ?_, fun hx hy p hp => ?_⟩))
    · subst hx
      have e0 := h2.length
      rename_i l m
      cases l with
      | nil => exact q _ H (.tup m) (Ext.refl am.w) ⟨b, ys, rfl, h3, h4⟩ g.2
      | cons _ _ => simp at e0
    · subst hy
      have e0 := h4.length
      rename_i l m
      cases m with
      | nil =>
        have g2 := g.2
        rw [List.append_nil] at g2
        exact q _ H (.tup l) (Ext.refl am.w) ⟨a, xs, rfl, h1, h2⟩ g2
      | cons _ _ => simp at e0
    · exact q _ _ _ (Ext.new am.w hp) (rep_tup am hp (h2.append h4)) g.2
  · obtain ⟨a, xs, rfl, h1, h2⟩ := rx
    obtain ⟨b, ys, rfl, h3, h4⟩ := ry
    exact .inr (.inl ⟨a, b, xs, ys, rfl, rfl, hide_lst h1, hide_lst h3, by rw [sizeLine_eq, ← h2.length, ← h4.length]; exact g.1, fun p hp => q _ _ _ (Ext.new am.w hp) (rep_lst am hp (h2.append h4)) g.2⟩)
def gI2 (C : Int → Int → Prop) (f : Int → Int → D) : D → D → KD → Prop
  | .int i, .int j, k => C i j ∧ k (f i j)
  | _, _, _ => False
theorem od_int {f : Value → Value → Sem Value} {C : Int → Int → Prop} {gi : Int → Int → Int} (ho : OpR X f (rI C fun i j => .int (gi i j))) : OpD X f (gI2 C fun i j => .int (gi i j)) := by
  refine ⟨_, ho, fun W S H x y d e Kp Q am rx ry g q => ?_⟩
  cases d <;> cases e <;> first | exact g.elim | skip
  cases rx; cases ry
  exact ⟨_, _, rfl, rfl, g.1, q _ H (.int _) (Ext.refl am.w) rfl g.2⟩
def gSub : D → D → KD → Prop
  | .int i, .int j, k => k (.int (i - j))
  | _, _, _ => False
theorem od_sub : OpD X (binaryOp .Sub) gSub := by
  refine ⟨_, op_sub, fun W S H x y d e Kp Q am rx ry g q => ?_⟩
  cases d <;> cases e <;> first | exact g.elim | skip
  cases rx; cases ry
  exact ⟨_, _, rfl, rfl, q _ H (.int _) (Ext.refl am.w) rfl g⟩
/-- what a product of two numbers asks -/
def CMulD (i j : Int) : Prop := CMul i j ∨ CMulW i j
theorem op_mulD : OpR X (binaryOp .Mult) (rI CMulD fun i j => .int (i * j)) := by
  intro pins s σ H x y v u Q I rx ry h
  obtain ⟨i, j, rfl, rfl, hc, q⟩ := h
  rcases hc with hc | hc
  · exact op_mul pins s σ H _ _ v u Q I rx ry ⟨i, j, rfl, rfl, hc, q⟩
  · exact op_mulW pins s σ H _ _ v u Q I rx ry ⟨i, j, rfl, rfl, hc, q⟩
/-- t * 1 is t -/
theorem tup_mul_one (l : Addr) (items : Array Value) (n : Nat) (dd : Option Addr) (sl : Array (Option Value)) (u : Tok) :
    Meets (Builtin.«tuple.__mul__» ⟨[.ref l, .int 1 u], []⟩) (fun _ R s => s.heap.get? l = some { cls := .type "tuple", dict := dd, data := .seq items n, slots := sl } ∧ R (.ok (.ret (Value.ref l))) s) :=
  .of_wp fun prog w A R s h => by
    obtain ⟨hp, g, d, tk, os⟩ := s; obtain ⟨hl, h⟩ := h; have f1 := AutoSeq1.idx_int
    have c1 : (items.isEmpty || (1 : Int) == 1) = true := by simp
    wp_walk using wpAny_loadPart' hl
    exact ⟨_, rfl, h⟩
theorem op_rep1 : OpR X (binaryOp .Mult) (fun x y H Q => ∃ l xs, x = .ref l ∧ y = .int 1 ∧ SqT X.K H l xs ∧ Q (.ref l) H) := by
  intro pins s σ H x y v u Q I rx ry h; obtain ⟨l, xs, rfl, rfl, hT, q⟩ := h; cases rx; obtain ⟨t, rfl⟩ := ry
  obtain ⟨its, r, ⟨⟨cls, dd, data, sl⟩, ho, hc, n, hd⟩, hs⟩ := I.tuple hT
  simp only at hc hd; subst hc hd
  exact wpAny_binaryOp_repeat_ref (T := "tuple") (U := "int") (by decide) ⟨_, ho, rfl⟩ (fun s' => typeIs_int s' 1 t) noFill_tuple_mul F.fills_int_mul F.slot_int_rmul repeat_tuple F.slot_int_index.lookup
    (call_meets F.slot_int_rmul (typeIs_int s 1 t) F.entry_int_rmul (F.args_int_rmul_2 _ _) (int_rmul_tuple 1 t l its.toArray n dd sl) ⟨ho, rfl, ⟨_, ho, rfl⟩, call_meets F.slot_tuple_mul ⟨_, ho, rfl⟩ F.entry_tuple_mul (F.args_tuple_mul_2 _ _) (tup_mul_one l its.toArray n dd sl t) ⟨ho, ⟨.ref l, H, I, rfl, q⟩⟩⟩)
def gMul : D → D → KD → Prop
  | .int i, .int j, k => CMulD i j ∧ k (.int (i * j))
  | .lst l, .int j, k => j < 2 ^ 63 ∧ -(2 ^ 63) ≤ j ∧ l.length * j.toNat ≤ 16777216 ∧ k (.lst (List.replicate j.toNat l).flatten)
  | .tup l, .int j, k => l ≠ [] ∧ 1 ≤ j ∧ j ≤ 1000 ∧ l.length ≤ 1000 ∧ k (.tup (List.replicate j.toNat l).flatten)
  | _, _, _ => False
theorem od_mul : OpD X (binaryOp .Mult) gMul := by
  refine ⟨_, OpR.or op_mulD (OpR.or op_rep (OpR.or op_repT op_rep1)), fun W S H x y d e Kp Q am rx ry g q => ?_⟩
  cases d <;> cases e <;> first | exact g.elim | skip
  · cases rx; cases ry
    exact .inl ⟨_, _, rfl, rfl, g.1, q _ H (.int _) (Ext.refl am.w) rfl g.2⟩
  · obtain ⟨a, xs, rfl, h1, h2⟩ := rx
    cases ry
    obtain ⟨g1, g2, g3, g4, g5⟩ := g
    rename_i l j
    have hne : xs ≠ [] := fun z => by
      subst z
      have := h2.length
      cases l with
      | nil => exact g1 rfl
      | cons _ _ => simp at this
    by_cases c : j = 1
    · subst c
      have e1 : (List.replicate (1 : Int).toNat l).flatten = l := by simp
      rw [e1] at g5
      exact .inr (.inr (.inr ⟨a, xs, rfl, rfl, hide_SqT h1, q _ H (.tup l) (Ext.refl am.w) ⟨a, xs, rfl, h1, h2⟩ g5⟩))
    · exact .inr (.inr (.inl ⟨a, j, xs, rfl, rfl, hide_SqT h1, hne, by omega, g3, by rw [← h2.length]; exact g4, fun p hp => q _ _ _ (Ext.new am.w hp) (rep_tup am hp (h2.flatten _)) g5⟩))
  · obtain ⟨a, xs, rfl, h1, h2⟩ := rx
    cases ry
    obtain ⟨g1, g2, g3, g4⟩ := g
    exact .inr (.inl ⟨a, _, xs, rfl, rfl, hide_lst h1, g2, g1, by rw [sizeLine_eq, ← h2.length]; exact g3, fun p hp => q _ _ _ (Ext.new am.w hp) (rep_lst am hp (h2.flatten _)) g4⟩)
/-- a // b, b above nought, below 2 ^ 9000 -/
theorem od_fdiv : OpD X (binaryOp .FloorDiv) (gI2 CDivW fun i j => .int (i / j)) := od_int op_fdivW
theorem od_mod : OpD X (binaryOp .Mod) (gI2 (fun _ j => 0 < j) fun i j => .int (i % j)) := od_int op_mod
/-- what a power asks -/
def CPowD (i j : Int) : Prop := 0 ≤ j ∧ (Builtin.Int.intBits i : Int) * j ≤ 2 ^ 27
theorem op_powD : OpR X (binaryOp .Pow) (rI CPowD fun i j => .int (i ^ j.toNat)) := opI fun _ _ _ _ _ _ _ hc q => pow_int hc.1 hc.2 q
theorem od_pow : OpD X (binaryOp .Pow) (gI2 CPowD fun i j => .int (i ^ j.toNat)) := od_int op_powD
end
end Lay

/-! # DS3: comparisons of data, items, built-in functions, isinstance, calls of defs -/
namespace Lay
open PySem PySem.Spec PyProof.Rows L2

/-! ### == -/
mutual
def py : D → Option PyData
  | .non => some .none
  | .bl b => some (.bool b)
  | .int i => some (.int i)
  | .str x => some (.str x)
  | .tup l => match pyL l with | some ps => some (.tuple ps) | none => none
  | .lst l => match pyL l with | some ps => some (.list ps) | none => none
  | _ => none
def pyL : List D → Option (List PyData)
  | [] => some []
  | d :: ds => match py d, pyL ds with | some p, some ps => some (p :: ps) | _, _ => none
end
mutual
theorem dp_of {K : PySem.W.Frag} {dr : Option Dr} {H : Hp} {S : List Addr} : ∀ (d : D) (v : V) (p : PyData), Rep K dr (hide S H) d v → py d = some p → Dp K H v p
  | .non, _, _, r, e => by cases r; cases e; exact .non
  | .bl b, _, _, r, e => by cases r; cases e; exact .bl b
  | .int i, _, _, r, e => by cases r; cases e; exact .int i
  | .str x, _, _, r, e => by cases r; cases e; exact .str x
  | .tup l, _, p, r, e => by
    obtain ⟨a, xs, rfl, h1, h2⟩ := r
    unfold py at e
    cases q : pyL l with
    | none => rw [q] at e; cases e
    | some ps =>
      rw [q] at e; cases e
      exact .tup (hide_SqT h1) (dpL_of l xs ps h2 q)
  | .lst l, _, p, r, e => by
    obtain ⟨a, xs, rfl, h1, h2⟩ := r
    unfold py at e
    cases q : pyL l with
    | none => rw [q] at e; cases e
    | some ps =>
      rw [q] at e; cases e
      exact .lst (SqL.of (hide_lst h1)) (dpL_of l xs ps h2 q)
  | .dic _ _, _, _, _, e => by cases e
  | .ins _ _ _, _, _, _, e => by cases e
  | .exc _ _ _, _, _, _, e => by cases e
  | .drw, _, _, _, e => by cases e
  | .frz _, _, _, _, e => by cases e
theorem dpL_of {K : PySem.W.Frag} {dr : Option Dr} {H : Hp} {S : List Addr} : ∀ (ds : List D) (vs : List V) (ps : List PyData), RepL K dr (hide S H) ds vs → pyL ds = some ps → DpAll K H vs ps
  | [], _, _, r, e => by cases r; cases e; exact .nil
  | d :: ds, _, ps, r, e => by
    obtain ⟨v, vs, rfl, h1, h2⟩ := r
    unfold pyL at e
    cases q1 : py d with
    | none => rw [q1] at e; cases e
    | some p =>
      cases q2 : pyL ds with
      | none => rw [q1, q2] at e; cases e
      | some qs =>
        rw [q1, q2] at e; cases e
        exact .cons (dp_of d v p h1 q1) (dpL_of ds vs qs h2 q2)
end
/-- the datum can be compared -/
def dok (d : D) : Bool := match py d with | some p => SeqAt.shaped p | none => false
/-- == of data -/
def deq (d e : D) : Bool := match py d, py e with | some p, some q => PyData.eqv p q | _, _ => false
mutual
theorem eqv_refl : ∀ p : PyData, p.canLay0 = true → PyData.eqv p p = true
  | .none, _ => by simp [PyData.eqv]
  | .bool b, _ => by simp [PyData.eqv]
  | .int i, _ => by simp [PyData.eqv]
  | .str x, _ => by simp [PyData.eqv]
  | .list xs, h => by simp only [PyData.eqv]; exact eqvAll_refl xs (by simpa [PyData.canLay0] using h)
  | .tuple xs, h => by simp only [PyData.eqv]; exact eqvAll_refl xs (by simpa [PyData.canLay0] using h)
  | .dict kvs, h => by simp [PyData.canLay0] at h
theorem eqvAll_refl : ∀ ps : List PyData, PyData.canLayAll0 ps = true → PyData.eqvAll ps ps = true
  | [], _ => by simp [PyData.eqvAll]
  | p :: ps, h => by
    simp only [PyData.canLayAll0, Bool.and_eq_true] at h
    simp only [PyData.eqvAll, Bool.and_eq_true]
    exact ⟨eqv_refl p h.1, eqvAll_refl ps h.2⟩
end
theorem deq_refl {d : D} (h : dok d = true) : deq d d = true := by
  unfold dok at h
  unfold deq
  cases e : py d with
  | none => rw [e] at h; cases h
  | some p =>
    rw [e] at h
    exact eqv_refl p (SeqAt.canLay_of_shaped h)
def gEq : D → D → KD → Prop
  | .int i, .int j, k => k (.bl (i == j))
  | d, e, k => dok d = true ∧ dok e = true ∧ k (.bl (deq d e))
def gNe : D → D → KD → Prop
  | .int i, .int j, k => k (.bl (!(i == j)))
  | d, e, k => dok d = true ∧ dok e = true ∧ k (.bl (!deq d e))
theorem dok_int (i : Int) : dok (.int i) = true := by
  simp [dok, py, SeqAt.shaped, PyData.canLay0, PyData.depth]
theorem gEq_gen {d e : D} {k : KD} (h : gEq d e k) : dok d = true ∧ dok e = true ∧ k (.bl (deq d e)) := by
  unfold gEq at h
  split at h
  · refine ⟨dok_int _, dok_int _, ?_⟩
    simpa [deq, py, PyData.eqv] using h
  · exact h
theorem gNe_gen {d e : D} {k : KD} (h : gNe d e k) : dok d = true ∧ dok e = true ∧ k (.bl (!deq d e)) := by
  unfold gNe at h
  split at h
  · refine ⟨dok_int _, dok_int _, ?_⟩
    simpa [deq, py, PyData.eqv] using h
  · exact h
section
variable {X : Cx}
theorem od_eq {k : Nat} (hr : Room k X.A) : OpD X (compareOp .Eq) gEq := by
  refine ⟨_, op_eqD hr.units, fun W S H x y d e Kp Q am rx ry g q => ?_⟩
  obtain ⟨g1, g2, g3⟩ := gEq_gen g
  unfold dok at g1 g2
  cases e1 : py d with
  | none => rw [e1] at g1; cases g1
  | some p =>
    cases e2 : py e with
    | none => rw [e2] at g2; cases g2
    | some p' =>
      rw [e1] at g1; rw [e2] at g2
      refine ⟨p, p', dp_of d x p rx e1, dp_of e y p' ry e2, g1, g2, q _ H (.bl (deq d e)) (Ext.refl am.w) ?_ g3⟩
      show V.bl _ = V.bl _
      rw [deq, e1, e2]
theorem od_ne {k : Nat} (hr : Room k X.A) : OpD X (compareOp .NotEq) gNe := by
  refine ⟨_, op_neD hr.units, fun W S H x y d e Kp Q am rx ry g q => ?_⟩
  obtain ⟨g1, g2, g3⟩ := gNe_gen g
  unfold dok at g1 g2
  cases e1 : py d with
  | none => rw [e1] at g1; cases g1
  | some p =>
    cases e2 : py e with
    | none => rw [e2] at g2; cases g2
    | some p' =>
      rw [e1] at g1; rw [e2] at g2
      refine ⟨p, p', dp_of d x p rx e1, dp_of e y p' ry e2, g1, g2, q _ H (.bl (!deq d e)) (Ext.refl am.w) ?_ g3⟩
      show V.bl _ = V.bl _
      rw [deq, e1, e2]
def gII (f : Int → Int → Bool) : D → D → KD → Prop
  | .int i, .int j, k => k (.bl (f i j))
  | _, _, _ => False
theorem od_ii {F : Value → Value → Sem Value} {f : Int → Int → Bool} (ho : OpR X F (rI0 fun i j => .bl (f i j))) : OpD X F (gII f) := by
  refine ⟨_, ho, fun W S H x y d e Kp Q am rx ry g q => ?_⟩
  cases d <;> cases e <;> first | exact g.elim | skip
  cases rx; cases ry
  exact ⟨_, _, rfl, rfl, q _ H (.bl _) (Ext.refl am.w) rfl g⟩
theorem od_lt : OpD X (compareOp .Lt) (gII fun i j => decide (i < j)) := od_ii op_lt
theorem od_le : OpD X (compareOp .LtE) (gII fun i j => decide (i ≤ j)) := od_ii op_le
theorem od_gt : OpD X (compareOp .Gt) (gII fun i j => decide (j < i)) := od_ii op_gt
theorem od_ge : OpD X (compareOp .GtE) (gII fun i j => decide (j ≤ i)) := od_ii op_ge
def isNon : D → Bool
  | .non => true
  | _ => false
def gIs : D → D → KD → Prop
  | d, .non, k => k (.bl (isNon d))
  | _, _, _ => False
def gIsnot : D → D → KD → Prop
  | d, .non, k => k (.bl (!isNon d))
  | _, _, _ => False
theorem rep_non {K : PySem.W.Frag} {dr : Option Dr} {H : Hp} {d : D} {x : V} (r : Rep K dr H d x) : decide (x = .non) = isNon d := by
  cases d with
  | non => cases r; rfl
  | bl b => cases r; rfl
  | int i => cases r; rfl
  | str x => cases r; rfl
  | tup l => obtain ⟨a, xs, rfl, _⟩ := r; rfl
  | lst l => obtain ⟨a, xs, rfl, _⟩ := r; rfl
  | dic ks ds => obtain ⟨a, xs, rfl, _⟩ := r; rfl
  | ins C fs ds => obtain ⟨a, dx, xs, rfl, _⟩ := r; rfl
  | exc C fs ds => obtain ⟨a, dd, rfl, _⟩ := r; rfl
  | drw => obtain ⟨d, _, rfl⟩ := r; rfl
  | frz ns => obtain ⟨a, rfl, _⟩ := r; rfl
theorem od_is : OpD X (compareOp .Is) gIs := by
  refine ⟨_, op_isN, fun W S H x y d e Kp Q am rx ry g q => ?_⟩
  cases e <;> first | exact g.elim | skip
  cases ry
  exact ⟨rfl, by rw [rep_non rx]; exact q _ H (.bl _) (Ext.refl am.w) rfl g⟩
theorem od_isnot : OpD X (compareOp .IsNot) gIsnot := by
  refine ⟨_, op_notN, fun W S H x y d e Kp Q am rx ry g q => ?_⟩
  cases e <;> first | exact g.elim | skip
  cases ry
  exact ⟨rfl, by rw [rep_non rx]; exact q _ H (.bl _) (Ext.refl am.w) rfl g⟩
/-- a flat datum as a flat value -/
def flV : D → Option V
  | .non => some .non
  | .bl b => some (.bl b)
  | .int i => some (.int i)
  | .str x => some (.str x)
  | _ => none
def flL : List D → Option (List V)
  | [] => some []
  | d :: ds => match flV d, flL ds with | some v, some vs => some (v :: vs) | _, _ => none
theorem flV_ok {K : PySem.W.Frag} {dr : Option Dr} {H : Hp} {d : D} {x v : V} (r : Rep K dr H d x) (h : flV d = some v) : x = v ∧ flatV v = true := by
  cases d <;> first | (cases h; done) | (cases h; cases r; exact ⟨rfl, rfl⟩)
theorem flL_ok {K : PySem.W.Frag} {dr : Option Dr} {H : Hp} : ∀ {ds : List D} {xs vs : List V}, RepL K dr H ds xs → flL ds = some vs → xs = vs ∧ vs.all flatV = true
  | [], _, _, r, h => by cases h; cases r; exact ⟨rfl, rfl⟩
  | d :: ds, _, vs, r, h => by
    obtain ⟨v, ws, rfl, h1, h2⟩ := r
    unfold flL at h
    cases e1 : flV d with
    | none => rw [e1] at h; cases h
    | some u =>
      cases e2 : flL ds with
      | none => rw [e1, e2] at h; cases h
      | some us =>
        rw [e1, e2] at h; cases h
        obtain ⟨rfl, f1⟩ := flV_ok h1 e1
        obtain ⟨rfl, f2⟩ := flL_ok h2 e2
        refine ⟨rfl, ?_⟩
        rw [List.all_cons, f1, f2]; rfl
def seqD : D → Option (List D)
  | .tup l => some l
  | .lst l => some l
  | _ => none
theorem seq_rep {K : PySem.W.Frag} {dr : Option Dr} {H : Hp} {S : List Addr} {d : D} {x : V} {l : List D} (r : Rep K dr (hide S H) d x) (h : seqD d = some l) : ∃ a xs, x = .ref a ∧ (SqL K H a xs ∨ SqT K H a xs) ∧ RepL K dr (hide S H) l xs := by
  cases d <;> first | (cases h; done) | skip
  · cases h
    obtain ⟨a, xs, rfl, h1, h2⟩ := r
    exact ⟨a, xs, rfl, .inr (hide_SqT h1), h2⟩
  · cases h
    obtain ⟨a, xs, rfl, h1, h2⟩ := r
    exact ⟨a, xs, rfl, .inl (SqL.of (hide_lst h1)), h2⟩
/-- x in a written list of flat things -/
def gIn (neg : Bool) : D → D → KD → Prop := fun d e k => ∃ v l vs, flV d = some v ∧ seqD e = some l ∧ flL l = some vs ∧ k (.bl (if neg then !inV v vs else inV v vs))
theorem od_in : OpD X (compareOp .In) (gIn false) := by
  refine ⟨_, op_in_seq, fun W S H x y d e Kp Q am rx ry g q => ?_⟩
  obtain ⟨v, l, vs, h1, h2, h3, k⟩ := g
  obtain ⟨rfl, f1⟩ := flV_ok rx h1
  obtain ⟨a, xs, rfl, hs, hl⟩ := seq_rep ry h2
  obtain ⟨rfl, f2⟩ := flL_ok hl h3
  exact ⟨a, xs, rfl, hs, f1, f2, q _ H (.bl _) (Ext.refl am.w) rfl k⟩
theorem od_notin : OpD X (compareOp .NotIn) (gIn true) := by
  refine ⟨_, op_notIn_seq, fun W S H x y d e Kp Q am rx ry g q => ?_⟩
  obtain ⟨v, l, vs, h1, h2, h3, k⟩ := g
  obtain ⟨rfl, f1⟩ := flV_ok rx h1
  obtain ⟨a, xs, rfl, hs, hl⟩ := seq_rep ry h2
  obtain ⟨rfl, f2⟩ := flL_ok hl h3
  exact ⟨a, xs, rfl, hs, f1, f2, q _ H (.bl _) (Ext.refl am.w) rfl k⟩
end

def gNeg : D → KD → Prop
  | .int i, k => k (.int (-i))
  | _, _ => False
theorem dx_neg {X : Cx} {W : Wd} {M : List Addr} {wx : WX} {δ : De} {a : Expr} {Kp : KD} {Ke : KX} {pos : Pos} (h : DE X W M wx δ a (fun d => gNeg d Kp) Ke) : DE X W M wx δ (.UnaryOp .USub a pos) Kp Ke :=
  PE.imp (pe_un un_neg pe_any) fun σ H Q ⟨env, q, qx⟩ => h.run env (fun x H1 d e1 r1 k => by
    cases d <;> first | exact k.elim | skip
    cases r1
    exact ⟨_, rfl, q _ H1 (.int _) e1 rfl k⟩) qx

/-! ### items and slices -/
section
variable {X : Cx} {W : Wd} {M : List Addr} {wx : WX} {δ : De} {e a b c : Expr} {es : List Expr} {Kp : KD} {Kb : Bool → Prop} {Ke : KX} {pos : Pos}
def gIx : D → D → KD → Prop := fun d e k => ∃ l i x, seqD d = some l ∧ e = .int i ∧ atI l i = some x ∧ k x
theorem atI_rep {K : PySem.W.Frag} {dr : Option Dr} {H : Hp} {l : List D} {xs : List V} {i : Int} {x : D} (r : RepL K dr H l xs) (h : atI l i = some x) : ∃ v, atI xs i = some v ∧ Rep K dr H x v := by
  unfold atI at h ⊢
  rw [← r.length]
  cases e : ixN l.length i with
  | none => rw [e] at h; cases h
  | some j =>
    rw [e] at h
    exact r.getD h
theorem dx_ix (hs : PlainIx b) (h : DE X W M wx δ a (fun d1 => DE X W M wx δ b (fun d2 => gIx d1 d2 Kp) Ke) Ke) : DE X W M wx δ (.Subscript a b pos) Kp Ke := by
  refine PE.imp (pe_ix (IxR.or ix_list ix_tup) pe_any pe_any hs) fun σ H Q ⟨env, q, qx⟩ => ?_
  refine h.run env (fun x H1 d1 e1 r1 hb => ?_) qx
  refine hb.run (env.ext e1) (fun y H2 d2 e2 r2 hg => ?_) fun x cls dd H' e => qx x cls dd H' (e1.trans e)
  obtain ⟨l, i, z, h1, rfl, h3, k⟩ := hg
  cases r2
  obtain ⟨p, xs, rfl, hq, hl⟩ := seq_rep (r1.mono ((env.ext e1).amb.hid e2)) h1
  obtain ⟨v, hv, rv⟩ := atI_rep hl h3
  have fin := q v H2 z (e1.trans e2) rv k
  rcases hq with hq | hq
  · exact .inl ⟨p, xs, i, v, rfl, rfl, hq, hv, fin⟩
  · exact .inr ⟨p, xs, i, v, rfl, rfl, hq, hv, fin⟩
/-- a part of a slice -/
def tP (K : PySem.W.Frag) (W : Wd) (M : List Addr) (wx : WX) (δ : De) (Ko : Option Int → Prop) (Ke : KX) : TO := fun σ H Q =>
  EnvOk K W M δ σ H ∧ (∀ o H', Ext W H H' → Ko o → Q o H') ∧ ∀ x cls dd H', Ext W H H' → XOk K W.dr (hide (hidA W M δ σ) H') x cls dd → Ke x → wx cls dd σ H'
def DP (X : Cx) (W : Wd) (M : List Addr) (wx : WX) (δ : De) (o : Option Expr) (Ko : Option Int → Prop) (Ke : KX) : Prop := PO X o (tP X.K W M wx δ Ko Ke)
theorem dp_none {Ko : Option Int → Prop} (k : Ko none) : DP X W M wx δ none Ko Ke := ⟨fun pins s σ H Q I ⟨env, q, qx⟩ => po_none.run pins s σ H Q I (q none H (Ext.refl env.w) k)⟩
def asI (Ki : Int → Prop) : KD
  | .int i => Ki i
  | _ => False
theorem asI_ex {Ki : Int → Prop} {d : D} (h : asI Ki d) : ∃ i, d = .int i ∧ Ki i := by
  cases d <;> first | exact ⟨_, rfl, h⟩ | exact h.elim
theorem dp_some {Ko : Option Int → Prop} (h : DE X W M wx δ e (asI fun i => Ko (some i)) Ke) : DP X W M wx δ (some e) Ko Ke :=
  ⟨fun pins s σ H Q I ⟨env, q, qx⟩ => (po_some pe_any).run pins s σ H Q I (h.run env (fun v H1 d e1 r k => by
    obtain ⟨i, rfl, ki⟩ := asI_ex k
    exact ⟨i, r, q (some i) H1 e1 ki⟩) qx)⟩
def toAny (X : Cx) (e : Option Expr) : TO := fun σ H Q => ∃ t, PO X e t ∧ t σ H Q
theorem po_any {e : Option Expr} : PO X e (toAny X e) := ⟨fun pins s σ H Q I ⟨_, h, q⟩ => h.run pins s σ H Q I q⟩
theorem DP.run {o : Option Expr} {Ko : Option Int → Prop} {σ : L2.St} {H : Hp} {Q : Option Int → Hp → Prop} (h : DP X W M wx δ o Ko Ke) (env : EnvOk X.K W M δ σ H) (q : ∀ o H', Ext W H H' → Ko o → Q o H')
    (qx : ∀ x cls dd H', Ext W H H' → XOk X.K W.dr (hide (hidA W M δ σ) H') x cls dd → Ke x → wx cls dd σ H') : toAny X o σ H Q := ⟨_, h, env, q, qx⟩
/-- a cut of a list -/
def cutD (xs : List D) (lo hi : Option Int) : List D := (xs.drop (HT.sIx xs.length 0 lo)).take (HT.sIx xs.length xs.length hi - HT.sIx xs.length 0 lo)
theorem cut_rep {K : PySem.W.Frag} {dr : Option Dr} {H : Hp} {l : List D} {xs : List V} (r : RepL K dr H l xs) (lo hi : Option Int) : RepL K dr H (cutD l lo hi) (cutV xs lo hi) := by
  unfold cutD cutV
  rw [← r.length]
  exact (r.drop _).take _
def gSl : D → Option Int → Option Int → KD → Prop
  | .lst l, lo, hi, k => k (.lst (cutD l lo hi))
  | .tup l, lo, hi, k => k (.tup (cutD l lo hi))
  | _, _, _, _ => False
theorem cutD_all {l : List D} {lo hi : Option Int} (h : HT.sIx l.length 0 lo = 0 ∧ HT.sIx l.length l.length hi = l.length) : cutD l lo hi = l := by
  unfold cutD
  rw [h.1, h.2]; simp
theorem dx_slice {lo hi : Option Expr} {p2 : Pos} (h : DE X W M wx δ e (fun d => DP X W M wx δ lo (fun l => DP X W M wx δ hi (fun u => gSl d l u Kp) Ke) Ke) Ke) : DE X W M wx δ (.Subscript e (.Slice lo hi none p2) pos) Kp Ke := by
  refine PE.imp (pe_slice (SlR.or sl_list sl_tupA) pe_any po_any po_any) fun σ H Q ⟨env, q, qx⟩ => ?_
  refine h.run env (fun x H1 d1 e1 r1 hl => ?_) qx
  refine hl.run (env.ext e1) (fun lo H2 e2 hh => ?_) fun x cls dd H' e => qx x cls dd H' (e1.trans e)
  refine hh.run (env.ext (e1.trans e2)) (fun hi H3 e3 hg => ?_) fun x cls dd H' e => qx x cls dd H' ((e1.trans e2).trans e)
  have e4 := (e1.trans e2).trans e3
  have am := (env.ext e4).amb
  have r3 := r1.mono ((env.ext e1).amb.hid (e2.trans e3))
  cases d1 <;> first | exact hg.elim | skip
  · obtain ⟨a, xs, rfl, h1, h2⟩ := r3
    refine .inr ⟨a, xs, rfl, hide_SqT h1, fun hw => ?_, fun hw p hp => ?_⟩
    · rename_i l
      have hg' : Kp (.tup (cutD l lo hi)) := hg
      rw [cutD_all (by rw [h2.length]; exact hw)] at hg'
      exact q _ H3 (.tup l) e4 ⟨a, xs, rfl, h1, h2⟩ hg'
    · exact q _ _ _ (e4.trans (Ext.new am.w hp)) (rep_tup am hp (cut_rep h2 lo hi)) hg
  · obtain ⟨a, xs, rfl, h1, h2⟩ := r3
    exact .inl ⟨a, xs, rfl, SqL.of (hide_lst h1), fun p hp => q _ _ _ (e4.trans (Ext.new am.w hp)) (rep_lst am hp (cut_rep h2 lo hi)) hg⟩
end

/-! ### built-in functions -/
/-- a built-in by data -/
def ClD (X : Cx) (f : Value) (g : List D → KD → Prop) : Prop :=
  ∃ r, CallR X f r ∧ ∀ (W : Wd) (S : List Addr) (H : Hp) (xs : List V) (ds : List D) (Kp : KD) (Q : VK), Amb W S H → RepL X.K W.dr (hide S H) ds xs → g ds Kp →
    (∀ v H' d', Ext W H H' → Rep X.K W.dr (hide S H') d' v → Kp d' → Q v H') → r xs H Q
section
variable {X : Cx} {W : Wd} {M : List Addr} {wx : WX} {δ : De} {e a b c : Expr} {es : List Expr} {Kp : KD} {Kb : Bool → Prop} {Ke : KX} {pos p : Pos} {g : List D → KD → Prop} {x : Str}
theorem dx_blt {id : String} (hc : ClD X (.builtin id) g) (hg : Gl X x) (hm : X.mg x = none) (hv : bootBuiltins x = some (.builtin id)) (h : DA X W M wx δ (e :: es) (fun ds => g ds Kp) Ke) (hn : x ≠ "__name__" := by decide) (hdb : (x == ("__debug__" : Str)) = false := by decide)
    (he : starEach (e :: es) X.env = (false, eval e X.env) :: starEach es X.env := by rfl) (hpl : (backTo pos (starEach es X.env)).any (·.1) = false := by rfl) : DE X W M wx δ (.Call (.Name x p) (e :: es) [] pos) Kp Ke := by
  obtain ⟨r, hr, hD⟩ := hc
  refine PE.imp (pe_callB hr hg hm hv pa_any hn hdb he hpl) fun σ H Q ⟨env, q, qx⟩ => ?_
  exact h.run env (fun vs H1 ds e1 r1 k => hD W _ H1 vs ds Kp Q (env.ext e1).amb r1 k fun v H' d' e2 r2 k2 => q v H' d' (e1.trans e2) r2 k2) qx
theorem dx_ty {T : String} (hc : ClD X (.type T) g) (hg : Gl X x) (hm : X.mg x = none) (hv : bootBuiltins x = some (.type T)) (h : DA X W M wx δ (e :: es) (fun ds => g ds Kp) Ke) (hn : x ≠ "__name__" := by decide) (hdb : (x == ("__debug__" : Str)) = false := by decide)
    (he : starEach (e :: es) X.env = (false, eval e X.env) :: starEach es X.env := by rfl) (hpl : (backTo pos (starEach es X.env)).any (·.1) = false := by rfl) : DE X W M wx δ (.Call (.Name x p) (e :: es) [] pos) Kp Ke := by
  obtain ⟨r, hr, hD⟩ := hc
  refine PE.imp (pe_callTy hr hg hm hv pa_any hn hdb he hpl) fun σ H Q ⟨env, q, qx⟩ => ?_
  exact h.run env (fun vs H1 ds e1 r1 k => hD W _ H1 vs ds Kp Q (env.ext e1).amb r1 k fun v H' d' e2 r2 k2 => q v H' d' (e1.trans e2) r2 k2) qx
/-- a built-in function of a module, by its name here -/
theorem dx_bfun {id : String} (hc : ClD X (.builtin id) g) (hg : Gl X x) (hm : X.mg x = some (.builtin id)) (h : DA X W M wx δ (e :: es) (fun ds => g ds Kp) Ke) (hdb : (x == ("__debug__" : Str)) = false := by decide)
    (he : starEach (e :: es) X.env = (false, eval e X.env) :: starEach es X.env := by rfl) (hpl : (backTo pos (starEach es X.env)).any (·.1) = false := by rfl) : DE X W M wx δ (.Call (.Name x p) (e :: es) [] pos) Kp Ke := by
  obtain ⟨r, hr, hD⟩ := hc
  refine PE.imp (pe_callBfun hr hg hm pa_any hdb he hpl) fun σ H Q ⟨env, q, qx⟩ => ?_
  exact h.run env (fun vs H1 ds e1 r1 k => hD W _ H1 vs ds Kp Q (env.ext e1).amb r1 k fun v H' d' e2 r2 k2 => q v H' d' (e1.trans e2) r2 k2) qx
theorem RepL.one {K : PySem.W.Frag} {dr : Option Dr} {H : Hp} {d : D} {xs : List V} (r : RepL K dr H [d] xs) : ∃ v, xs = [v] ∧ Rep K dr H d v := by
  obtain ⟨v, vs, rfl, h1, h2⟩ := r
  cases h2
  exact ⟨v, rfl, h1⟩
theorem RepL.two {K : PySem.W.Frag} {dr : Option Dr} {H : Hp} {d e : D} {xs : List V} (r : RepL K dr H [d, e] xs) : ∃ v u, xs = [v, u] ∧ Rep K dr H d v ∧ Rep K dr H e u := by
  obtain ⟨v, vs, rfl, h1, h2⟩ := r
  obtain ⟨u, rfl, h3⟩ := RepL.one h2
  exact ⟨v, u, rfl, h1, h3⟩
def gLen : List D → KD → Prop
  | [.tup l], k => k (.int l.length)
  | [.lst l], k => k (.int l.length)
  | [.str x], k => x.length ≤ 16777216 ∧ k (.int x.length)
  | [.frz ns], k => k (.int ns.length)
  | _, _ => False
theorem cd_len : ClD X (.builtin "len") gLen := by
  refine ⟨_, call_len, fun W S H xs ds Kp Q am r g q => ?_⟩
  cases ds with
  | nil => exact g.elim
  | cons d ds =>
    cases ds with
    | cons _ _ => cases d <;> exact g.elim
    | nil =>
      obtain ⟨v, rfl, rv⟩ := r.one
      cases d <;> first | exact g.elim | skip
      · cases rv
        exact ⟨_, _, rfl, ⟨by rw [sizeLine_eq]; exact g.1, rfl⟩, q _ H (.int _) (Ext.refl am.w) rfl g.2⟩
      · obtain ⟨a, xs, rfl, h1, h2⟩ := rv
        refine ⟨_, _, rfl, .inr ⟨xs, hide_SqT h1, rfl⟩, ?_⟩
        rw [← h2.length]
        exact q _ H (.int _) (Ext.refl am.w) rfl g
      · obtain ⟨a, xs, rfl, h1, h2⟩ := rv
        refine ⟨_, _, rfl, .inl ⟨xs, SqL.of (hide_lst h1), rfl⟩, ?_⟩
        rw [← h2.length]
        exact q _ H (.int _) (Ext.refl am.w) rfl g
      · rename_i ns
        obtain ⟨a, rfl, h1⟩ := rv
        refine ⟨_, _, rfl, .inl ⟨_, ExN.seqL hide_sub h1, rfl⟩, ?_⟩
        rw [List.length_map]
        exact q _ H (.int _) (Ext.refl am.w) rfl g
def gAbs : List D → KD → Prop
  | [.int i], k => k (.int (if i < 0 then -i else i))
  | _, _ => False
theorem cd_abs : ClD X (.builtin "abs") gAbs := by
  refine ⟨_, call_abs, fun W S H xs ds Kp Q am r g q => ?_⟩
  cases ds with
  | nil => exact g.elim
  | cons d ds =>
    cases ds with
    | cons _ _ => cases d <;> exact g.elim
    | nil =>
      obtain ⟨v, rfl, rv⟩ := r.one
      cases d <;> first | exact g.elim | skip
      cases rv
      exact ⟨_, rfl, q _ H (.int _) (Ext.refl am.w) rfl g⟩
def gInt : List D → KD → Prop
  | [.int i], k => k (.int i)
  | _, _ => False
theorem cd_int : ClD X (.type "int") gInt := by
  refine ⟨_, call_int1, fun W S H xs ds Kp Q am r g q => ?_⟩
  cases ds with
  | nil => exact g.elim
  | cons d ds =>
    cases ds with
    | cons _ _ => cases d <;> exact g.elim
    | nil =>
      obtain ⟨v, rfl, rv⟩ := r.one
      cases d <;> first | exact g.elim | skip
      cases rv
      exact .inl ⟨_, rfl, q _ H (.int _) (Ext.refl am.w) rfl g⟩
def as1 (f : D → Prop) : List D → Prop
  | [d] => f d
  | _ => False
theorem as1_ex {f : D → Prop} {ds : List D} (h : as1 f ds) : ∃ d, ds = [d] ∧ f d := by
  cases ds with
  | nil => exact False.elim h
  | cons d ds =>
    cases ds with
    | nil => exact ⟨d, rfl, h⟩
    | cons _ _ => exact False.elim h
def as2 (f : D → D → Prop) : List D → Prop
  | [d, e] => f d e
  | _ => False
theorem as2_ex {f : D → D → Prop} {ds : List D} (h : as2 f ds) : ∃ d e, ds = [d, e] ∧ f d e := by
  cases ds with
  | nil => exact False.elim h
  | cons d ds =>
    cases ds with
    | nil => exact False.elim h
    | cons e ds =>
      cases ds with
      | nil => exact ⟨d, e, rfl, h⟩
      | cons _ _ => exact False.elim h
def asII (f : Int → Int → Prop) : List D → Prop := as2 fun d e => asI (fun i => asI (fun j => f i j) e) d
theorem asII_ex {f : Int → Int → Prop} {ds : List D} (h : asII f ds) : ∃ i j, ds = [.int i, .int j] ∧ f i j := by
  obtain ⟨d, e, rfl, h⟩ := as2_ex h
  obtain ⟨i, rfl, h⟩ := asI_ex h
  obtain ⟨j, rfl, h⟩ := asI_ex h
  exact ⟨i, j, rfl, h⟩
theorem cd_ii {f : Value} {gi : Int → Int → Int} (hc : CallR X f (fun xs H Q => ∃ i j, xs = [.int i, .int j] ∧ Q (.int (gi i j)) H)) : ClD X f (fun ds k => asII (fun i j => k (.int (gi i j))) ds) := by
  refine ⟨_, hc, fun W S H xs ds Kp Q am r g q => ?_⟩
  obtain ⟨i, j, rfl, g⟩ := asII_ex g
  obtain ⟨v, u, rfl, rv, ru⟩ := r.two
  cases rv; cases ru
  exact ⟨_, _, rfl, q _ H (.int _) (Ext.refl am.w) rfl g⟩
abbrev gMin : List D → KD → Prop := fun ds k => asII (fun i j => k (.int (if j < i then j else i))) ds
theorem cd_min (hc : X.calm = true) : ClD X (.builtin "min") gMin := cd_ii (call_min2 hc)
abbrev gMax : List D → KD → Prop := fun ds k => asII (fun i j => k (.int (if j > i then j else i))) ds
theorem cd_max (hc : X.calm = true) : ClD X (.builtin "max") gMax := cd_ii (call_max2 hc)
abbrev gGcd : List D → KD → Prop := fun ds k => asII (fun i j => k (.int ((Nat.gcd i.natAbs j.natAbs : Nat) : Int))) ds
theorem cd_gcd : ClD X (.builtin "math.gcd") gGcd := cd_ii cr_gcd
abbrev gList : List D → KD → Prop := fun ds k => as1 (fun d => ∃ l, seqD d = some l ∧ k (.lst l)) ds
theorem cd_list : ClD X (.type "list") gList := by
  refine ⟨_, call_list_of, fun W S H xs ds Kp Q am r g q => ?_⟩
  obtain ⟨d, rfl, l, hl, g⟩ := as1_ex g
  obtain ⟨v, rfl, rv⟩ := r.one
  obtain ⟨a, xs, rfl, hs, h2⟩ := seq_rep rv hl
  exact ⟨a, xs, rfl, hs, fun p hp => q _ _ _ (Ext.new am.w hp) (rep_lst am hp h2) g⟩
abbrev gTuple : List D → KD → Prop := fun ds k => as1 (fun d => ∃ l, seqD d = some l ∧ k (.tup l)) ds
theorem cd_tuple : ClD X (.type "tuple") gTuple := by
  refine ⟨_, call_tuple_of, fun W S H xs ds Kp Q am r g q => ?_⟩
  obtain ⟨d, rfl, l, hl, g2⟩ := as1_ex g
  obtain ⟨v, rfl, rv⟩ := r.one
  cases d <;> first | (cases hl; done) | skip
  · cases hl
    obtain ⟨a, xs, rfl, h1, h2⟩ := rv
    exact ⟨a, xs, rfl, .inr ⟨hide_SqT h1, q _ H (.tup l) (Ext.refl am.w) ⟨a, xs, rfl, h1, h2⟩ g2⟩⟩
  · cases hl
    obtain ⟨a, xs, rfl, h1, h2⟩ := rv
    exact ⟨a, xs, rfl, .inl ⟨SqL.of (hide_lst h1), fun p hp => q _ _ _ (Ext.new am.w hp) (rep_tup am hp h2) g2⟩⟩
def blL : List D → Option (List Bool)
  | [] => some []
  | .bl b :: ds => match blL ds with | some bs => some (b :: bs) | none => none
  | _ => none
theorem blL_ok {K : PySem.W.Frag} {dr : Option Dr} {H : Hp} : ∀ {ds : List D} {xs : List V} {bs : List Bool}, RepL K dr H ds xs → blL ds = some bs → xs = bs.map V.bl
  | [], _, _, r, h => by cases h; cases r; rfl
  | d :: ds, _, bs, r, h => by
    obtain ⟨v, ws, rfl, h1, h2⟩ := r
    cases d <;> first | (cases h; done) | skip
    unfold blL at h
    cases e2 : blL ds with
    | none => rw [e2] at h; cases h
    | some us =>
      rw [e2] at h; cases h
      cases h1
      rw [blL_ok h2 e2]; rfl
theorem blL_map : ∀ bs : List Bool, blL (bs.map D.bl) = some bs
  | [] => rfl
  | b :: bs => by
    rw [List.map_cons]
    unfold blL
    rw [blL_map bs]
abbrev gAll : List D → KD → Prop := fun ds k => as1 (fun d => ∃ l bs, d = .lst l ∧ blL l = some bs ∧ k (.bl (bs.all id))) ds
theorem cd_all (hc : X.calm = true) : ClD X (.builtin "all") gAll := by
  refine ⟨_, cr_all hc, fun W S H xs ds Kp Q am r g q => ?_⟩
  obtain ⟨d, rfl, l, bs, rfl, hl, g⟩ := as1_ex g
  obtain ⟨v, rfl, a, xs, rfl, h1, h2⟩ := r.one
  have e := blL_ok h2 hl
  subst e
  exact ⟨a, bs, rfl, SqL.of (hide_lst h1), q _ H (.bl _) (Ext.refl am.w) rfl g⟩
end
end Lay

/-! # DS4: isinstance, calls of defs, statements -/
namespace Lay
open PySem PySem.Spec PyProof.Rows L2

/-! ### isinstance -/
/-- the built-in type of a datum -/
def prT : D → Option String
  | .non => some "NoneType"
  | .bl _ => some "bool"
  | .int _ => some "int"
  | .str _ => some "str"
  | .tup _ => some "tuple"
  | .lst _ => some "list"
  | .dic _ _ => some "dict"
  | _ => none
/-- isinstance of a datum of a built-in type -/
def isP (t : String) : D → Bool
  | .bl _ => t == "bool" || t == "int"
  | .int _ => t == "int"
  | .str _ => t == "str"
  | .tup _ => t == "tuple"
  | .lst _ => t == "list"
  | .dic _ _ => t == "dict"
  | _ => false
/-- no object of an own class -/
def prim (d : D) : Bool := (prT d).isSome
theorem tyx_of {K : PySem.W.Frag} {dr : Option Dr} {H : Hp} {S : List Addr} {d : D} {v : V} {s : String} (r : Rep K dr (hide S H) d v) (h : prT d = some s) : TyX K H v (.type s) := by
  cases d <;> first | (cases h; done) | skip
  · cases h; cases r; exact .base .non
  · cases h; cases r; exact .base (.bl _)
  · cases h; cases r; exact .base (.int _)
  · cases h; cases r; exact .base (.str _)
  · cases h
    obtain ⟨a, xs, rfl, h1, h2⟩ := r
    rcases hide_SqT h1 with (h1 | ⟨o, h1⟩) | ⟨o, its, n, h1, h3, _⟩
    · exact .base (.tup h1)
    · exact .fTuple h1
    · exact .kTuple h1 h3
  · cases h
    obtain ⟨a, xs, rfl, h1, h2⟩ := r
    exact .base (.lst (hide_lst h1))
  · cases h
    obtain ⟨a, xs, rfl, h1, h2, h3⟩ := r
    exact .base (.dK (hide_lst h1))
/-- the built-in types asked -/
def tys : List String := ["int", "bool", "tuple", "list", "dict", "str"]
theorem kit_prim {K : PySem.W.Frag} {d : D} {s t : String} (h : prT d = some s) (ht : t ∈ tys) : PySem.W.kitOne K (.type s) (.type t) = some (isP t d) := by
  have ht : t = "int" ∨ t = "bool" ∨ t = "tuple" ∨ t = "list" ∨ t = "dict" ∨ t = "str" := by simpa [tys] using ht
  cases d <;> first | (cases h; done) | skip
  all_goals (cases h; rcases ht with rfl | rfl | rfl | rfl | rfl | rfl <;> exact kit_ty (by simp only [isP]; decide +kernel))
section
variable {X : Cx} {W : Wd} {M : List Addr} {wx : WX} {δ : De} {e : Expr} {es : List Expr} {Kp : KD} {Kb : Bool → Prop} {Ke : KX} {pos p p1 p2 p3 : Pos} {x : Str}
/-- isinstance(e, T), T a built-in type -/
theorem dx_isi (t : String) (hg : Gl X "isinstance") (hm : X.mg "isinstance" = none) (hg2 : Gl X x) (hm2 : X.mg x = none) (hv : bootBuiltins x = some (.type t)) (ht : t ∈ tys) (h : DE X W M wx δ e (fun d => prim d = true ∧ Kp (.bl (isP t d))) Ke)
    (hn : x ≠ "__name__" := by decide) (hdb : (x == ("__debug__" : Str)) = false := by decide) (he : starEach [e, .Name x p1] X.env = (false, eval e X.env) :: starEach [.Name x p1] X.env := by rfl)
    (he2 : starEach [.Name x p1] X.env = (false, eval (.Name x p1) X.env) :: starEach [] X.env := by rfl) (hpl : (backTo pos (starEach [.Name x p1] X.env)).any (·.1) = false := by rfl) : DE X W M wx δ (.Call (.Name "isinstance" p) [e, .Name x p1] [] pos) Kp Ke := by
  refine PE.imp (pe_callB call_isi hg hm (by decide +kernel) (pa_cons pe_any (pa_cons (pe_bltn (v := .ty t) hg2 hm2 hv rfl hn hdb) pa_nil he2) he) (by decide) (by decide) he hpl) fun σ H Q ⟨env, q, qx⟩ => ?_
  refine h.run env (fun v H1 d e1 r1 ⟨hp, k⟩ => ?_) qx
  obtain ⟨s, hs⟩ := Option.isSome_iff_exists.mp hp
  exact ⟨v, .ty t, .type s, .type t, isP t d, rfl, .ty t, tyx_of r1 hs, kit_prim hs ht, q _ H1 (.bl _) e1 rfl k⟩
/-- isinstance(e, (T1, T2)) -/
theorem dx_isi2 (t t' : String) {x' : Str} {k1} (hg : Gl X "isinstance") (hm : X.mg "isinstance" = none) (hg2 : Gl X x) (hm2 : X.mg x = none) (hv : bootBuiltins x = some (.type t)) (hg3 : Gl X x') (hm3 : X.mg x' = none) (hv3 : bootBuiltins x' = some (.type t'))
    (ht : t ∈ tys) (ht' : t' ∈ tys) (h : DE X W M wx δ e (fun d => prim d = true ∧ Kp (.bl (isP t d || isP t' d))) Ke)
    (hn : x ≠ "__name__" := by decide) (hdb : (x == ("__debug__" : Str)) = false := by decide) (hn' : x' ≠ "__name__" := by decide) (hdb' : (x' == ("__debug__" : Str)) = false := by decide)
    (he : starEach [e, .Tuple [.Name x p1, .Name x' p2] k1 p3] X.env = (false, eval e X.env) :: starEach [.Tuple [.Name x p1, .Name x' p2] k1 p3] X.env := by rfl)
    (he2 : starEach [.Tuple [.Name x p1, .Name x' p2] k1 p3] X.env = (false, eval (.Tuple [.Name x p1, .Name x' p2] k1 p3) X.env) :: starEach [] X.env := by rfl) (he3 : starEach [.Name x p1, .Name x' p2] X.env = (false, eval (.Name x p1) X.env) :: starEach [.Name x' p2] X.env := by rfl) (he4 : starEach [.Name x' p2] X.env = (false, eval (.Name x' p2) X.env) :: starEach [] X.env := by rfl)
    (hpl : (backTo pos (starEach [.Tuple [.Name x p1, .Name x' p2] k1 p3] X.env)).any (·.1) = false := by rfl) : DE X W M wx δ (.Call (.Name "isinstance" p) [e, .Tuple [.Name x p1, .Name x' p2] k1 p3] [] pos) Kp Ke := by
  refine PE.imp (pe_callB call_isiT hg hm (by decide +kernel) (pa_cons pe_any (pa_cons (pe_tup (pa_cons (pe_bltn (v := .ty t) hg2 hm2 hv rfl hn hdb) (pa_cons (pe_bltn (v := .ty t') hg3 hm3 hv3 rfl hn' hdb') pa_nil he4) he3)) pa_nil he2) he) (by decide) (by decide) he hpl) fun σ H Q ⟨env, q, qx⟩ => ?_
  refine h.run env (fun v H1 d e1 r1 ⟨hp, k⟩ => ?_) qx
  obtain ⟨s, hs⟩ := Option.isSome_iff_exists.mp hp
  refine ⟨by rw [sizeLine_eq]; exact (by decide : (2 : Nat) ≤ 16777216), fun a ha => ?_⟩
  have am := (env.ext e1).amb
  have e2 := Ext.new (o := .tup [.ty t, .ty t']) am.w ha
  refine ⟨v, a, [.ty t, .ty t'], .type s, [.type t, .type t'], isP t d || isP t' d, rfl, upd_same, .cons (.ty t) (.cons (.ty t') .nil), tyx_of (r1.mono (am.hid e2)) hs, ?_, q _ _ (.bl _) (e1.trans e2) rfl k⟩
  refine kitAny_cons (kit_prim hs ht) (fun hb => kitAny_cons (kit_prim hs ht') (fun hb' => ?_) (fun hb' => by rw [hb, hb']; rfl)) (fun hb => by rw [hb]; rfl)
  rw [kitAny_nil, hb, hb']; rfl
/-- what is known of a class whose instances are asked -/
structure InsF (K : PySem.W.Frag) (C : Addr) : Prop where
  cl : Cls K C
  ha : PySem.W.findIn K (.ref C) "__class__" = some (some (.builtin "object.__class__"))
  hn : PySem.W.specialIn K (.builtin "object.__class__") "__get__" = some (some (.builtin "getset_descriptor.__get__"))
  ht : PySem.W.takesIn K (.builtin "object.__class__") = some true
  hm : PySem.W.mroIn K C (.type "object") = some true
/-- whether a datum is an instance of the class at C -/
inductive IsO (K : PySem.W.Frag) (C : Addr) : D → Bool → Prop where
  | pr {d : D} {s : String} (h : prT d = some s) : IsO K C d false
  | ins {C' : Addr} {fs : List Str} {ds : List D} {b : Bool} (F : InsF K C') (h : PySem.W.kitOne K (.ref C') (.ref C) = some b) : IsO K C (.ins C' fs ds) b
  | exc {C' : Addr} {b : Bool} (F : ExcC K C') (h : PySem.W.kitOne K (.ref C') (.ref C) = some b) : IsO K C (.exc C' [] []) b
def rIsX (K : PySem.W.Frag) : List V → Hp → VK → Prop := fun xs H Q => ∃ (c : V) (cv : Value) (C' a : Addr) (b : Bool), xs = [.ref a, c] ∧ ClsV c cv ∧ H a = some (ExV C' none a) ∧ ExcC K C' ∧ PySem.W.kitOne K (.ref C') cv = some b ∧ Q (.bl b) H
theorem call_isX : CallR X (.builtin "isinstance") (rIsX X.K) := by
  intro pins s σ H xs us Q I r h
  obtain ⟨c, cv, C', a, b, rfl, hcv, ha, F, e, q⟩ := h
  obtain ⟨u1, u2, rfl, r1, r2⟩ := vals2 r
  have e2 := hcv.eq r2
  subst e2
  cases r1
  obtain ⟨⟨oe, vs, h1, h2, h3, h4⟩, _⟩ := I.hok a _ ha
  have J : PySem.W.InstAt s.heap a oe C' none := by
    obtain ⟨oc, od, oda, osl⟩ := oe
    dsimp only at h2 h3 h4
    subst h2 h3 h4
    exact ⟨h1, rfl, rfl, trivial⟩
  exact PySem.W.kia_one (PySem.W.handS_kitx_exc F.hg F.hk F.hs F.hd F.ha F.hn F.ht F.hm) I.kIn J e (fun z => nomatch z) fun tk => ⟨.bl b, H, I.tok tk, rfl, q⟩
theorem CallR.or {f : Value} {r r' : List V → Hp → VK → Prop} (h : CallR X f r) (h' : CallR X f r') : CallR X f (fun xs H Q => r xs H Q ∨ r' xs H Q) := by
  intro pins s σ H xs us Q I rr q
  rcases q with q | q
  · exact h pins s σ H xs us Q I rr q
  · exact h' pins s σ H xs us Q I rr q
theorem kit_own {K : PySem.W.Frag} {C : Addr} {d : D} {s : String} (hC : clsB K C = true) (h : prT d = some s) : PySem.W.kitOne K (.type s) (.ref C) = some false := by
  have e : PySem.W.kitOne K (.type s) (.ref C) = PySem.W.subIn K (.type s) (.ref C) := by
    unfold PySem.W.kitOne PySem.W.kitCls
    rw [if_neg (by show ¬ (Value.type s == Value.ref C) = true; exact fun z => by cases (eq_of_beq z))]
    show (if clsB K C = true then _ else _) = _
    rw [if_pos hC]
  rw [e]
  cases d <;> first | (cases h; done) | skip
  all_goals (cases h; rfl)
/-- isinstance(e, C), C an own class -/
theorem dx_isiO {C : Addr} (hg : Gl X "isinstance") (hm : X.mg "isinstance" = none) (hg2 : Gl X x) (hm2 : X.mg x = some (.ref C)) (hC : clsB X.K C = true) (h : DE X W M wx δ e (fun d => ∃ b, IsO X.K C d b ∧ Kp (.bl b)) Ke)
    (hdb : (x == ("__debug__" : Str)) = false := by decide) (he : starEach [e, .Name x p1] X.env = (false, eval e X.env) :: starEach [.Name x p1] X.env := by rfl)
    (he2 : starEach [.Name x p1] X.env = (false, eval (.Name x p1) X.env) :: starEach [] X.env := by rfl) (hpl : (backTo pos (starEach [.Name x p1] X.env)).any (·.1) = false := by rfl) : DE X W M wx δ (.Call (.Name "isinstance" p) [e, .Name x p1] [] pos) Kp Ke := by
  refine PE.imp (pe_callB (CallR.or call_isi call_isX) hg hm (by decide +kernel) (pa_cons pe_any (pa_cons (pe_glob (v := .ref C) hg2 hm2 rfl hdb) pa_nil he2) he) (by decide) (by decide) he hpl) fun σ H Q ⟨env, q, qx⟩ => ?_
  refine h.run env (fun v H1 d e1 r1 ⟨b, hb, k⟩ => ?_) qx
  have fin := q _ H1 (.bl b) e1 rfl k
  cases hb with
  | pr hs => exact .inl ⟨v, .ref C, _, .ref C, false, rfl, .own C, tyx_of r1 hs, kit_own hC hs, fin⟩
  | ins F hk =>
    obtain ⟨a, dx, xs, rfl, h1, h2, h3⟩ := r1
    exact .inl ⟨.ref a, .ref C, _, .ref C, b, rfl, .own C, .base (.ins (hide_lst h1) F.cl F.ha F.hn F.ht F.hm), hk, fin⟩
  | exc F hk =>
    obtain ⟨a, dd, rfl, h1, h2⟩ := r1
    rcases h2 with ⟨rfl, _⟩ | ⟨z, _⟩
    · exact .inr ⟨.ref C, .ref C, _, a, b, rfl, .own C, hide_lst h1, F, hk, fin⟩
    · exact absurd rfl z
end

/-! ### defs -/
/-- what a def makes of data: what is wanted of the answer, of what is raised -/
abbrev FS := List D → KD → KX → Prop
def spD (K : PySem.W.Frag) (T : List (Addr × Str)) (n : Nat) (f : FS) : Sp := fun vs H Q E => vs.length = n ∧ ∃ (W : Wd) (S : List Addr) (ds : List D) (Kp : KD) (Ke : KX),
  W.T = T ∧ Amb W S H ∧ RepL K W.dr (hide S H) ds vs ∧ f ds Kp Ke ∧ (∀ v H' d, Ext W H H' → Rep K W.dr (hide S H') d v → Kp d → Q v H') ∧
    ∀ x cls dd H', Ext W H H' → XOk K W.dr (hide S H') x cls dd → Ke x → E cls dd H'
/-- where a program runs -/
structure Pg where
  P : Program
  w : World
  K : PySem.W.Frag
  mg : Str → Option Value
  base : Heap
  T : List (Addr × Str)
/-- a def by its name -/
def Fn (G : Pg) (x : Str) (k : Nat) (ps : List Str) (f : FS) : Prop := ∃ fa fd, G.mg x = some (.ref fa) ∧ PySem.W.keepIn G.K (.ref fa) = true ∧ FnOk G.P G.w G.K G.mg G.base (L2.CX G.P G.w) k fa fd ps (spD G.K G.T ps.length f) ∧ Binds G.K fd ps []
theorem Fn.mono {G : Pg} {x : Str} {j k : Nat} {ps : List Str} {f : FS} (F : Fn G x j ps f) (h : j ≤ k) : Fn G x k ps f := by
  obtain ⟨fa, fd, a, b, c, d⟩ := F
  exact ⟨fa, fd, a, b, c.mono h, d⟩
/-- a weaker promise -/
theorem Fn.imp {G : Pg} {x : Str} {k : Nat} {ps : List Str} {f f' : FS} (F : Fn G x k ps f) (h : ∀ ds Kp Ke, f' ds Kp Ke → f ds Kp Ke) : Fn G x k ps f' := by
  obtain ⟨fa, fd, a, b, c, d⟩ := F
  refine ⟨fa, fd, a, b, c.imp fun vs H Q E ⟨hl, W, S, ds, Kp, Ke, h1, h2, h3, h4, h5⟩ => ⟨hl, W, S, ds, Kp, Ke, h1, h2, h3, h _ _ _ h4, h5⟩, d⟩
abbrev Cx.pg (X : Cx) (T : List (Addr × Str)) : Pg := ⟨X.prog, X.w, X.K, X.mg, X.base, T⟩
section
variable {X : Cx} {W : Wd} {M : List Addr} {wx : WX} {δ : De} {e : Expr} {es : List Expr} {Kp : KD} {Kb : Bool → Prop} {Ke : KX} {pos p p1 p2 p3 : Pos} {x : Str} {f : FS} {k : Nat} {ps : List Str}
theorem sp_of {σ : L2.St} {H H1 : Hp} {Q : VK} {vs : List V} {ds : List D} {n : Nat} (hn : ds.length = n) (env : EnvOk X.K W M δ σ H) (q : ∀ v H' d, Ext W H H' → Rep X.K W.dr (hide (hidA W M δ σ) H') d v → Kp d → Q v H')
    (qx : ∀ x cls dd H', Ext W H H' → XOk X.K W.dr (hide (hidA W M δ σ) H') x cls dd → Ke x → wx cls dd σ H') (e1 : Ext W H H1) (r1 : RepL X.K W.dr (hide (hidA W M δ σ) H1) ds vs) (hf : f ds Kp Ke) : spD X.K W.T n f vs H1 Q (WE wx σ) :=
  ⟨by rw [← r1.length]; exact hn, W, hidA W M δ σ, ds, Kp, Ke, rfl, (env.ext e1).amb, r1, hf, fun v H' d e2 r2 k => q v H' d (e1.trans e2) r2 k, fun x cls dd H' e2 r2 k => qx x cls dd H' (e1.trans e2) r2 k⟩
/-- f(e, ..) -/
theorem dx_call (F : Fn (Cx.pg X W.T) x k ps f) (hr : Room k X.A) (tk : Takes X wx) (hg : Gl X x) (h : DA X W M wx δ (e :: es) (fun ds => ds.length = ps.length ∧ f ds Kp Ke) Ke) (hdb : (x == ("__debug__" : Str)) = false := by decide)
    (he : starEach (e :: es) X.env = (false, eval e X.env) :: starEach es X.env := by rfl) (hpl : (backTo pos (starEach es X.env)).any (·.1) = false := by rfl) : DE X W M wx δ (.Call (.Name x p) (e :: es) [] pos) Kp Ke := by
  obtain ⟨fa, fd, hm, hk, FO, hb⟩ := F
  refine PE.imp (pe_callS FO hr hg hm hk hb (fun σ => passAt tk σ) pa_any hdb he hpl) fun σ H Q ⟨env, q, qx⟩ => ?_
  exact h.run env (fun vs H1 ds e1 r1 ⟨hl, hf⟩ => sp_of hl env q qx e1 r1 hf) qx
end

/-! ### statements -/
/-- where a stretch of statements stands: its world, the callers' own objects, the heap at its entry, what may change -/
structure Fr where
  W : Wd
  M : List Addr
  H0 : Hp
  N : List Addr
structure SEnv (K : PySem.W.Frag) (F : Fr) (δ : De) (σ : L2.St) (H : Hp) : Prop where
  env : EnvOk K F.W F.M δ σ H
  ext : ∀ b o, b ∉ F.W.rg → b ∉ F.N → F.H0 b = some o → (∀ ps, o ≠ .tbl ps) → H b = some o
  own : ∀ a ∈ ownA δ σ, a ∈ F.N ∨ F.H0 a = none ∨ ∃ ps, F.H0 a = some (.tbl ps)
theorem SEnv.go {K : PySem.W.Frag} {F : Fr} {δ : De} {σ : L2.St} {H H' : Hp} (h : SEnv K F δ σ H) (e : Ext F.W H H') : SEnv K F δ σ H' := ⟨h.env.ext e, fun b o n m h0 t => e.keep b o n (h.ext b o n m h0 t) t, h.own⟩
structure Out where
  nx : De → Prop
  rt : KD
  bk : De → Prop := fun _ => False
  ct : De → Prop := fun _ => False
abbrev hid0 (F : Fr) : List Addr := F.W.rg ++ F.M
/-- what stands at the end -/
structure XEnd (F : Fr) (H : Hp) : Prop where
  w : WOk F.W H
  ext : ∀ b o, b ∉ F.W.rg → b ∉ F.N → F.H0 b = some o → (∀ ps, o ≠ .tbl ps) → H b = some o
theorem SEnv.xe {K : PySem.W.Frag} {F : Fr} {δ : De} {σ : L2.St} {H : Hp} (h : SEnv K F δ σ H) : XEnd F H := ⟨h.env.w, h.ext⟩
def tS (K : PySem.W.Frag) (F : Fr) (wx : WX) (δ : De) (O : Out) (Ke : KX) : TS := fun Dn σ H =>
  SEnv K F δ σ H ∧ (∀ δ' σ' H', SEnv K F δ' σ' H' → O.nx δ' → Dn.nx σ' H') ∧ (∀ δ' σ' H', SEnv K F δ' σ' H' → O.bk δ' → Dn.bk σ' H') ∧ (∀ δ' σ' H', SEnv K F δ' σ' H' → O.ct δ' → Dn.ct σ' H') ∧
    (∀ v H' d, XEnd F H' → Rep K F.W.dr (hide (hid0 F) H') d v → O.rt d → Dn.rt v H') ∧
      ∀ x cls dd σ' H', XEnd F H' → XOk K F.W.dr (hide (hid0 F) H') x cls dd → Ke x → wx cls dd σ' H'
def DS (X : Cx) (W : Wd) (M : List Addr) (wx : WX) (δ : De) (st : Stmt) (O : Out) (Ke : KX) : Prop := ∀ H0 N, PS X st (tS X.K ⟨W, M, H0, N⟩ wx δ O Ke)
def DSs (X : Cx) (W : Wd) (M : List Addr) (wx : WX) (δ : De) (st : List Stmt) (O : Out) (Ke : KX) : Prop := ∀ H0 N, PSs X st (tS X.K ⟨W, M, H0, N⟩ wx δ O Ke)
theorem hid_more {F : Fr} {δ : De} {σ : L2.St} {H : Hp} : ExN (hide (hidA F.W F.M δ σ) H) (hide (hid0 F) H) := hide_more fun a ha => by
  simp only [hidA, hid0, List.mem_append] at ha ⊢
  exact .inl ha
section
variable {X : Cx} {W : Wd} {M : List Addr} {wx : WX} {δ : De} {e c : Expr} {st : Stmt} {rest body orelse : List Stmt} {O : Out} {Ke : KX} {pos : Pos} {H0 : Hp} {N : List Addr}
theorem DS.run {σ : L2.St} {H : Hp} {Dn : Ends} (h : DS X W M wx δ st O Ke) (env : SEnv X.K ⟨W, M, H0, N⟩ δ σ H) (n : ∀ δ' σ' H', SEnv X.K ⟨W, M, H0, N⟩ δ' σ' H' → O.nx δ' → Dn.nx σ' H') (b : ∀ δ' σ' H', SEnv X.K ⟨W, M, H0, N⟩ δ' σ' H' → O.bk δ' → Dn.bk σ' H') (c : ∀ δ' σ' H', SEnv X.K ⟨W, M, H0, N⟩ δ' σ' H' → O.ct δ' → Dn.ct σ' H')
    (r : ∀ v H' d, XEnd ⟨W, M, H0, N⟩ H' → Rep X.K W.dr (hide (hid0 ⟨W, M, H0, N⟩) H') d v → O.rt d → Dn.rt v H') (x : ∀ x cls dd σ' H', XEnd ⟨W, M, H0, N⟩ H' → XOk X.K W.dr (hide (hid0 ⟨W, M, H0, N⟩) H') x cls dd → Ke x → wx cls dd σ' H') : tsAny X st Dn σ H := ⟨_, h H0 N, env, n, b, c, r, x⟩
theorem DSs.run {σ : L2.St} {H : Hp} {Dn : Ends} (h : DSs X W M wx δ rest O Ke) (env : SEnv X.K ⟨W, M, H0, N⟩ δ σ H) (n : ∀ δ' σ' H', SEnv X.K ⟨W, M, H0, N⟩ δ' σ' H' → O.nx δ' → Dn.nx σ' H') (b : ∀ δ' σ' H', SEnv X.K ⟨W, M, H0, N⟩ δ' σ' H' → O.bk δ' → Dn.bk σ' H') (c : ∀ δ' σ' H', SEnv X.K ⟨W, M, H0, N⟩ δ' σ' H' → O.ct δ' → Dn.ct σ' H')
    (r : ∀ v H' d, XEnd ⟨W, M, H0, N⟩ H' → Rep X.K W.dr (hide (hid0 ⟨W, M, H0, N⟩) H') d v → O.rt d → Dn.rt v H') (x : ∀ x cls dd σ' H', XEnd ⟨W, M, H0, N⟩ H' → XOk X.K W.dr (hide (hid0 ⟨W, M, H0, N⟩) H') x cls dd → Ke x → wx cls dd σ' H') : tssAny X rest Dn σ H := ⟨_, h H0 N, env, n, b, c, r, x⟩
/-- an expression within a statement -/
theorem ex_run {σ : L2.St} {H : Hp} {Q : VK} {Kp : KD} (h : DE X W M wx δ e Kp Ke) (env : SEnv X.K ⟨W, M, H0, N⟩ δ σ H) (q : ∀ v H' d, SEnv X.K ⟨W, M, H0, N⟩ δ σ H' → Ext W H H' → Rep X.K W.dr (hide (hidA W M δ σ) H') d v → Kp d → Q v H')
    (x : ∀ x cls dd σ' H', XEnd ⟨W, M, H0, N⟩ H' → XOk X.K W.dr (hide (hid0 ⟨W, M, H0, N⟩) H') x cls dd → Ke x → wx cls dd σ' H') : tAny X e σ H Q :=
  h.run env.env (fun v H' d e1 r k => q v H' d (env.go e1) e1 r k) fun y cls dd H' e1 r k => x y cls dd σ H' (env.go e1).xe (r.mono (hid_more (F := ⟨W, M, H0, N⟩))) k
theorem tx_run {σ : L2.St} {H : Hp} {Q : Bool → Hp → Prop} {Kb : Bool → Prop} (h : DT X W M wx δ e Kb Ke) (env : SEnv X.K ⟨W, M, H0, N⟩ δ σ H) (q : ∀ b H', SEnv X.K ⟨W, M, H0, N⟩ δ σ H' → Kb b → Q b H')
    (x : ∀ x cls dd σ' H', XEnd ⟨W, M, H0, N⟩ H' → XOk X.K W.dr (hide (hid0 ⟨W, M, H0, N⟩) H') x cls dd → Ke x → wx cls dd σ' H') : ttAny X e σ H Q :=
  h.run env.env (fun b H' e1 k => q b H' (env.go e1) k) fun y cls dd H' e1 r k => x y cls dd σ H' (env.go e1).xe (r.mono (hid_more (F := ⟨W, M, H0, N⟩))) k
theorem ds_nil (k : O.nx δ) : DSs X W M wx δ [] O Ke := fun H0 N => PSs.imp pss_nil fun Dn σ H ⟨env, n, _⟩ => n δ σ H env k
theorem ds_cons (h : DS X W M wx δ st { O with nx := fun δ' => DSs X W M wx δ' rest O Ke } Ke) : DSs X W M wx δ (st :: rest) O Ke := fun H0 N =>
  PSs.imp (pss_cons ps_any pss_any) fun Dn σ H ⟨env, n, b, c, r, x⟩ => h.run (Dn := { Dn with nx := tssAny X rest Dn }) env (fun δ' σ' H' env' k => k.run env' n b c r x) b c r x
theorem ds_ret (h : DE X W M wx δ e O.rt Ke) : DS X W M wx δ (.Return (some e) pos) O Ke := fun H0 N =>
  PS.imp (ps_ret pe_any) fun Dn σ H ⟨env, n, b, c, r, x⟩ => ex_run h env (fun v H' d env' e1 r1 k => r v H' d env'.xe (r1.mono (hid_more (F := ⟨W, M, H0, N⟩))) k) x
theorem ds_retN (k : O.rt .non) : DS X W M wx δ (.Return none pos) O Ke := fun H0 N => PS.imp ps_retN fun Dn σ H ⟨env, n, b, c, r, x⟩ => r .non H .non env.xe rfl k
theorem ds_pass (k : O.nx δ) : DS X W M wx δ (.Pass pos) O Ke := fun H0 N => PS.imp ps_pass fun Dn σ H ⟨env, n, _⟩ => n δ σ H env k
theorem ds_break (k : O.bk δ) : DS X W M wx δ (.Break pos) O Ke := fun H0 N => PS.imp ps_break fun Dn σ H ⟨env, n, b, _⟩ => b δ σ H env k
theorem ds_continue (k : O.ct δ) : DS X W M wx δ (.Continue pos) O Ke := fun H0 N => PS.imp ps_continue fun Dn σ H ⟨env, n, b, c, _⟩ => c δ σ H env k
theorem ds_if (h : DT X W M wx δ c (fun k => (k = true → DSs X W M wx δ body O Ke) ∧ (k = false → DSs X W M wx δ orelse O Ke)) Ke) : DS X W M wx δ (.If c body orelse pos) O Ke := fun H0 N =>
  PS.imp (ps_if pt_any pss_any pss_any) fun Dn σ H ⟨env, n, b, c, r, x⟩ => tx_run h env (fun k H' env' ⟨k1, k2⟩ => by
    cases k with
    | true => exact (k1 rfl).run env' n b c r x
    | false => exact (k2 rfl).run env' n b c r x) x
theorem ds_never (h : False) : DS X W M wx δ st O Ke := h.elim
/-- an expression whose value is dropped -/
theorem ds_expr (h : DE X W M wx δ e (fun _ => O.nx δ) Ke) (hs : swapsWith e none pos.line X.env = pure false := by rfl) : DS X W M wx δ (.Expr e pos) O Ke := fun H0 N =>
  PS.imp (ps_expr pe_any hs) fun Dn σ H ⟨env, n, b, c, r, x⟩ => ex_run h env (fun v H' d env' e1 r1 k => n δ σ H' env' k) x

/-! storing a datum -/
theorem ownA_set {s : Sl} : ∀ {δ : De} {σ : L2.St} {i : Nat} {o : Option V}, ownA [s] [o] = [] → ∀ a, a ∈ ownA (δ.set i s) (σ.set i o) → a ∈ ownA δ σ
  | [], σ, i, o, h, a, m => by simp [ownA] at m
  | t :: δ, [], i, o, h, a, m => by
    exfalso
    cases i <;> (cases t <;> simp [ownA] at m)
    all_goals (cases s <;> simp [ownA] at m)
  | t :: δ, u :: σ, 0, o, h, a, m => by
    have m' : a ∈ ownA (s :: δ) (o :: σ) := m
    rcases ownA_cons.mp m' with m | m
    · rw [h] at m; simp at m
    · exact ownA_cons.mpr (.inr m)
  | t :: δ, u :: σ, i + 1, o, h, a, m => by
    have m' : a ∈ ownA (t :: δ.set i s) (u :: σ.set i o) := m
    rcases ownA_cons.mp m' with m | m
    · exact ownA_cons.mpr (.inl m)
    · exact ownA_cons.mpr (.inr (ownA_set h a m))
theorem ownA_eq {s : Sl} {o : Option V} {δ : De} {σ : L2.St} : ownA (s :: δ) (o :: σ) = ownA [s] [o] ++ ownA δ σ := by
  cases s <;> (cases o with
    | none => simp [ownA]
    | some v => cases v <;> simp [ownA])
theorem ownA_nodup {s : Sl} : ∀ {δ : De} {σ : L2.St} {i : Nat} {o : Option V}, ownA [s] [o] = [] → (ownA δ σ).Nodup → (ownA (δ.set i s) (σ.set i o)).Nodup
  | [], σ, i, o, h, n => by simp [ownA]
  | t :: δ, [], i, o, h, n => by
    cases i <;> (cases t <;> simp [ownA])
    all_goals (cases s <;> simp [ownA])
  | t :: δ, u :: σ, 0, o, h, n => by
    show (ownA (s :: δ) (o :: σ)).Nodup
    rw [ownA_eq, h, List.nil_append]
    rw [ownA_eq] at n
    exact (List.nodup_append.mp n).2.1
  | t :: δ, u :: σ, i + 1, o, h, n => by
    show (ownA (t :: δ.set i s) (u :: σ.set i o)).Nodup
    rw [ownA_eq] at n ⊢
    obtain ⟨n1, n2, n3⟩ := List.nodup_append.mp n
    exact List.nodup_append.mpr ⟨n1, ownA_nodup h n2, fun a ha b hb => n3 a ha b (ownA_set h b hb)⟩
theorem SlotsOk.set {K : PySem.W.Frag} {dr : Option Dr} {S : List Addr} {H : Hp} {s : Sl} {o : Option V} (h1 : SlotOk K dr S H s o) : ∀ {δ : De} {σ : L2.St} (i : Nat), SlotsOk K dr S H δ σ → SlotsOk K dr S H (δ.set i s) (σ.set i o)
  | [], [], _, _ => trivial
  | t :: δ, u :: σ, 0, h => ⟨h1, h.2⟩
  | t :: δ, u :: σ, i + 1, h => ⟨h.1, SlotsOk.set h1 i h.2⟩
  | [], _ :: _, _, h => h.elim
  | _ :: _, [], _, h => h.elim
/-- a datum is put into a slot -/
theorem EnvOk.put {K : PySem.W.Frag} {W : Wd} {M : List Addr} {σ : L2.St} {H : Hp} {i : Nat} {v : V} {d : D} (h : EnvOk K W M δ σ H) (r : Rep K W.dr (hide (hidA W M δ σ) H) d v) : EnvOk K W M (δ.set i (.im d)) (σ.set i (some v)) H := by
  have k : ExN (hide (hidA W M δ σ) H) (hide (hidA W M (δ.set i (.im d)) (σ.set i (some v))) H) := hide_more fun a ha => by
    simp only [hidA, List.mem_append] at ha ⊢
    rcases ha with ha | ha
    · exact .inl ha
    · exact .inr (ownA_set rfl a ha)
  refine ⟨h.w, h.m, ownA_nodup rfl h.nd, fun a ha => h.dj a (ownA_set rfl a ha), ?_⟩
  exact SlotsOk.set (s := .im d) (o := some v) ⟨v, rfl, r.mono k⟩ i (h.sl.stay k fun a u _ e _ => e)
theorem SEnv.put {F : Fr} {σ : L2.St} {H : Hp} {i : Nat} {v : V} {d : D} (h : SEnv X.K F δ σ H) (r : Rep X.K F.W.dr (hide (hidA F.W F.M δ σ) H) d v) : SEnv X.K F (δ.set i (.im d)) (σ.set i (some v)) H :=
  ⟨h.env.put r, h.ext, fun a ha => h.own a (ownA_set rfl a ha)⟩
/-- x = e -/
theorem ds_set (i : Nat) {x : Str} {pos' : Pos} (hN : X.N.Nodup) (hi : X.N[i]? = some x) (hx : Loc X.env.scope x) (h : DE X W M wx δ e (fun d => O.nx (δ.set i (.im d))) Ke) (hs : swapsWith e (some (.Name x pos')) pos.line X.env = pure false := by rfl) (hf : X.fn x = true ∨ X.env.scope.names.lookup x = some .local := by first | exact .inl rfl | exact .inr rfl | assumption) :
    DS X W M wx δ (.Assign [.Name x pos'] e pos) O Ke := fun H0 N =>
  PS.imp (ps_set hN hi hx pe_any hs hf) fun Dn σ H ⟨env, n, b, c, r, x⟩ => ex_run h env (fun v H' d env' e1 r1 k => n _ _ H' (env'.put r1) k) x
end
end Lay

/-! # DS5: what is walked, comprehensions -/
namespace Lay
open PySem PySem.Spec PyProof.Rows L2

/-- a walk over data -/
def WalkD (K : PySem.W.Frag) (W : Wd) (S : List Addr) (J : It) (ds : List D) (H1 : Hp) : Prop :=
  ∃ (G : Hp → Prop) (Y : Nat → Hp → V → Hp → Prop), Walk J ds.length G Y ∧ (∀ S' H, WOk W H → ExN (hide S H1) (hide S' H) → G H) ∧
    ∀ S' i H x H', i < ds.length → Amb W S' H → ExN (hide S H1) (hide S' H) → Y i H x H' → Ext W H H' ∧ ∃ d, ds[i]? = some d ∧ Rep K W.dr (hide S' H') d x
def tI (K : PySem.W.Frag) (W : Wd) (M : List Addr) (wx : WX) (δ : De) (KI : List D → Prop) (Ke : KX) : TI := fun σ H R =>
  EnvOk K W M δ σ H ∧ (∀ J H1 ds, Ext W H H1 → WalkD K W (hidA W M δ σ) J ds H1 → KI ds → R J H1) ∧
    ∀ x cls dd H', Ext W H H' → XOk K W.dr (hide (hidA W M δ σ) H') x cls dd → Ke x → wx cls dd σ H'
def DI (X : Cx) (W : Wd) (M : List Addr) (wx : WX) (δ : De) (tg e : Expr) (KI : List D → Prop) (Ke : KX) : Prop := PI X tg e (tI X.K W M wx δ KI Ke)
def tiAny (X : Cx) (tg e : Expr) : TI := fun σ H R => ∃ t, PI X tg e t ∧ t σ H R
theorem pi_any {X : Cx} {tg e : Expr} : PI X tg e (tiAny X tg e) := ⟨fun pins s σ H R I ⟨_, h, q⟩ => h.run pins s σ H R I q⟩
section
variable {X : Cx} {tg e : Expr}
theorem PI.imp {t t' : TI} (h : PI X tg e t) (k : ∀ σ H R, t' σ H R → t σ H R) : PI X tg e t' := ⟨fun pins s σ H R I q => h.run pins s σ H R I (k σ H R q)⟩
/-- a list or a tuple -/
def iSeq (K : PySem.W.Frag) (tl : TE) : TI := fun σ H R => tl σ H fun x H1 => ∃ a, x = .ref a ∧ ((∃ xs, SqL K H1 a xs ∧ R (Itl K a) H1) ∨ ∃ xs, SqT K H1 a xs ∧ R (Itt K a) H1)
theorem pi_seq {l : Expr} {tl : TE} (hl : PE X l tl) : PI X tg l (iSeq X.K tl) := by
  refine ⟨fun pins s σ H R I h => thn (hl.run pins s σ H _ I h) fun v s1 ⟨x, H1, I1, r1, a, e, q⟩ => ?_⟩
  subst e
  cases r1
  have new : ∀ b, b ∈ [s1.heap.objs.size] → FpOk X pins H1 b := fun b hb => by
    obtain rfl : b = s1.heap.objs.size := by simpa using hb
    exact I1.fpOk (Nat.le_refl _) (I1.hok.fresh (Nat.le_refl _))
  rcases q with ⟨xs, hq, q⟩ | ⟨xs, hq, q⟩
  · obtain ⟨its, rv, p, hz⟩ := I1.list hq
    exact wpAny_pyIter_list p.isList ⟨_, [s1.heap.objs.size], _, _, H1, rfl, I1.kept (t' := s1.toks) fun b o e => Heap.get?_push_of_some _ e, turn_list a _, ⟨_, Heap.get?_push_size _ rfl, rfl, rfl⟩, new, q⟩
  · obtain ⟨its, rv, p, hz⟩ := I1.tuple hq
    exact wpAny_pyIter_tuple (show s1.heap.IsTuple a its.toArray from p) ⟨_, [s1.heap.objs.size], _, _, H1, rfl, I1.kept (t' := s1.toks) fun b o e => Heap.get?_push_of_some _ e, turn_tuple a _, ⟨_, Heap.get?_push_size _ rfl, rfl, rfl⟩, new, q⟩
end
theorem rep_at {K : PySem.W.Frag} {dr : Option Dr} {H : Hp} {l : List D} {xs : List V} (r : RepL K dr H l xs) {i : Nat} {x : V} (e : xs[i]? = some x) : ∃ d, l[i]? = some d ∧ Rep K dr H d x := r.get e
theorem walkD_list {K : PySem.W.Frag} {W : Wd} {S : List Addr} {a : Addr} {xs : List V} {l : List D} {H1 : Hp} (h : hide S H1 a = some (.lst xs)) (r : RepL K W.dr (hide S H1) l xs) (am : Amb W S H1) : WalkD K W S (Itl K a) l H1 := by
  refine ⟨fun H => SqL K H a xs, YAt xs, by rw [r.length]; exact walk_list, fun S' H _ e => SqL.of (hide_lst (e _ _ h fun _ z => by cases z)), fun S' i H x H' hi am' e y => ?_⟩
  obtain ⟨rfl, y⟩ := y
  obtain ⟨d, h1, h2⟩ := rep_at (r.mono e) y
  exact ⟨Ext.refl am'.w, d, h1, h2⟩
theorem walkD_tup {K : PySem.W.Frag} {W : Wd} {S : List Addr} {a : Addr} {xs : List V} {l : List D} {H1 : Hp} (h : SqT K (hide S H1) a xs) (r : RepL K W.dr (hide S H1) l xs) (am : Amb W S H1) : WalkD K W S (Itt K a) l H1 := by
  refine ⟨fun H => SqT K H a xs, YAt xs, by rw [r.length]; exact walk_tup, fun S' H _ e => hide_SqT (ExN.seqT e h), fun S' i H x H' hi am' e y => ?_⟩
  obtain ⟨rfl, y⟩ := y
  obtain ⟨d, h1, h2⟩ := rep_at (r.mono e) y
  exact ⟨Ext.refl am'.w, d, h1, h2⟩
def intsD (lo : Int) (n : Nat) : List D := (List.range n).map fun (i : Nat) => .int (lo + (i : Int))
theorem walkD_range {K : PySem.W.Frag} {W : Wd} {S : List Addr} {lo : Int} {n : Nat} {H1 : Hp} : WalkD K W S (Itr lo n) (intsD lo n) H1 := by
  refine ⟨fun H => True, YFn fun i => .int (lo + i), by rw [intsD, List.length_map, List.length_range]; exact walk_range, fun S' H _ e => trivial, fun S' i H x H' hi am' e y => ?_⟩
  obtain ⟨rfl, rfl⟩ := y
  refine ⟨Ext.refl am'.w, .int (lo + i), ?_, rfl⟩
  rw [intsD, List.length_map, List.length_range] at hi
  simp [intsD, hi]
theorem walk_zipT {K : PySem.W.Frag} {a b : Addr} {xs ys : List V} {n : Nat} (hn : n = min xs.length ys.length) : Walk (RZ.ItzT K a b) n (fun H => SqT K H a xs ∧ SqT K H b ys) (YPair (fun i => xs[i]?) (fun i => ys[i]?)) := by
  subst hn
  refine ⟨fun i _ hi q => ⟨xs, ys, xs[i]'(by omega), ys[i]'(by omega), q.1, q.2, by simp [show i < xs.length by omega], by simp [show i < ys.length by omega]⟩, fun _ q => ⟨xs, ys, q.1, q.2, by omega⟩, fun i H v H' _ q y => ?_⟩
  obtain ⟨T, x, z, h1, h2, h3, h4, h5⟩ := y
  exact ⟨T, x, z, h1, h2, h3, h4 xs q.1, h5 ys q.2⟩
def zipD (l m : List D) : List D := (l.zip m).map fun p => .tup [p.1, p.2]
theorem walkD_pair {K : PySem.W.Frag} {W : Wd} {S : List Addr} {J : It} {l m : List D} {xs ys : List V} {H1 : Hp} {G : Hp → Prop} (hw : Walk J (min xs.length ys.length) G (YPair (fun i => xs[i]?) (fun i => ys[i]?))) (hG : ∀ S' H, ExN (hide S H1) (hide S' H) → G H)
    (r : RepL K W.dr (hide S H1) l xs) (r2 : RepL K W.dr (hide S H1) m ys) : WalkD K W S J (zipD l m) H1 := by
  refine ⟨G, YPair (fun i => xs[i]?) (fun i => ys[i]?), ?_, fun S' H _ e => hG S' H e, fun S' i H x H' hi am' e y => ?_⟩
  · rw [zipD, List.length_map, List.length_zip, r.length, r2.length]
    exact hw
  · obtain ⟨T, x, y', rfl, hT, rfl, h4, h5⟩ := y
    obtain ⟨d1, a1, b1⟩ := rep_at (r.mono e) h4
    obtain ⟨d2, a2, b2⟩ := rep_at (r2.mono e) h5
    refine ⟨Ext.new am'.w hT, .tup [d1, d2], ?_, rep_tup am' hT (.cons b1 (.cons b2 .nil))⟩
    have z : (l.zip m)[i]? = some (d1, d2) := by
      rw [List.getElem?_zip_eq_some]
      exact ⟨a1, a2⟩
    rw [zipD, List.getElem?_map, z]; rfl
def enumD (l : List D) : List D := zipD (intsD 0 l.length) l
section
variable {X : Cx} {W : Wd} {M : List Addr} {wx : WX} {δ : De} {tg e e2 : Expr} {KI : List D → Prop} {Ke : KX} {p pos tpos : Pos} {elts : List Expr} {kk : Nat}
theorem DI.run {σ : L2.St} {H : Hp} {R : It → Hp → Prop} (h : DI X W M wx δ tg e KI Ke) (env : EnvOk X.K W M δ σ H) (q : ∀ J H1 ds, Ext W H H1 → WalkD X.K W (hidA W M δ σ) J ds H1 → KI ds → R J H1)
    (qx : ∀ x cls dd H', Ext W H H' → XOk X.K W.dr (hide (hidA W M δ σ) H') x cls dd → Ke x → wx cls dd σ H') : tiAny X tg e σ H R := ⟨_, h, env, q, qx⟩
theorem di_seq (h : DE X W M wx δ e (fun d => ∃ l, seqD d = some l ∧ KI l) Ke) : DI X W M wx δ tg e KI Ke :=
  PI.imp (pi_seq pe_any) fun σ H R ⟨env, q, qx⟩ => h.run env (fun x H1 d e1 r1 ⟨l, hl, k⟩ => by
    have am := (env.ext e1).amb
    cases d <;> first | (cases hl; done) | skip
    · cases hl
      obtain ⟨a, xs, rfl, h1, h2⟩ := r1
      exact ⟨a, rfl, .inr ⟨xs, hide_SqT h1, q _ H1 l e1 (walkD_tup h1 h2 am) k⟩⟩
    · cases hl
      obtain ⟨a, xs, rfl, h1, h2⟩ := r1
      exact ⟨a, rfl, .inl ⟨xs, SqL.of (hide_lst h1), q _ H1 l e1 (walkD_list h1 h2 am) k⟩⟩) qx
theorem walkD_frz {K : PySem.W.Frag} {W : Wd} {S : List Addr} {a : Addr} {ns : List Int} {H1 : Hp} (h : SqL K (hide S H1) a (ns.map V.int)) : WalkD K W S (Itl K a) (ns.map D.int) H1 := by
  refine ⟨fun H => SqL K H a (ns.map V.int), YAt (ns.map V.int), by rw [List.length_map, ← List.length_map (f := V.int)]; exact walk_list, fun S' H _ e => ExN.seqL hide_sub (ExN.seqL e h), fun S' i H x H' hi am' e y => ?_⟩
  obtain ⟨rfl, y⟩ := y
  rw [List.getElem?_map] at y
  obtain ⟨n, hn, rfl⟩ := Option.map_eq_some_iff.mp y
  exact ⟨Ext.refl am'.w, .int n, by rw [List.getElem?_map, hn]; rfl, rfl⟩
/-- the list from outside -/
theorem di_frz (h : DE X W M wx δ e (fun d => ∃ ns : List Int, d = .frz ns ∧ KI (ns.map D.int)) Ke) : DI X W M wx δ tg e KI Ke :=
  PI.imp (pi_seq pe_any) fun σ H R ⟨env, q, qx⟩ => h.run env (fun x H1 d e1 r1 ⟨ns, hd, k⟩ => by
    subst hd
    obtain ⟨a, rfl, h1⟩ := r1
    exact ⟨a, rfl, .inl ⟨_, ExN.seqL hide_sub h1, q _ H1 _ e1 (walkD_frz h1) k⟩⟩) qx
theorem di_range1 (hg : Gl X "range") (hm : X.mg "range" = none) (h : DE X W M wx δ e (asI fun j => -(2 ^ 62) ≤ j ∧ j < 2 ^ 62 ∧ KI (intsD 0 j.toNat)) Ke) (hs : starEach [e] X.env = (false, eval e X.env) :: starEach [] X.env := by rfl) :
    DI X W M wx δ tg (.Call (.Name "range" p) [e] [] pos) KI Ke :=
  PI.imp (pi_range1 hg hm (pa_cons pe_any pa_nil hs) hs) fun σ H R ⟨env, q, qx⟩ => h.run env (fun x H1 d e1 r1 k => by
    obtain ⟨j, rfl, h1, h2, k⟩ := asI_ex k
    cases r1
    exact ⟨j, rfl, h1, h2, q _ H1 _ e1 walkD_range k⟩) qx
theorem di_range2 (hg : Gl X "range") (hm : X.mg "range" = none) (h : DE X W M wx δ e (asI fun i => DE X W M wx δ e2 (asI fun j => (-(2 ^ 62) ≤ i ∧ i < 2 ^ 62 ∧ -(2 ^ 62) ≤ j ∧ j < 2 ^ 62) ∧ KI (intsD i (j - i).toNat)) Ke) Ke)
    (hs : starEach [e, e2] X.env = [(false, eval e X.env), (false, eval e2 X.env)] := by rfl) (hs2 : starEach [e2] X.env = [(false, eval e2 X.env)] := by rfl) : DI X W M wx δ tg (.Call (.Name "range" p) [e, e2] [] pos) KI Ke :=
  PI.imp (pi_range2 hg hm (pa_cons pe_any (pa_cons pe_any pa_nil hs2) (by rw [hs, hs2])) hs hs2) fun σ H R ⟨env, q, qx⟩ => h.run env (fun x H1 d e1 r1 k => by
    obtain ⟨i, rfl, k⟩ := asI_ex k
    cases r1
    refine k.run (env.ext e1) (fun y H2 d2 e2 r2 k => ?_) fun x cls dd H' e => qx x cls dd H' (e1.trans e)
    obtain ⟨j, rfl, h1, k⟩ := asI_ex k
    cases r2
    exact ⟨i, j, rfl, h1, q _ H2 _ (e1.trans e2) walkD_range k⟩) qx
/-- two lists, two tuples -/
def gZip : D → D → (List D → Prop) → Prop
  | .tup l, .tup m, k => k (zipD l m)
  | .lst l, .lst m, k => k (zipD l m)
  | _, _, _ => False
theorem di_zip (hg : Gl X "zip") (hm : X.mg "zip" = none) (h : DE X W M wx δ e (fun d1 => DE X W M wx δ e2 (fun d2 => gZip d1 d2 KI) Ke) Ke) (hs : starEach [e, e2] X.env = (false, eval e X.env) :: starEach [e2] X.env := by rfl) (hs2 : starEach [e2] X.env = (false, eval e2 X.env) :: starEach [] X.env := by rfl)
    (hpl : (backTo pos (starEach [e2] X.env)).any (·.1) = false := by rfl) : DI X W M wx δ (.Tuple elts kk tpos) (.Call (.Name "zip" p) [e, e2] [] pos) KI Ke :=
  PI.imp (RZ.pi_zipA hg hm (pa_cons pe_any (pa_cons pe_any pa_nil hs2) hs) hs hpl) fun σ H R ⟨env, q, qx⟩ => h.run env (fun x H1 d1 e1 r1 k => by
    refine k.run (env.ext e1) (fun y H2 d2 e2 r2 k => ?_) fun x cls dd H' e => qx x cls dd H' (e1.trans e)
    have r1 := r1.mono ((env.ext e1).amb.hid e2)
    cases d1 <;> cases d2 <;> first | exact k.elim | skip
    · obtain ⟨a, xs, rfl, h1, h2⟩ := r1
      obtain ⟨b, ys, rfl, h3, h4⟩ := r2
      exact ⟨a, b, xs, ys, rfl, .inr ⟨hide_SqT h1, hide_SqT h3, q _ H2 _ (e1.trans e2) (walkD_pair (walk_zipT rfl) (fun S' H e => ⟨hide_SqT (ExN.seqT e h1), hide_SqT (ExN.seqT e h3)⟩) h2 h4) k⟩⟩
    · obtain ⟨a, xs, rfl, h1, h2⟩ := r1
      obtain ⟨b, ys, rfl, h3, h4⟩ := r2
      exact ⟨a, b, xs, ys, rfl, .inl ⟨SqL.of (hide_lst h1), SqL.of (hide_lst h3), q _ H2 _ (e1.trans e2) (walkD_pair (walk_zip rfl) (fun S' H e => ⟨SqL.of (hide_lst (e _ _ h1 fun _ z => by cases z)), SqL.of (hide_lst (e _ _ h3 fun _ z => by cases z))⟩) h2 h4) k⟩⟩) qx
def intsV (n : Nat) : List V := (List.range n).map fun (i : Nat) => V.int ((i : Nat) : Int)
theorem rep_intsD {K : PySem.W.Frag} {dr : Option Dr} {H : Hp} : ∀ (l : List Nat), RepL K dr H (l.map fun (i : Nat) => D.int (0 + ((i : Nat) : Int))) (l.map fun (i : Nat) => V.int ((i : Nat) : Int))
  | [] => rfl
  | i :: l => ⟨_, _, rfl, by show V.int _ = V.int _; rw [Int.zero_add], rep_intsD l⟩
theorem di_enum (hg : Gl X "enumerate") (hm : X.mg "enumerate" = none) (h : DE X W M wx δ e (fun d => ∃ l, d = .lst l ∧ KI (enumD l)) Ke) (hs : starEach [e] X.env = (false, eval e X.env) :: starEach [] X.env := by rfl) :
    DI X W M wx δ (.Tuple elts kk tpos) (.Call (.Name "enumerate" p) [e] [] pos) KI Ke :=
  PI.imp (pi_enum hg hm (pa_cons pe_any pa_nil hs) hs) fun σ H R ⟨env, q, qx⟩ => h.run env (fun x H1 d e1 r1 ⟨l, hl, k⟩ => by
    subst hl
    obtain ⟨a, xs, rfl, h1, h2⟩ := r1
    refine ⟨a, xs, rfl, SqL.of (hide_lst h1), q _ H1 _ e1 ?_ k⟩
    have hl := h2.length
    refine walkD_pair (xs := intsV l.length) (G := fun H => SqL X.K H a xs) ?_ (fun S' H e => SqL.of (hide_lst (e _ _ h1 fun _ z => by cases z))) (rep_intsD _) h2
    refine ⟨fun i H hi q => ?_, fun H q => ?_, fun i H v H' hi q y => ?_⟩
    · have hi2 : i < xs.length := Nat.lt_of_lt_of_le hi (Nat.min_le_right _ _)
      exact walk_enum.goes i H hi2 q
    · have e : min (intsV l.length).length xs.length = xs.length := by simp [intsV, hl]
      rw [e]
      exact walk_enum.stops H q
    · have hi2 : i < xs.length := Nat.lt_of_lt_of_le hi (Nat.min_le_right _ _)
      obtain ⟨T, x, y', h3, h4, h5, h6, h7⟩ := walk_enum.yields i H v H' hi2 q y
      refine ⟨T, x, y', h3, h4, h5, ?_, h7⟩
      rw [← h6]
      have hi3 : i < l.length := by omega
      simp [intsV, hi3]) qx
end

/-! ### targets -/
/-- a name, or several -/
inductive Tg where
  | n (i : Nat)
  | t (is : List Nat)
def putL : List Nat → List D → De → De
  | i :: is, d :: ds, δ => putL is ds (δ.set i (.im d))
  | _, _, δ => δ
def putV : List Nat → List V → L2.St → L2.St
  | i :: is, v :: vs, σ => putV is vs (σ.set i (some v))
  | _, _, σ => σ
def Tg.put : Tg → D → De → De
  | .n i, d, δ => δ.set i (.im d)
  | .t is, .tup l, δ => putL is l δ
  | _, _, δ => δ
def Tg.fits : Tg → D → Prop
  | .n _, _ => True
  | .t is, .tup l => l.length = is.length
  | _, _ => False
def Tg.slots : Tg → List Nat
  | .n i => [i]
  | .t is => is
def gNames : List Nat → TGs
  | [] => gNil
  | i :: is => gCons (gName i) (gNames is)
def Tg.g (K : PySem.W.Frag) : Tg → TG
  | .n i => gName i
  | .t is => gTup K is.length (gNames is)
theorem gNames_run : ∀ {is : List Nat} {vs : List V} {σ : L2.St} {H : Hp} {Q : L2.St → Hp → Prop}, vs.length = is.length → Q (putV is vs σ) H → gNames is vs σ H Q
  | [], [], σ, H, Q, _, q => ⟨rfl, q⟩
  | i :: is, v :: vs, σ, H, Q, h, q => ⟨v, vs, rfl, gNames_run (by simpa using h) q⟩
  | [], _ :: _, _, _, _, h, _ => by simp at h
  | _ :: _, [], _, _, _, h, _ => by simp at h
def Tg.σ : Tg → D → V → L2.St → List V → L2.St
  | .n i, _, v, σ, _ => σ.set i (some v)
  | .t is, _, _, σ, vs => putV is vs σ
theorem ownA_sets {δ : De} {σ : L2.St} : ∀ (is : List Nat) (ds : List D) (vs : List V), ∀ a, a ∈ ownA (putL is ds δ) (putV is vs σ) → vs.length = ds.length → a ∈ ownA δ σ
  | [], ds, vs, a, h, _ => by cases ds <;> exact h
  | i :: is, [], [], a, h, _ => h
  | i :: is, d :: ds, v :: vs, a, h, hl => ownA_set rfl a (ownA_sets (δ := δ.set i (.im d)) (σ := σ.set i (some v)) is ds vs a h (by simpa using hl))
  | i :: is, [], _ :: _, _, _, hl => by simp at hl
  | i :: is, _ :: _, [], _, _, hl => by simp at hl
theorem hidA_set {W : Wd} {M : List Addr} {δ : De} {σ : L2.St} {H : Hp} {i : Nat} {d : D} {v : V} : ExN (hide (hidA W M δ σ) H) (hide (hidA W M (δ.set i (.im d)) (σ.set i (some v))) H) := hide_more fun a ha => by
  simp only [hidA, List.mem_append] at ha ⊢
  rcases ha with ha | ha
  · exact .inl ha
  · exact .inr (ownA_set rfl a ha)
theorem EnvOk.puts {K : PySem.W.Frag} {W : Wd} {M : List Addr} {H : Hp} : ∀ {is : List Nat} {ds : List D} {vs : List V} {δ : De} {σ : L2.St}, EnvOk K W M δ σ H → RepL K W.dr (hide (hidA W M δ σ) H) ds vs → EnvOk K W M (putL is ds δ) (putV is vs σ) H
  | [], ds, vs, δ, σ, h, r => by cases ds <;> cases vs <;> exact h
  | i :: is, [], vs, δ, σ, h, r => by cases r; exact h
  | i :: is, d :: ds, vs, δ, σ, h, r => by
    obtain ⟨v, ws, rfl, h1, h2⟩ := r
    exact EnvOk.puts (is := is) (δ := δ.set i (.im d)) (σ := σ.set i (some v)) (h.put h1) (h2.mono hidA_set)
/-- a datum is put where a target says -/
theorem Tg.run {K : PySem.W.Frag} {W : Wd} {M : List Addr} {δ : De} {σ : L2.St} {H : Hp} {t : Tg} {d : D} {v : V} {Q : L2.St → Hp → Prop} (env : EnvOk K W M δ σ H) (r : Rep K W.dr (hide (hidA W M δ σ) H) d v) (hf : t.fits d)
    (q : ∀ σ', EnvOk K W M (t.put d δ) σ' H → (∀ a, a ∈ ownA (t.put d δ) σ' → a ∈ ownA δ σ) → (∃ vs, vs.length = t.slots.length ∧ σ' = putV t.slots vs σ) → Q σ' H) : t.g K v σ H Q := by
  cases t with
  | n i => exact q _ (env.put r) (ownA_set rfl) ⟨[v], rfl, rfl⟩
  | t is =>
    cases d <;> first | exact hf.elim | skip
    obtain ⟨a, xs, rfl, h1, h2⟩ := r
    refine ⟨a, xs, rfl, hide_SqT h1, by rw [← h2.length]; exact hf, gNames_run (by rw [← h2.length]; exact hf) (q _ (env.puts h2) (fun a ha => ownA_sets is _ _ a ha h2.length.symm) ⟨xs, by rw [← h2.length]; exact hf, rfl⟩)⟩
theorem wipe_put {vs : List Nat} {σ : L2.St} : ∀ {is : List Nat} {xs : List V} {σ2 : L2.St}, (∀ i ∈ is, i ∈ vs) → wipe σ2 vs = wipe σ vs → wipe (putV is xs σ2) vs = wipe σ vs
  | [], xs, σ2, _, h => by cases xs <;> exact h
  | i :: is, [], σ2, _, h => h
  | i :: is, x :: xs, σ2, hm, h => by
    refine wipe_put (is := is) (xs := xs) (σ2 := σ2.set i (some x)) (fun j hj => hm j (List.mem_cons_of_mem _ hj)) ?_
    have z : ∀ (vs : List Nat), i ∈ vs → wipe (σ2.set i (some x)) vs = wipe σ2 vs := by
      intro vs
      induction vs with
      | nil => intro h; simp at h
      | cons v vs ih =>
        intro hv
        show (wipe (σ2.set i (some x)) vs).set v none = (wipe σ2 vs).set v none
        by_cases e : i ∈ vs
        · rw [ih e]
        · have ev : i = v := by simpa [e] using hv
          subst ev
          have w : ∀ (vs : List Nat), i ∉ vs → wipe (σ2.set i (some x)) vs = (wipe σ2 vs).set i (some x) := by
            intro vs
            induction vs with
            | nil => intro _; rfl
            | cons u vs ih2 =>
              intro hu
              simp only [List.mem_cons, not_or] at hu
              show (wipe (σ2.set i (some x)) vs).set u none = ((wipe σ2 vs).set u none).set i (some x)
              rw [ih2 hu.2, List.set_comm _ _ (Ne.symm hu.1)]
          rw [w vs e, List.set_set]
    rw [z vs (hm i List.mem_cons_self)]
    exact h
theorem wipe_wipe {σ : L2.St} (vs : List Nat) : wipe (wipe σ vs) vs = wipe σ vs := by
  have set_wipe : ∀ (us : List Nat) (i : Nat) (τ : L2.St), wipe (τ.set i none) us = (wipe τ us).set i none := by
    intro us
    induction us with
    | nil => intro i τ; rfl
    | cons u us ih =>
      intro i τ
      show (wipe (τ.set i none) us).set u none = ((wipe τ us).set u none).set i none
      rw [ih]
      by_cases e : i = u
      · subst e; rfl
      · rw [List.set_comm _ _ e]
  induction vs with
  | nil => rfl
  | cons v vs ih =>
    show (wipe ((wipe σ vs).set v none) vs).set v none = (wipe σ vs).set v none
    rw [set_wipe, ih, List.set_set]
end Lay

/-! # DS6: comprehensions, loops -/
namespace Lay
open PySem PySem.Spec PyProof.Rows L2

def noOw : Sl → Bool
  | .ow _ => false
  | .oi _ _ _ _ => false
  | _ => true
theorem noOw_nil {s : Sl} {o : Option V} (h : noOw s = true) : ownA [s] [o] = [] := by
  cases s <;> first | (cases h; done) | (cases o with
    | none => rfl
    | some v => cases v <;> rfl)
/-- no slot of these is one's own -/
def noOwn (δ : De) (vs : List Nat) : Bool := vs.all fun i => match δ[i]? with | some s => noOw s | none => true
theorem ownA_set_eq {s : Sl} (hs : noOw s = true) : ∀ {δ : De} {σ : L2.St} {i : Nat} {o : Option V}, (∀ t, δ[i]? = some t → noOw t = true) → ownA (δ.set i s) (σ.set i o) = ownA δ σ
  | [], σ, i, o, _ => rfl
  | t :: δ, [], i, o, h => by
    cases i <;> (cases t <;> simp [ownA])
    all_goals (cases s <;> simp [ownA])
  | t :: δ, u :: σ, 0, o, h => by
    show ownA (s :: δ) (o :: σ) = ownA (t :: δ) (u :: σ)
    rw [ownA_eq (s := s) (o := o), ownA_eq (s := t) (o := u), noOw_nil hs, noOw_nil (h t rfl)]
  | t :: δ, u :: σ, i + 1, o, h => by
    show ownA (t :: δ.set i s) (u :: σ.set i o) = ownA (t :: δ) (u :: σ)
    rw [ownA_eq (s := t) (o := u) (δ := δ.set i s), ownA_eq (s := t) (o := u) (δ := δ), ownA_set_eq hs (fun t' e => h t' (by simpa using e))]
def wipeD (δ : De) : List Nat → De
  | [] => δ
  | v :: vs => (wipeD δ vs).set v .un
theorem wipeD_get {δ : De} : ∀ {vs : List Nat} {i : Nat} {t : Sl}, (wipeD δ vs)[i]? = some t → t = .un ∨ δ[i]? = some t
  | [], i, t, h => .inr h
  | v :: vs, i, t, h => by
    have h' : ((wipeD δ vs).set v .un)[i]? = some t := h
    rw [List.getElem?_set] at h'
    split at h'
    · split at h'
      · exact .inl (Option.some.inj h').symm
      · cases h'
    · exact wipeD_get h'
theorem wipeD_own {δ : De} {σ : L2.St} : ∀ {vs : List Nat}, noOwn δ vs = true → ownA (wipeD δ vs) (wipe σ vs) = ownA δ σ
  | [], _ => rfl
  | v :: vs, h => by
    simp only [noOwn, List.all_cons, Bool.and_eq_true] at h
    show ownA ((wipeD δ vs).set v .un) ((wipe σ vs).set v none) = ownA δ σ
    rw [ownA_set_eq rfl fun t e => ?_]
    · exact wipeD_own h.2
    · rcases wipeD_get e with e | e
      · rw [e]; rfl
      · have := h.1
        rw [e] at this
        exact this
theorem SlotsOk.wipe {K : PySem.W.Frag} {dr : Option Dr} {S : List Addr} {H : Hp} {δ : De} {σ : L2.St} (h : SlotsOk K dr S H δ σ) : ∀ vs : List Nat, SlotsOk K dr S H (wipeD δ vs) (wipe σ vs)
  | [] => h
  | v :: vs => SlotsOk.set (s := .un) (o := none) trivial v (SlotsOk.wipe h vs)
theorem EnvOk.wipe {K : PySem.W.Frag} {W : Wd} {M : List Addr} {δ : De} {σ : L2.St} {H : Hp} (h : EnvOk K W M δ σ H) {vs : List Nat} (hn : noOwn δ vs = true) : EnvOk K W M (wipeD δ vs) (wipe σ vs) H := by
  have e := wipeD_own (σ := σ) hn
  refine ⟨h.w, h.m, by rw [e]; exact h.nd, by rw [e]; exact h.dj, ?_⟩
  have e2 : hidA W M (wipeD δ vs) (L2.wipe σ vs) = hidA W M δ σ := by rw [hidA, hidA, e]
  rw [e2]
  exact h.sl.wipe vs
/-- a new object is hidden from now on -/
theorem EnvOk.hideNew {K : PySem.W.Frag} {W : Wd} {M : List Addr} {δ : De} {σ : L2.St} {H H' : Hp} {p : Addr} {o : HO} (h : EnvOk K W M δ σ H) (hp : H p = none) (e : Ext W H H') (ho : H' p = some o) (nt : ∀ ps, o ≠ .tbl ps) : EnvOk K W (p :: M) δ σ H' := by
  have am := h.amb
  have hS := am.new hp
  simp only [hidA, List.mem_append, not_or] at hS
  have h' := h.ext e
  refine ⟨e.ok, fun a ha => ?_, h.nd, fun a ha => ⟨(h.dj a ha).1, fun z => ?_⟩, ?_⟩
  · rcases List.mem_cons.mp ha with rfl | ha
    · exact ⟨hS.1.1, o, ho, nt⟩
    · exact h'.m a ha
  · rcases List.mem_cons.mp z with rfl | z
    · exact hS.2 ha
    · exact (h.dj a ha).2 z
  · refine h.sl.stay (fun b u hb t => ?_) fun a u ha => e.keep a u (h.dj a ha).1
    obtain ⟨h1, h2⟩ := hide_some hb
    refine hide_of (fun z => ?_) (e.keep b u (fun z => h1 (by simp [hidA, z])) h2 t)
    simp only [hidA, List.mem_append, List.mem_cons] at z h1
    rcases z with (z | z | z) | z
    · exact h1 (.inl (.inl z))
    · subst z; rw [hp] at h2; cases h2
    · exact h1 (.inl (.inr z))
    · exact h1 (.inr z)
theorem noOwn_put {t : Tg} {d : D} {δ : De} {σ : L2.St} {vs : List V} (hf : t.fits d) (hn : ∀ i ∈ t.slots, ∀ s, δ[i]? = some s → noOw s = true) (hl : vs.length = t.slots.length) : ownA (t.put d δ) (putV t.slots vs σ) = ownA δ σ := by
  have go : ∀ (is : List Nat) (ds : List D) (vs : List V) (δ : De) (σ : L2.St), ds.length = is.length → vs.length = is.length → (∀ i ∈ is, ∀ s, δ[i]? = some s → noOw s = true) → ownA (putL is ds δ) (putV is vs σ) = ownA δ σ := by
    intro is
    induction is with
    | nil => intro ds vs δ σ h1 h2 _; cases ds <;> cases vs <;> first | rfl | (simp at h1 h2)
    | cons i is ih =>
      intro ds vs δ σ h1 h2 hn
      cases ds with
      | nil => simp at h1
      | cons d ds =>
        cases vs with
        | nil => simp at h2
        | cons v vs =>
          show ownA (putL is ds (δ.set i (.im d))) (putV is vs (σ.set i (some v))) = ownA δ σ
          rw [ih ds vs _ _ (by simpa using h1) (by simpa using h2) fun j hj s e => ?_]
          · exact ownA_set_eq rfl (hn i List.mem_cons_self)
          · rw [List.getElem?_set] at e
            split at e
            · split at e
              · cases e; rfl
              · cases e
            · exact hn j (List.mem_cons_of_mem _ hj) s e
  cases t with
  | n i =>
    cases vs with
    | nil => simp [Tg.slots] at hl
    | cons v vs =>
      cases vs with
      | nil => exact ownA_set_eq rfl (hn i (by simp [Tg.slots]))
      | cons _ _ => simp [Tg.slots] at hl
  | t is =>
    cases d <;> first | exact hf.elim | skip
    exact go is _ vs δ σ hf hl hn
/-- what a comprehension's turns give -/
inductive Coll (R : D → Option D → Prop) : List D → List D → Prop
  | nil : Coll R [] []
  | take {d y : D} {ds l : List D} : Coll R ds l → R d (some y) → Coll R (ds ++ [d]) (l ++ [y])
  | skip {d : D} {ds l : List D} : Coll R ds l → R d none → Coll R (ds ++ [d]) l
theorem take_more {ds : List D} {i : Nat} {d : D} (h : ds[i]? = some d) : ds.take (i + 1) = ds.take i ++ [d] := by
  rw [List.take_add_one, h]; rfl
abbrev wx0 : WX := fun _ _ _ _ => False
abbrev kx0 : KX := fun _ => False
section
variable {X : Cx} {W : Wd} {M : List Addr} {wx : WX} {δ : De} {tg iter elt c : Expr} {scope : Scope} {Kp : KD} {Ke : KX} {pos : Pos} {own : List (Str × Nat)} {t : Tg}
/-- the block's context -/
abbrev BX (X : Cx) (scope : Scope) (s : Shared) (H : Hp) (C : Addr) (cl : List (Str × Addr)) (fp : List Addr) : Cx := X.blk s H scope (compEnvC scope cl C X.env) fp
theorem lc_run {tt : TT} {te : TE} {σ : L2.St} {H1 : Hp} {J : It} {ds : List D} {R : D → Option D → Prop} {Q : VK} {A : Addr} (env : EnvOk X.K W M δ σ H1) (hn : noOwn δ (own.map (·.2)) = true) (hsl : ∀ i ∈ t.slots, i ∈ own.map (·.2))
    (hw : WalkD X.K W (hidA W M δ σ) J ds H1) (hds : ds.length ≤ 16777216) (hA : H1 A = none) (fits : ∀ d ∈ ds, t.fits d)
    (body : ∀ d ∈ ds, ∀ σ' H' (Qt : Hp → Prop) (Qf : Hp → Prop), EnvOk X.K W (A :: M) (t.put d (wipeD δ (own.map (·.2)))) σ' H' → (∀ y H4 d', Ext W H' H4 → Rep X.K W.dr (hide (hidA W (A :: M) (t.put d (wipeD δ (own.map (·.2)))) σ') H4) d' y → R d (some d') → ∃ acc, H4 A = some (.lst acc) ∧ acc.length < sizeLine ∧ Qt (upd H4 A (.lst (acc ++ [y])))) →
      (∀ H3, Ext W H' H3 → R d none → Qf H3) → tt σ' H' fun b H3 => if b = true then te σ' H3 fun y H4 => ∃ acc, H4 A = some (.lst acc) ∧ acc.length < sizeLine ∧ Qt (upd H4 A (.lst (acc ++ [y]))) else Qf H3)
    (fin : ∀ l H', Ext W H1 H' → Rep X.K W.dr (hide (hidA W M δ σ) H') (.lst l) (.ref A) → Coll R ds l → Q (.ref A) H') :
    ∃ Z : Nat → Nat → Hp → Prop, (∃ m, Z 0 m (upd H1 A (.lst []))) ∧ ∀ i m H, Z i m H →
      (J.stop i H ∧ Q (.ref A) H) ∨ (J.go i H ∧ ∃ Nx : Hp → Prop, (∀ H', Nx H' → ∃ m', m' < m ∧ Z (i + 1) m' H') ∧ ∀ x H', J.yld i H x H' → t.g X.K x (wipe σ (own.map (·.2))) H' fun σ2 H2 => wipe σ2 (own.map (·.2)) = wipe σ (own.map (·.2)) ∧ tt σ2 H2 fun b H3 =>
        if b = true then te σ2 H3 fun y H4 => ∃ acc, H4 A = some (.lst acc) ∧ acc.length < sizeLine ∧ Nx (upd H4 A (.lst (acc ++ [y]))) else Nx H3) := by
  obtain ⟨G, Y, hwk, hG, hY⟩ := hw
  have am1 := env.amb
  have AS := am1.new hA
  have Arg : A ∉ W.rg := fun z => AS (by simp [hidA, z])
  -- what is hidden grows by A
  have hx : ∀ H, Ext W H1 H → ExN (hide (hidA W M δ σ) H1) (hide (A :: hidA W M δ σ) H) := fun H e b u hb tt => by
    obtain ⟨h1, h2⟩ := hide_some hb
    refine hide_of (fun z => ?_) (e.keep b u (fun z => h1 (by simp [hidA, z])) h2 tt)
    rcases List.mem_cons.mp z with rfl | z
    · rw [hA] at h2; cases h2
    · exact h1 z
  refine lc_it hwk (fun i H => Ext W H1 H ∧ ∃ acc l, H A = some (.lst acc) ∧ RepL X.K W.dr (hide (A :: hidA W M δ σ) H) l acc ∧ Coll R (ds.take i) l ∧ acc.length ≤ i) ?_ (fun i H _ h => hG _ H h.1.ok (hx H h.1)) ?_ ?_
  · exact ⟨Ext.new env.w hA, [], [], upd_same, rfl, .nil, Nat.le_refl _⟩
  · rintro i x H H' hi ⟨e1, acc, l, ha, hr, hc, hl⟩ y
    have envW := (env.wipe hn).hideNew (p := A) hA e1 ha (fun _ z => by cases z)
    have amW : Amb W (A :: hidA W M δ σ) H := by
      have am := envW.amb
      refine ⟨am.w, fun a ha => by simp [hidA, ha], fun a ha' => am.tr a ?_⟩
      simp only [hidA, wipeD_own hn, List.mem_append, List.mem_cons] at ha' ⊢
      rcases ha' with z | (z | z) | z
      · exact .inl (.inr (.inl z))
      · exact .inl (.inl z)
      · exact .inl (.inr (.inr z))
      · exact .inr z
    obtain ⟨e2, d, hd, hrd⟩ := hY _ i H x H' hi amW (hx H e1) y
    have dm : d ∈ ds := List.mem_of_getElem? hd
    have envW' := envW.ext e2
    have sub1 : ∀ H, ExN (hide (A :: hidA W M δ σ) H) (hide (hidA W (A :: M) (wipeD δ (own.map (·.2))) (wipe σ (own.map (·.2)))) H) := fun H => hide_more fun a ha' => by
      simp only [hidA, wipeD_own hn, List.mem_append, List.mem_cons] at ha' ⊢
      rcases ha' with (z | z | z) | z
      · exact .inr (.inl (.inl z))
      · exact .inl z
      · exact .inr (.inl (.inr z))
      · exact .inr (.inr z)
    refine Tg.run envW' (hrd.mono (sub1 H')) (fits d dm) fun σ' env' _ hσ => ?_
    obtain ⟨vs, hvl, hσ⟩ := hσ
    have hown : ownA (t.put d (wipeD δ (own.map (·.2)))) σ' = ownA δ σ := by
      rw [hσ, noOwn_put (fits d dm) (fun i hi s e => ?_) hvl, wipeD_own hn]
      have him := hsl i hi
      have : ∀ (vs : List Nat), i ∈ vs → ∀ s, (wipeD δ vs)[i]? = some s → noOw s = true := by
        intro vs
        induction vs with
        | nil => intro h; simp at h
        | cons v vs ih =>
          intro hm s hs
          have hs' : ((wipeD δ vs).set v .un)[i]? = some s := hs
          rw [List.getElem?_set] at hs'
          split at hs'
          · split at hs'
            · cases hs'; rfl
            · cases hs'
          · rename_i hne
            rcases List.mem_cons.mp hm with z | z
            · exact absurd z.symm hne
            · exact ih z s hs'
      exact this _ him s e
    refine ⟨by rw [hσ]; exact wipe_put (fun i hi => hsl i hi) (wipe_wipe _), ?_⟩
    refine body d dm σ' H' (fun H => Ext W H1 H ∧ ∃ acc l, H A = some (.lst acc) ∧ RepL X.K W.dr (hide (A :: hidA W M δ σ) H) l acc ∧ Coll R (ds.take (i + 1)) l ∧ acc.length ≤ i + 1)
      (fun H => Ext W H1 H ∧ ∃ acc l, H A = some (.lst acc) ∧ RepL X.K W.dr (hide (A :: hidA W M δ σ) H) l acc ∧ Coll R (ds.take (i + 1)) l ∧ acc.length ≤ i + 1) env' (fun y' H4 d' e3 r3 hR => ?_) (fun H3 e3 hR => ?_)
    · have e4 := e1.trans (e2.trans e3)
      have ha4 : H4 A = some (.lst acc) := (e2.trans e3).keep A _ Arg ha (fun _ z => by cases z)
      refine ⟨acc, ha4, by rw [sizeLine_eq]; omega, ⟨fun b o hb h1 tt => ?_, e4.ok.write ha4 trivial (fun φ z => by cases z) Arg⟩, acc ++ [y'], l ++ [d'], upd_same, ?_, ?_, by simp; omega⟩
      · rw [upd_ne (ne_of_none h1 hA)]
        exact e4.keep b o hb h1 tt
      · have k1 : ExN (hide (A :: hidA W M δ σ) H) (hide (A :: hidA W M δ σ) (upd H4 A (.lst (acc ++ [y'])))) := fun b u hb tt => by
          obtain ⟨h1, h2⟩ := hide_some hb
          refine hide_of h1 ?_
          rw [upd_ne (fun z => h1 (by simp [z]))]
          exact (e2.trans e3).keep b u (fun z => h1 (by simp [hidA, z])) h2 tt
        have k2 : ExN (hide (hidA W (A :: M) (t.put d (wipeD δ (own.map (·.2)))) σ') H4) (hide (A :: hidA W M δ σ) (upd H4 A (.lst (acc ++ [y'])))) := fun b u hb tt => by
          obtain ⟨h1, h2⟩ := hide_some hb
          have h1' : b ∉ A :: hidA W M δ σ := fun z => h1 (by
            simp only [hidA, hown, List.mem_append, List.mem_cons] at z ⊢
            rcases z with z | (z | z) | z
            · exact .inl (.inr (.inl z))
            · exact .inl (.inl z)
            · exact .inl (.inr (.inr z))
            · exact .inr z)
          refine hide_of h1' ?_
          rw [upd_ne (fun z => h1' (by simp [z]))]
          exact h2
        exact (hr.mono k1).append (.cons (r3.mono k2) .nil)
      · rw [take_more hd]
        exact .take hc hR
    · have e4 := e1.trans (e2.trans e3)
      refine ⟨e4, acc, l, (e2.trans e3).keep A _ Arg ha (fun _ z => by cases z), hr.mono fun b u hb tt => ?_, ?_, by omega⟩
      · obtain ⟨h1, h2⟩ := hide_some hb
        exact hide_of h1 ((e2.trans e3).keep b u (fun z => h1 (by simp [hidA, z])) h2 tt)
      · rw [take_more hd]
        exact .skip hc hR
  · rintro H ⟨e1, acc, l, ha, hr, hc, hl⟩
    rw [List.take_length] at hc
    exact fin l H e1 ⟨A, acc, rfl, hide_of AS ha, hr.mono (hide_more fun a ha => List.mem_cons_of_mem _ ha)⟩ hc
/-- what a comprehension asks of one item: the item fits the target; the element is taken, or not -/
def LcE (X : Cx) (W : Wd) (M : List Addr) (δ : De) (scope : Scope) (elt : Expr) (K : KD) : Prop := ∀ s H C cl fp, DE (BX X scope s H C cl fp) W M wx0 δ elt K kx0
def LcB (X : Cx) (W : Wd) (M : List Addr) (δ : De) (scope : Scope) (vs : List Nat) (t : Tg) (elt : Expr) (R : D → Option D → Prop) (d : D) : Prop := t.fits d ∧ ∀ A, LcE X W (A :: M) (t.put d (wipeD δ vs)) scope elt fun y => R d (some y)
def LcC (X : Cx) (W : Wd) (M : List Addr) (δ : De) (scope : Scope) (vs : List Nat) (t : Tg) (elt c : Expr) (R : D → Option D → Prop) (d : D) : Prop := t.fits d ∧ ∀ A s H C cl fp,
  DT (BX X scope s H C cl fp) W (A :: M) wx0 (t.put d (wipeD δ vs)) c (fun b => (b = true → LcE X W (A :: M) (t.put d (wipeD δ vs)) scope elt fun y => R d (some y)) ∧ (b = false → R d none)) kx0
def tAnyB (X : Cx) (scope : Scope) (e : Expr) : TE := fun σ H Q => ∃ t, (∀ s H C cl fp, PE (BX X scope s H C cl fp) e t) ∧ t σ H Q
theorem pe_anyB {e : Expr} (s : Shared) (H : Hp) (C : Addr) (cl : List (Str × Addr)) (fp : List Addr) : PE (BX X scope s H C cl fp) e (tAnyB X scope e) := ⟨fun pins s' σ H' Q I ⟨_, h, q⟩ => (h s H C cl fp).run pins s' σ H' Q I q⟩
def ttAnyB (X : Cx) (scope : Scope) (e : Expr) : TT := fun σ H Q => ∃ t, (∀ s H C cl fp, PT (BX X scope s H C cl fp) e t) ∧ t σ H Q
theorem pt_anyB {e : Expr} (s : Shared) (H : Hp) (C : Addr) (cl : List (Str × Addr)) (fp : List Addr) : PT (BX X scope s H C cl fp) e (ttAnyB X scope e) := ⟨fun pins s' σ H' Q I ⟨_, h, q⟩ => (h s H C cl fp).run pins s' σ H' Q I q⟩
theorem LcE.run {σ : L2.St} {H : Hp} {Q : VK} (h : LcE X W M δ scope elt Kp) (env : EnvOk X.K W M δ σ H) (q : ∀ v H' d, Ext W H H' → Rep X.K W.dr (hide (hidA W M δ σ) H') d v → Kp d → Q v H') : tAnyB X scope elt σ H Q :=
  ⟨tE X.K W M wx0 δ Kp kx0, h, env, q, fun x cls dd H' _ _ z => z.elim⟩
theorem dx_lc (own : List (Str × Nat)) (t : Tg) (hc : X.calm = true) (nd : X.N.Nodup) (ok : BlkOk X.N X.env.scope scope own) (hn : noOwn δ (own.map (·.2)) = true) (hsl : ∀ i ∈ t.slots, i ∈ own.map (·.2))
    (hg : ∀ s H C cl fp, PG (BX X scope s H C cl fp) tg (t.g X.K)) (h : DI X W M wx δ tg iter (fun ds => ds.length ≤ 16777216 ∧ ∃ R : D → Option D → Prop, (∀ d ∈ ds, LcB X W M δ scope (own.map (·.2)) t elt R d) ∧ ∀ l, Coll R ds l → Kp (.lst l)) Ke)
    (hs : ∀ x, foldedSetIterable iter X.env x = pure x := by intro _; rfl) : DE X W M wx δ (.ListComp elt [⟨tg, iter, [], 0⟩] scope pos) Kp Ke :=
  PE.imp (pe_lc hc nd pi_any ok hg (fun _ _ _ _ _ => pts_nil) pe_anyB hs) fun σ H Q ⟨env, q, qx⟩ => h.run env (fun J H1 ds e1 hw ⟨hds, R, hb, hk⟩ A hA =>
    lc_run (env.ext e1) hn hsl hw hds hA (fun d hd => (hb d hd).1) (fun d hd σ' H' Qt Qf env' qt qf => iteT (B := Qf H') (((hb d hd).2 A).run env' qt)) fun l H' e2 r2 hc => q _ H' _ (e1.trans e2) r2 (hk l hc)) qx
theorem dx_lcIf (own : List (Str × Nat)) (t : Tg) (hc : X.calm = true) (nd : X.N.Nodup) (ok : BlkOk X.N X.env.scope scope own) (hn : noOwn δ (own.map (·.2)) = true) (hsl : ∀ i ∈ t.slots, i ∈ own.map (·.2))
    (hg : ∀ s H C cl fp, PG (BX X scope s H C cl fp) tg (t.g X.K)) (h : DI X W M wx δ tg iter (fun ds => ds.length ≤ 16777216 ∧ ∃ R : D → Option D → Prop, (∀ d ∈ ds, LcC X W M δ scope (own.map (·.2)) t elt c R d) ∧ ∀ l, Coll R ds l → Kp (.lst l)) Ke)
    (hs : ∀ x, foldedSetIterable iter X.env x = pure x := by intro _; rfl) : DE X W M wx δ (.ListComp elt [⟨tg, iter, [c], 0⟩] scope pos) Kp Ke :=
  PE.imp (pe_lc hc nd pi_any ok hg (fun s H C cl fp => pts_one (pt_anyB s H C cl fp)) pe_anyB hs) fun σ H Q ⟨env, q, qx⟩ => h.run env (fun J H1 ds e1 hw ⟨hds, R, hb, hk⟩ A hA =>
    lc_run (env.ext e1) hn hsl hw hds hA (fun d hd => (hb d hd).1) (fun d hd σ' H' Qt Qf env' qt qf =>
      ⟨tT X.K W (A :: M) wx0 (t.put d (wipeD δ (List.map (fun (p : Str × Nat) => p.2) own))) (fun b => (b = true → LcE X W (A :: M) (t.put d (wipeD δ (List.map (fun (p : Str × Nat) => p.2) own))) scope elt fun y => R d (some y)) ∧ (b = false → R d none)) kx0, (hb d hd).2 A, env', fun b H3 e3 ⟨k1, k2⟩ => by
        cases b with
        | true => exact iteT ((k1 rfl).run (env'.ext e3) fun y H4 d' e4 r k => qt y H4 d' (e3.trans e4) r k)
        | false => exact iteF (qf H3 e3 (k2 rfl)), fun x cls dd H' _ _ z => z.elim⟩) fun l H' e2 r2 hc => q _ H' _ (e1.trans e2) r2 (hk l hc)) qx
/-- over a name -/
theorem dx_lcN (i : Nat) {x : Str} {px : Pos} (hc : X.calm = true) (nd : X.N.Nodup) (hb : blkC X.N X.env.scope scope [(x, i)] = true) (hn : noOwn δ [i] = true) (hN : X.N[i]? = some x)
    (hl : ∀ s H C cl fp, Loc (BX X scope s H C cl fp).env.scope x ∧ ((BX X scope s H C cl fp).fn x = true ∨ (BX X scope s H C cl fp).env.scope.names.lookup x = some .local)) (h : DI X W M wx δ (.Name x px) iter (fun ds => ds.length ≤ 16777216 ∧ ∃ R : D → Option D → Prop, (∀ d ∈ ds, LcB X W M δ scope [i] (.n i) elt R d) ∧ ∀ l, Coll R ds l → Kp (.lst l)) Ke)
    (hs : ∀ x, foldedSetIterable iter X.env x = pure x := by intro _; rfl) : DE X W M wx δ (.ListComp elt [⟨.Name x px, iter, [], 0⟩] scope pos) Kp Ke :=
  dx_lc [(x, i)] (.n i) hc nd (blkOk_by hb) hn (fun j hj => hj) (fun s H C cl fp => pg_name (X := BX X scope s H C cl fp) nd hN (hl s H C cl fp).1 (hl s H C cl fp).2) h hs
theorem dx_lcNIf (i : Nat) {x : Str} {px : Pos} (hc : X.calm = true) (nd : X.N.Nodup) (hb : blkC X.N X.env.scope scope [(x, i)] = true) (hn : noOwn δ [i] = true) (hN : X.N[i]? = some x)
    (hl : ∀ s H C cl fp, Loc (BX X scope s H C cl fp).env.scope x ∧ ((BX X scope s H C cl fp).fn x = true ∨ (BX X scope s H C cl fp).env.scope.names.lookup x = some .local)) (h : DI X W M wx δ (.Name x px) iter (fun ds => ds.length ≤ 16777216 ∧ ∃ R : D → Option D → Prop, (∀ d ∈ ds, LcC X W M δ scope [i] (.n i) elt c R d) ∧ ∀ l, Coll R ds l → Kp (.lst l)) Ke)
    (hs : ∀ x, foldedSetIterable iter X.env x = pure x := by intro _; rfl) : DE X W M wx δ (.ListComp elt [⟨.Name x px, iter, [c], 0⟩] scope pos) Kp Ke :=
  dx_lcIf [(x, i)] (.n i) hc nd (blkOk_by hb) hn (fun j hj => hj) (fun s H C cl fp => pg_name (X := BX X scope s H C cl fp) nd hN (hl s H C cl fp).1 (hl s H C cl fp).2) h hs
/-- over a pair of names -/
theorem dx_lcP (i j : Nat) {x y : Str} {px py pt : Pos} {kt} (hc : X.calm = true) (nd : X.N.Nodup) (hb : blkC X.N X.env.scope scope [(x, i), (y, j)] = true) (hn : noOwn δ [i, j] = true) (hN : X.N[i]? = some x) (hN' : X.N[j]? = some y)
    (hl : ∀ s H C cl fp, (Loc (BX X scope s H C cl fp).env.scope x ∧ ((BX X scope s H C cl fp).fn x = true ∨ (BX X scope s H C cl fp).env.scope.names.lookup x = some .local)) ∧ (Loc (BX X scope s H C cl fp).env.scope y ∧ ((BX X scope s H C cl fp).fn y = true ∨ (BX X scope s H C cl fp).env.scope.names.lookup y = some .local)))
    (h : DI X W M wx δ (.Tuple [.Name x px, .Name y py] kt pt) iter (fun ds => ds.length ≤ 16777216 ∧ ∃ R : D → Option D → Prop, (∀ d ∈ ds, LcB X W M δ scope [i, j] (.t [i, j]) elt R d) ∧ ∀ l, Coll R ds l → Kp (.lst l)) Ke)
    (hs : ∀ x, foldedSetIterable iter X.env x = pure x := by intro _; rfl) : DE X W M wx δ (.ListComp elt [⟨.Tuple [.Name x px, .Name y py] kt pt, iter, [], 0⟩] scope pos) Kp Ke :=
  dx_lc [(x, i), (y, j)] (.t [i, j]) hc nd (blkOk_by hb) hn (fun j hj => hj) (fun s H C cl fp => pg_tup (X := BX X scope s H C cl fp) hc (pgs_cons (pg_name (X := BX X scope s H C cl fp) nd hN (hl s H C cl fp).1.1 (hl s H C cl fp).1.2) (pgs_cons (pg_name (X := BX X scope s H C cl fp) nd hN' (hl s H C cl fp).2.1 (hl s H C cl fp).2.2) pgs_nil))) h hs
/-- y = [..] -/
theorem ds_setLc {O : Out} (i : Nat) {y : Str} {py spos : Pos} (own : List (Str × Nat)) (t : Tg) (hc : X.calm = true) (nd : X.N.Nodup) (hy : X.N[i]? = some y) (hyl : X.env.scope.names.lookup y = some .local) (hsw : swapsWith (.ListComp elt [⟨tg, iter, [], 0⟩] scope pos) (some (.Name y py)) spos.line X.env = pure true)
    (ok : BlkOk X.N X.env.scope scope own) (hn : noOwn δ (own.map (·.2)) = true) (hsl : ∀ i ∈ t.slots, i ∈ own.map (·.2))
    (hg : ∀ s H C cl fp, PG (BX X scope s H C cl fp) tg (t.g X.K)) (h : DI X W M wx δ tg iter (fun ds => ds.length ≤ 16777216 ∧ ∃ R : D → Option D → Prop, (∀ d ∈ ds, LcB X W M δ scope (own.map (·.2)) t elt R d) ∧ ∀ l, Coll R ds l → O.nx (δ.set i (.im (.lst l)))) Ke)
    (hs : ∀ x, foldedSetIterable iter X.env x = pure x := by intro _; rfl) : DS X W M wx δ (.Assign [.Name y py] (.ListComp elt [⟨tg, iter, [], 0⟩] scope pos) spos) O Ke := fun H0 N =>
  PS.imp (ps_setLc hc nd hy hyl hsw pi_any ok hg (fun _ _ _ _ _ => pts_nil) pe_anyB hs) fun Dn σ H ⟨env, n, b, c, r, x⟩ => h.run env.env (fun J H1 ds e1 hw ⟨hds, R, hb, hk⟩ A hA =>
    lc_run (Q := fun v H' => Dn.nx (σ.set i (some v)) H') (env.env.ext e1) hn hsl hw hds hA (fun d hd => (hb d hd).1) (fun d hd σ' H' Qt Qf env' qt qf => iteT (B := Qf H') (((hb d hd).2 A).run env' qt)) fun l H' e2 r2 hc => n _ _ H' ((env.go (e1.trans e2)).put r2) (hk l hc))
      fun y cls dd H' e1 r1 k => x y cls dd σ H' (env.go e1).xe (r1.mono (hid_more (F := ⟨W, M, H0, N⟩))) k
theorem ds_setLcIf {O : Out} (i : Nat) {y : Str} {py spos : Pos} (own : List (Str × Nat)) (t : Tg) (hc : X.calm = true) (nd : X.N.Nodup) (hy : X.N[i]? = some y) (hyl : X.env.scope.names.lookup y = some .local) (hsw : swapsWith (.ListComp elt [⟨tg, iter, [c], 0⟩] scope pos) (some (.Name y py)) spos.line X.env = pure true)
    (ok : BlkOk X.N X.env.scope scope own) (hn : noOwn δ (own.map (·.2)) = true) (hsl : ∀ i ∈ t.slots, i ∈ own.map (·.2))
    (hg : ∀ s H C cl fp, PG (BX X scope s H C cl fp) tg (t.g X.K)) (h : DI X W M wx δ tg iter (fun ds => ds.length ≤ 16777216 ∧ ∃ R : D → Option D → Prop, (∀ d ∈ ds, LcC X W M δ scope (own.map (·.2)) t elt c R d) ∧ ∀ l, Coll R ds l → O.nx (δ.set i (.im (.lst l)))) Ke)
    (hs : ∀ x, foldedSetIterable iter X.env x = pure x := by intro _; rfl) : DS X W M wx δ (.Assign [.Name y py] (.ListComp elt [⟨tg, iter, [c], 0⟩] scope pos) spos) O Ke := fun H0 N =>
  PS.imp (ps_setLc hc nd hy hyl hsw pi_any ok hg (fun s H C cl fp => pts_one (pt_anyB s H C cl fp)) pe_anyB hs) fun Dn σ H ⟨env, n, b, c', r, x⟩ => h.run env.env (fun J H1 ds e1 hw ⟨hds, R, hb, hk⟩ A hA =>
    lc_run (Q := fun v H' => Dn.nx (σ.set i (some v)) H') (env.env.ext e1) hn hsl hw hds hA (fun d hd => (hb d hd).1) (fun d hd σ' H' Qt Qf env' qt qf =>
      ⟨tT X.K W (A :: M) wx0 (t.put d (wipeD δ (List.map (fun (p : Str × Nat) => p.2) own))) (fun b => (b = true → LcE X W (A :: M) (t.put d (wipeD δ (List.map (fun (p : Str × Nat) => p.2) own))) scope elt fun y => R d (some y)) ∧ (b = false → R d none)) kx0, (hb d hd).2 A, env', fun b H3 e3 ⟨k1, k2⟩ => by
        cases b with
        | true => exact iteT ((k1 rfl).run (env'.ext e3) fun y H4 d' e4 r k => qt y H4 d' (e3.trans e4) r k)
        | false => exact iteF (qf H3 e3 (k2 rfl)), fun x cls dd H' _ _ z => z.elim⟩) fun l H' e2 r2 hc => n _ _ H' ((env.go (e1.trans e2)).put r2) (hk l hc))
      fun y cls dd H' e1 r1 k => x y cls dd σ H' (env.go e1).xe (r1.mono (hid_more (F := ⟨W, M, H0, N⟩))) k

/-! ### results of comprehensions -/
/-- each item gives just f of it -/
theorem coll_map {f : D → D} {R : D → Option D → Prop} {ds l : List D} (h : Coll R ds l) (hf : ∀ d ∈ ds, ∀ y, R d y → y = some (f d)) : l = ds.map f := by
  induction h with
  | nil => rfl
  | @take d y ds l hc hr ih =>
    rw [ih fun d' hd => hf d' (List.mem_append_left _ hd), List.map_append]
    have := hf d (List.mem_append_right _ (List.mem_singleton.mpr rfl)) _ hr
    cases this
    rfl
  | @skip d ds l hc hr ih =>
    have := hf d (List.mem_append_right _ (List.mem_singleton.mpr rfl)) _ hr
    cases this
theorem coll_filter {f : D → Option D} {R : D → Option D → Prop} {ds l : List D} (h : Coll R ds l) (hf : ∀ d ∈ ds, ∀ y, R d y → y = f d) : l = ds.filterMap f := by
  induction h with
  | nil => rfl
  | @take d y ds l hc hr ih =>
    rw [ih fun d' hd => hf d' (List.mem_append_left _ hd), List.filterMap_append]
    have := hf d (List.mem_append_right _ (List.mem_singleton.mpr rfl)) _ hr
    simp [← this]
  | @skip d ds l hc hr ih =>
    rw [ih fun d' hd => hf d' (List.mem_append_left _ hd), List.filterMap_append]
    have := hf d (List.mem_append_right _ (List.mem_singleton.mpr rfl)) _ hr
    simp [← this]
/-- as many as there are, each as wanted -/
theorem coll_all {p : D → Prop} {R : D → Option D → Prop} {ds l : List D} (h : Coll R ds l) (hf : ∀ d ∈ ds, ∀ y, R d y → ∃ z, y = some z ∧ p z) : l.length = ds.length ∧ ∀ y ∈ l, p y := by
  induction h with
  | nil => exact ⟨rfl, fun y h => by simp at h⟩
  | @take d y ds l hc hr ih =>
    obtain ⟨i1, i2⟩ := ih fun d' hd => hf d' (List.mem_append_left _ hd)
    obtain ⟨z, hz, pz⟩ := hf d (List.mem_append_right _ (List.mem_singleton.mpr rfl)) _ hr
    cases hz
    refine ⟨by simp [i1], fun y' hy => ?_⟩
    rcases List.mem_append.mp hy with hy | hy
    · exact i2 y' hy
    · rw [List.mem_singleton.mp hy]; exact pz
  | @skip d ds l hc hr ih =>
    obtain ⟨z, hz, pz⟩ := hf d (List.mem_append_right _ (List.mem_singleton.mpr rfl)) _ hr
    cases hz
end
end Lay

/-! # DS7: loops, stores, own lists, raise; a def by its body -/
namespace Lay
open PySem PySem.Spec PyProof.Rows L2

/-- a stretch within another one: it begins at H1, and one's own objects may change -/
theorem SEnv.in_ {K : PySem.W.Frag} {W : Wd} {M : List Addr} {H0 H1 : Hp} {N : List Addr} {δ : De} {σ : L2.St} (h : SEnv K ⟨W, M, H0, N⟩ δ σ H1) : SEnv K ⟨W, M, H1, ownA δ σ⟩ δ σ H1 := ⟨h.env, fun b o _ _ e _ => e, fun a ha => .inl ha⟩
theorem keep_back {K : PySem.W.Frag} {W : Wd} {M : List Addr} {H0 H1 H' : Hp} {N : List Addr} {δ : De} {σ : L2.St} (h : SEnv K ⟨W, M, H0, N⟩ δ σ H1) (k : ∀ b o, b ∉ W.rg → b ∉ ownA δ σ → H1 b = some o → (∀ ps, o ≠ .tbl ps) → H' b = some o) :
    ∀ b o, b ∉ W.rg → b ∉ N → H0 b = some o → (∀ ps, o ≠ .tbl ps) → H' b = some o := fun b o h1 h2 h3 t => by
  refine k b o h1 (fun z => ?_) (h.ext b o h1 h2 h3 t) t
  have h3' : H0 b = some o := h3
  rcases h.own b z with q | q | ⟨ps, q⟩
  · exact h2 q
  · have q' : H0 b = none := q
    rw [h3'] at q'; cases q'
  · have q' : H0 b = some (.tbl ps) := q
    rw [h3'] at q'
    exact t ps (Option.some.inj q')
theorem SEnv.back {K : PySem.W.Frag} {W : Wd} {M : List Addr} {H0 H1 H' : Hp} {N : List Addr} {δ δ' : De} {σ σ' : L2.St} (h : SEnv K ⟨W, M, H0, N⟩ δ σ H1) (h' : SEnv K ⟨W, M, H1, ownA δ σ⟩ δ' σ' H') : SEnv K ⟨W, M, H0, N⟩ δ' σ' H' := by
  refine ⟨h'.env, keep_back h h'.ext, fun a ha => ?_⟩
  rcases h'.own a ha with q | q | ⟨ps, q⟩
  · exact h.own a q
  · have q : H1 a = none := q
    by_cases hN : a ∈ N
    · exact .inl hN
    · cases e : H0 a with
      | none => exact .inr (.inl e)
      | some o =>
        refine .inr (.inr ?_)
        by_cases ht : ∃ ps, o = .tbl ps
        · obtain ⟨ps, rfl⟩ := ht
          exact ⟨ps, e⟩
        · have hr : a ∉ W.rg := fun z => by
            obtain ⟨u, hu, _⟩ := h.env.w.tr z
            rw [q] at hu; cases hu
          have := h.ext a o hr hN e fun ps z => ht ⟨ps, z⟩
          rw [q] at this; cases this
  · have q : H1 a = some (.tbl ps) := q
    by_cases hN : a ∈ N
    · exact .inl hN
    · cases e : H0 a with
      | none => exact .inr (.inl e)
      | some o =>
        refine .inr (.inr ?_)
        by_cases ht : ∃ ps, o = .tbl ps
        · obtain ⟨ps, rfl⟩ := ht
          exact ⟨ps, e⟩
        · have hr : a ∉ W.rg := fun z => by
            obtain ⟨u, hu, t⟩ := h.env.w.tr z
            rw [q] at hu; cases hu
            exact t ps rfl
          have := h.ext a o hr hN e fun ps z => ht ⟨ps, z⟩
          rw [q] at this; cases this
          exact (ht ⟨ps, rfl⟩).elim
theorem XEnd.back {K : PySem.W.Frag} {W : Wd} {M : List Addr} {H0 H1 H' : Hp} {N : List Addr} {δ : De} {σ : L2.St} (h : SEnv K ⟨W, M, H0, N⟩ δ σ H1) (h' : XEnd ⟨W, M, H1, ownA δ σ⟩ H') : XEnd ⟨W, M, H0, N⟩ H' := ⟨h'.w, keep_back h h'.ext⟩
section
variable {X : Cx} {W : Wd} {M : List Addr} {wx : WX} {δ : De} {tg iter e c : Expr} {body : List Stmt} {O : Out} {Ke : KX} {pos : Pos} {t : Tg}
theorem ds_for (t : Tg) (hp : PassesOwn (model X.prog X.w) X.A X.env X.xe) (hc : X.calm = true) (hg : PG X tg (t.g X.K))
    (h : DI X W M wx δ tg iter (fun ds => ∃ Inv : Nat → De → Prop, Inv 0 δ ∧ (∀ i d δ', ds[i]? = some d → Inv i δ' → t.fits d ∧ DSs X W M wx (t.put d δ') body { O with nx := Inv (i + 1), ct := Inv (i + 1), bk := O.nx } Ke) ∧ ∀ δ', Inv ds.length δ' → O.nx δ') Ke)
    (hs : ∀ x, foldedSetIterable iter X.env x = pure x := by intro _; rfl) : DS X W M wx δ (.For tg iter body [] pos) O Ke := fun H0 N => by
  refine PS.imp (ps_for hp hc pi_any hg pss_any hs) fun Dn σ H ⟨env, n, b, c, r, x⟩ => h.run env.env (fun J H1 ds e1 hw ⟨IV, h0, hst, hd⟩ => ?_) fun y cls dd H' e1 r1 k => x y cls dd σ H' (env.go e1).xe (r1.mono (hid_more (F := ⟨W, M, H0, N⟩))) k
  obtain ⟨G, Y, hwk, hG, hY⟩ := hw
  have env1 := env.go e1
  have hx : ∀ {δ' σ' H'}, SEnv X.K ⟨W, M, H1, ownA δ σ⟩ δ' σ' H' → ExN (hide (hidA W M δ σ) H1) (hide (hidA W M δ' σ') H') := fun {δ' σ' H'} env' b u hb tt => by
    obtain ⟨h1, h2⟩ := hide_some hb
    simp only [hidA, List.mem_append, not_or] at h1
    refine hide_of (fun z => ?_) (env'.ext b u h1.1.1 h1.2 h2 tt)
    simp only [hidA, List.mem_append] at z
    rcases z with (z | z) | z
    · exact h1.1.1 z
    · exact h1.1.2 z
    · rcases env'.own b z with q | q | ⟨ps, q⟩
      · exact h1.2 q
      · have q : H1 b = none := q
        rw [h2] at q; cases q
      · have q : H1 b = some (.tbl ps) := q
        rw [h2] at q; exact tt ps (Option.some.inj q)
  refine for_it hwk (fun i σ' H' => ∃ δ', SEnv X.K ⟨W, M, H1, ownA δ σ⟩ δ' σ' H' ∧ IV i δ') ⟨δ, env1.in_, h0⟩ (fun i σ' H' _ ⟨δ', env', _⟩ => hG _ H' env'.env.w (hx env')) ?_ fun σ' H' ⟨δ', env', hI⟩ => n δ' σ' H' (env1.back env') (hd δ' hI)
  rintro i v σ' H' H'' hi ⟨δ', env', hI⟩ y
  obtain ⟨e2, d, hdd, rd⟩ := hY _ i H' v H'' hi env'.env.amb (hx env') y
  obtain ⟨hf, hb⟩ := hst i d δ' hdd hI
  have env2 := env'.go e2
  refine Tg.run env2.env rd hf fun σ2 env3 hown _ => ?_
  have env4 : SEnv X.K ⟨W, M, H1, ownA δ σ⟩ (t.put d δ') σ2 H'' := ⟨env3, env2.ext, fun a ha => env2.own a (hown a ha)⟩
  exact hb.run env4 (fun δ2 σ2 H2 e k => ⟨δ2, e, k⟩) (fun δ2 σ2 H2 e k => n δ2 σ2 H2 (env1.back e) k) (fun δ2 σ2 H2 e k => ⟨δ2, e, k⟩) (fun v H2 d e r1 k => r v H2 d (e.back env1) r1 k) fun y cls dd σ2 H2 e r1 k => x y cls dd σ2 H2 (e.back env1) r1 k
theorem ds_while (Inv : De → Prop) (μ : De → Nat) (hp : PassesOwn (model X.prog X.w) X.A X.env X.xe) (h0 : Inv δ)
    (hs : ∀ δ', Inv δ' → DT X W M wx δ' c (fun b => (b = true → DSs X W M wx δ' body { O with nx := fun δ'' => Inv δ'' ∧ μ δ'' < μ δ', ct := fun δ'' => Inv δ'' ∧ μ δ'' < μ δ', bk := O.nx } Ke) ∧ (b = false → O.nx δ')) Ke) : DS X W M wx δ (.While c body [] pos) O Ke := fun H0 N => by
  refine PS.imp (ps_while hp pt_any pss_any) fun Dn σ H ⟨env, n, b, c, r, x⟩ => ?_
  refine ⟨fun m σ' H' => ∃ δ', SEnv X.K ⟨W, M, H0, N⟩ δ' σ' H' ∧ Inv δ' ∧ m = μ δ', ⟨μ δ, δ, env, h0, rfl⟩, ?_⟩
  rintro m σ' H' ⟨δ', env', hI, rfl⟩
  refine tx_run (hs δ' hI) env' (fun k H2 env2 ⟨k1, k2⟩ => ?_) x
  cases k with
  | true =>
    refine iteT ⟨fun σ3 H3 => ∃ δ3, SEnv X.K ⟨W, M, H0, N⟩ δ3 σ3 H3 ∧ Inv δ3 ∧ μ δ3 < μ δ', fun σ3 H3 ⟨δ3, e3, i3, l3⟩ => ⟨μ δ3, l3, δ3, e3, i3, rfl⟩, ?_⟩
    exact (k1 rfl).run env2 (fun δ2 σ2 H2 e k => ⟨δ2, e, k⟩) n (fun δ2 σ2 H2 e k => ⟨δ2, e, k⟩) r x
  | false => exact iteF (n δ' σ' H2 env2 (k2 rfl))

/-! ### stores -/
theorem EnvOk.put2 {σ : L2.St} {H : Hp} {i j : Nat} {v w : V} {d1 d2 : D} (h : EnvOk X.K W M δ σ H) (r1 : Rep X.K W.dr (hide (hidA W M δ σ) H) d1 v) (r2 : Rep X.K W.dr (hide (hidA W M δ σ) H) d2 w) :
    EnvOk X.K W M ((δ.set i (.im d1)).set j (.im d2)) ((σ.set i (some v)).set j (some w)) H := (h.put r1).put (r2.mono hidA_set)
theorem ds_par2 (i j : Nat) {x y : Str} {a b : Expr} {px py pt : Pos} {kt k2 pt2} (hc : X.calm = true) (hN : X.N.Nodup) (hi : X.N[i]? = some x) (hj : X.N[j]? = some y) (hij : i ≠ j)
    (hx : X.env.scope.names.lookup x = some .local) (hy : X.env.scope.names.lookup y = some .local) (hw : swappedStores [.Tuple [.Name x px, .Name y py] kt pt] (.Tuple [a, b] k2 pt2) X.env = pure (some [x, y]))
    (h : DA X W M wx δ [a, b] (as2 fun d1 d2 => O.nx ((δ.set i (.im d1)).set j (.im d2))) Ke)
    (hs : swapsWithSole [.Tuple [.Name x px, .Name y py] kt pt] (.Tuple [a, b] k2 pt2) pos.line X.env = pure false := by rfl) : DS X W M wx δ (.Assign [.Tuple [.Name x px, .Name y py] kt pt] (.Tuple [a, b] k2 pt2) pos) O Ke := fun H0 N =>
  PS.imp (ps_par hc hN hi hj hij hx hy pa_any hw hs) fun Dn σ H ⟨env, n, b, c, r, x⟩ => h.run env.env (fun vs H1 ds e1 r1 k => by
    obtain ⟨d1, d2, rfl, k⟩ := as2_ex k
    obtain ⟨v, w, rfl, ra, rb⟩ := r1.two
    have env1 := env.go e1
    exact ⟨v, w, rfl, n _ _ H1 ⟨env1.env.put2 ra rb, env1.ext, fun a ha => env1.own a (ownA_set rfl a (ownA_set rfl a ha))⟩ k⟩)
      fun y cls dd H' e1 r1 k => x y cls dd σ H' (env.go e1).xe (r1.mono (hid_more (F := ⟨W, M, H0, N⟩))) k
def as3 (f : D → D → D → Prop) : List D → Prop
  | [d, e, g] => f d e g
  | _ => False
theorem as3_ex {f : D → D → D → Prop} {ds : List D} (h : as3 f ds) : ∃ d e g, ds = [d, e, g] ∧ f d e g := by
  cases ds with
  | nil => exact False.elim h
  | cons d ds =>
    cases ds with
    | nil => exact False.elim h
    | cons e ds =>
      cases ds with
      | nil => exact False.elim h
      | cons g ds =>
        cases ds with
        | nil => exact ⟨d, e, g, rfl, h⟩
        | cons _ _ => exact False.elim h
theorem ds_par3 (i j l : Nat) {x y z : Str} {a b c : Expr} {px py pz pt : Pos} {kt k2 pt2} (hc : X.calm = true) (hN : X.N.Nodup) (hi : X.N[i]? = some x) (hj : X.N[j]? = some y) (hl : X.N[l]? = some z) (hij : i ≠ j) (hil : i ≠ l) (hjl : j ≠ l)
    (hx : X.env.scope.names.lookup x = some .local) (hy : X.env.scope.names.lookup y = some .local) (hz : X.env.scope.names.lookup z = some .local)
    (hw : swappedStores [.Tuple [.Name x px, .Name y py, .Name z pz] kt pt] (.Tuple [a, b, c] k2 pt2) X.env = pure (some [x, y, z])) (h : DA X W M wx δ [a, b, c] (as3 fun d1 d2 d3 => O.nx (((δ.set i (.im d1)).set j (.im d2)).set l (.im d3))) Ke)
    (hs : swapsWithSole [.Tuple [.Name x px, .Name y py, .Name z pz] kt pt] (.Tuple [a, b, c] k2 pt2) pos.line X.env = pure false := by rfl) : DS X W M wx δ (.Assign [.Tuple [.Name x px, .Name y py, .Name z pz] kt pt] (.Tuple [a, b, c] k2 pt2) pos) O Ke := fun H0 N =>
  PS.imp (ps_par3 hc hN hi hj hl hij hil hjl hx hy hz pa_any hw hs) fun Dn σ H ⟨env, n, b, c, r, x⟩ => h.run env.env (fun vs H1 ds e1 r1 k => by
    obtain ⟨d1, d2, d3, rfl, k⟩ := as3_ex k
    obtain ⟨u, us, rfl, ra, r2⟩ := r1
    obtain ⟨v, w, rfl, rb, rc⟩ := RepL.two r2
    have env1 := env.go e1
    exact ⟨u, v, w, rfl, n _ _ H1 ⟨(env1.env.put2 ra rb).put ((rc.mono hidA_set).mono hidA_set), env1.ext, fun a ha => env1.own a (ownA_set rfl a (ownA_set rfl a (ownA_set rfl a ha)))⟩ k⟩)
      fun y cls dd H' e1 r1 k => x y cls dd σ H' (env.go e1).xe (r1.mono (hid_more (F := ⟨W, M, H0, N⟩))) k
/-- a, b, .. = e by a tuple -/
theorem ds_asg (t : Tg) (hg : PG X tg (t.g X.K)) (h : DE X W M wx δ e (fun d => t.fits d ∧ O.nx (t.put d δ)) Ke) (hs : swapsWithSole [tg] e pos.line X.env = pure false := by rfl) (hw : swappedStores [tg] e X.env = pure none := by rfl)
    (h1 : (assignEach [tg] X.env).map (·.2) = [assign tg X.env] := by rfl) : DS X W M wx δ (.Assign [tg] e pos) O Ke := fun H0 N =>
  PS.imp (ps_asg pe_any hg hs hw h1) fun Dn σ H ⟨env, n, b, c, r, x⟩ => ex_run h env (fun v H' d env' e1 r1 ⟨hf, k⟩ => Tg.run env'.env r1 hf fun σ2 env3 hown _ => n _ σ2 H' ⟨env3, env'.ext, fun a ha => env'.own a (hown a ha)⟩ k) x

/-! ### raise -/
/-- an own exception class without __init__ of its own, over ValueError -/
structure ExF (K : PySem.W.Frag) (mg : Str → Option Value) (x : Str) (C : Addr) : Prop where
  g : mg x = some (.ref C)
  q : PySem.W.excIn K C He.veBase "ValueError.__new__" = true
  k : PySem.W.keepIn K (.ref C) = true
  s : PySem.W.subIn K (.ref C) (.type "BaseException") = some true
  t : PySem.W.typeIn K (.ref C) = some (.type "type")
theorem ds_raise {x m : Str} {C : Addr} {j : Nat} {p p2 pos' : Pos} (hc : X.calm = true) (tk : Takes X wx) (F : ExF X.K X.mg x C) (hg : Gl X x) (k : Ke ⟨C, [], []⟩) (hdb : (x == ("__debug__" : Str)) = false := by decide) :
    DS X W M wx δ (.Raise (some (.Call (.Name x p) [.Constant (.str m) j p2] [] pos')) none pos) O Ke := fun H0 N =>
  PS.imp (ps_raise hc tk (pmk_own PySem.F.excBase_ValueError F.q F.g F.k (raises_own F.s F.t) hg hdb)) fun Dn σ H ⟨env, n, b, c, r, x⟩ => x ⟨C, [], []⟩ (.ref C) none σ H env.xe ⟨rfl, .inl ⟨rfl, rfl, rfl⟩⟩ k

/-! ### lists of one's own -/
/-- an expression comes to a new list -/
def tF (K : PySem.W.Frag) (W : Wd) (M : List Addr) (wx : WX) (δ : De) (Kl : List D → Prop) (Ke : KX) : TE := fun σ H Q =>
  EnvOk K W M δ σ H ∧ (∀ p H1 xs l, Ext W H H1 → H1 p = none → RepL K W.dr (hide (hidA W M δ σ) H1) l xs → Kl l → Q (.ref p) (upd H1 p (.lst xs))) ∧
    ∀ x cls dd H', Ext W H H' → XOk K W.dr (hide (hidA W M δ σ) H') x cls dd → Ke x → wx cls dd σ H'
def DF (X : Cx) (W : Wd) (M : List Addr) (wx : WX) (δ : De) (e : Expr) (Kl : List D → Prop) (Ke : KX) : Prop := PE X e (tF X.K W M wx δ Kl Ke)
variable {Kl : List D → Prop}
theorem DF.run {σ : L2.St} {H : Hp} {Q : VK} (h : DF X W M wx δ e Kl Ke) (env : EnvOk X.K W M δ σ H) (q : ∀ p H1 xs l, Ext W H H1 → H1 p = none → RepL X.K W.dr (hide (hidA W M δ σ) H1) l xs → Kl l → Q (.ref p) (upd H1 p (.lst xs)))
    (qx : ∀ x cls dd H', Ext W H H' → XOk X.K W.dr (hide (hidA W M δ σ) H') x cls dd → Ke x → wx cls dd σ H') : tAny X e σ H Q := ⟨_, h, env, q, qx⟩
theorem df_lst {es : List Expr} (h : DA X W M wx δ es (fun ds => ds.length ≤ 16777216 ∧ Kl ds) Ke) : DF X W M wx δ (.List es pos) Kl Ke :=
  PE.imp (pe_lst pa_any) fun σ H Q ⟨env, q, qx⟩ => h.run env (fun vs H1 ds e1 r1 ⟨hl, k⟩ => ⟨by rw [← r1.length, sizeLine_eq]; exact hl, fun p hp => q p H1 vs ds e1 hp r1 k⟩) qx
theorem df_list {x : Expr} {p : Pos} (hg : Gl X "list") (hm : X.mg "list" = none) (h : DE X W M wx δ x (fun d => ∃ l, seqD d = some l ∧ Kl l) Ke) (he : starEach [x] X.env = (false, eval x X.env) :: starEach [] X.env := by rfl) : DF X W M wx δ (.Call (.Name "list" p) [x] [] pos) Kl Ke :=
  PE.imp (pe_callTy call_list_of hg hm (by decide +kernel) (pa_cons pe_any pa_nil he) (by decide) (by decide) he rfl) fun σ H Q ⟨env, q, qx⟩ => h.run env (fun v H1 d e1 r1 ⟨l, hl, k⟩ => by
    obtain ⟨a, xs, rfl, hs, h2⟩ := seq_rep r1 hl
    exact ⟨a, xs, rfl, hs, fun p hp => q p H1 xs l e1 hp h2 k⟩) qx
/-- own + e, a new list -/
theorem df_addOw (i : Nat) {x : Str} {p : Pos} {l : List D} {b : Expr} (hN : X.N[i]? = some x) (hv : Vis X.env.scope x) (hd : δ[i]? = some (.ow l)) (h : DE X W M wx δ b (fun d => ∃ m, d = .lst m ∧ l.length + m.length ≤ 16777216 ∧ Kl (l ++ m)) Ke)
    (hdb : (x == ("__debug__" : Str)) = false := by decide) (hcd : (x == ("__classdict__" : Str)) = false := by decide) : DF X W M wx δ (.BinOp (.Name x p) .Add b pos) Kl Ke :=
  PE.imp (pe_op op_cat (pe_var hN hv hdb hcd) pe_any) fun σ H Q ⟨env, q, qx⟩ => by
    obtain ⟨o, e1, a, xs, rfl, h2, h3⟩ := env.sl.get hd
    have hown : a ∈ ownA δ σ := by
      have go : ∀ (δ : De) (σ : L2.St) (i : Nat), δ[i]? = some (.ow l) → σ[i]? = some (some (.ref a)) → a ∈ ownA δ σ := by
        intro δ
        induction δ with
        | nil => intro σ i h; simp at h
        | cons s δ ih =>
          intro σ i hd hs
          cases σ with
          | nil => simp at hs
          | cons o σ =>
            refine ownA_cons.mpr ?_
            cases i with
            | zero =>
              simp at hd hs
              subst hd hs
              exact .inl (by simp [ownA])
            | succ i => exact .inr (ih σ i (by simpa using hd) (by simpa using hs))
      exact go δ σ i hd e1
    refine ⟨_, e1, h.run env (fun y H1 d ex r1 ⟨m, hm, hl, k⟩ => ?_) qx⟩
    subst hm
    obtain ⟨b', ys, rfl, h4, h5⟩ := r1
    have h2' := ex.keep a _ (env.dj a hown).1 h2 (fun _ z => by cases z)
    have h3' := h3.mono (env.amb.hid ex)
    exact ⟨a, b', xs, ys, rfl, rfl, h2', hide_lst h4, by rw [sizeLine_eq, ← h3'.length, ← h5.length]; exact hl, fun p hp => q p H1 _ _ ex hp (h3'.append h5) k⟩
theorem mem_own {l : List D} {a : Addr} : ∀ {δ : De} {σ : L2.St} {i : Nat}, δ[i]? = some (.ow l) → σ[i]? = some (some (.ref a)) → a ∈ ownA δ σ
  | [], σ, i, h, _ => by simp at h
  | s :: δ, [], i, _, h => by simp at h
  | s :: δ, o :: σ, 0, hd, hs => by
    simp at hd hs
    subst hd hs
    exact ownA_cons.mpr (.inl (by simp [ownA]))
  | s :: δ, o :: σ, i + 1, hd, hs => ownA_cons.mpr (.inr (mem_own (δ := δ) (σ := σ) (i := i) (by simpa using hd) (by simpa using hs)))
end
end Lay

/-! # DS8: a def by its body; keywords; own lists in statements -/
namespace Lay
open PySem PySem.Spec PyProof.Rows L2

/-- the slots at a def's entry -/
def st0 (N : List Str) (ds : List D) : De := ds.map Sl.im ++ List.replicate (N.length - ds.length) Sl.un
theorem ownA_im : ∀ (ds : List D) (σ : L2.St) (δ : De) (τ : L2.St), ds.length = σ.length → ownA δ τ = [] → ownA (ds.map Sl.im ++ δ) (σ ++ τ) = []
  | [], [], δ, τ, _, h => h
  | d :: ds, o :: σ, δ, τ, hl, h => ownA_im ds σ δ τ (by simpa using hl) h
  | [], _ :: _, _, _, hl, _ => by simp at hl
  | _ :: _, [], _, _, hl, _ => by simp at hl
theorem ownA_un : ∀ (n m : Nat), ownA (List.replicate n Sl.un) (List.replicate m none) = []
  | 0, m => by cases m <;> rfl
  | n + 1, 0 => rfl
  | n + 1, m + 1 => by rw [List.replicate_succ, List.replicate_succ]; exact ownA_un n m
theorem slots_un {K : PySem.W.Frag} {dr : Option Dr} {S : List Addr} {H : Hp} : ∀ n : Nat, SlotsOk K dr S H (List.replicate n Sl.un) (List.replicate n none)
  | 0 => trivial
  | n + 1 => ⟨trivial, slots_un n⟩
theorem slots_im {K : PySem.W.Frag} {dr : Option Dr} {S : List Addr} {H : Hp} {δ : De} {τ : L2.St} (h : SlotsOk K dr S H δ τ) : ∀ {ds : List D} {vs : List V}, RepL K dr (hide S H) ds vs → SlotsOk K dr S H (ds.map Sl.im ++ δ) (vs.map some ++ τ)
  | [], _, r => by cases r; exact h
  | d :: ds, _, r => by
    obtain ⟨v, vs, rfl, h1, h2⟩ := r
    exact ⟨⟨v, rfl, h1⟩, slots_im h h2⟩
def outM (W : Wd) (S : List Addr) : List Addr := S.filter fun a => decide (a ∉ W.rg)
theorem env_start {K : PySem.W.Frag} {W : Wd} {S : List Addr} {H : Hp} {ds : List D} {vs : List V} (N : List Str) (am : Amb W S H) (r : RepL K W.dr (hide S H) ds vs) : EnvOk K W (outM W S) (st0 N ds) (L2.start N vs) H ∧ (∀ a, a ∈ W.rg ++ outM W S ↔ a ∈ S) := by
  have hS : ∀ a, a ∈ W.rg ++ outM W S ↔ a ∈ S := fun a => by
    simp only [outM, List.mem_append, List.mem_filter, decide_eq_true_eq]
    constructor
    · rintro (h | ⟨h, _⟩)
      · exact am.rg a h
      · exact h
    · intro h
      by_cases c : a ∈ W.rg
      · exact .inl c
      · exact .inr ⟨h, c⟩
  have ho : ownA (st0 N ds) (L2.start N vs) = [] := ownA_im ds _ _ _ (by rw [List.length_map]; exact r.length) (by rw [r.length]; exact ownA_un _ _)
  refine ⟨⟨am.w, fun a ha => ?_, by rw [ho]; exact List.Pairwise.nil, fun a ha => by rw [ho] at ha; simp at ha, ?_⟩, hS⟩
  · simp only [outM, List.mem_filter, decide_eq_true_eq] at ha
    rcases am.tr a ha.1 with z | z
    · exact absurd z ha.2
    · exact ⟨ha.2, z⟩
  · have e : ExN (hide S H) (hide (hidA W (outM W S) (st0 N ds) (L2.start N vs)) H) := hide_more fun a ha => by
      rw [hidA, ho, List.append_nil] at ha
      exact (hS a).mp ha
    unfold st0 L2.start
    rw [r.length]
    have := slots_im (slots_un (K := K) (dr := W.dr) (S := hidA W (outM W S) (st0 N ds) (L2.start N vs)) (H := H) (N.length - vs.length)) (r.mono e)
    unfold st0 L2.start at this
    rw [r.length] at this
    exact this
/-- a def's context -/
abbrev FX (G : Pg) (N : List Str) (q : Str) (st : Stmt) (fa : Addr) (cdv : Value) (A : Around) (outer : List Env) (s : Shared) (H : Hp) (E : XK) : Cx := cxOf (L2.CX G.P G.w) G.P G.w G.K G.mg G.base N q (defScope st) fa cdv A outer s H E
abbrev wxE (E : XK) : WX := fun cls d _ H => E cls d H
theorem fn_ok {G : Pg} {q : Str} {st : Stmt} {fa : Addr} {fd : FuncData} {k : Nat} {N ps : List Str} {f : FS} {x : Str} (F : FunD G.K x q (defArgs st) (defBody st) (defScope st) [] [] fa fd) (S : FnScope N ps (defScope st))
    (body : ∀ (cdv : Value) (A : Around) (outer : List Env) (s : Shared) (H : Hp) (E : XK) (dr : Option Dr) (M : List Addr) (ds : List D) (Kp : KD) (Ke : KX), Takes (FX G N q st fa cdv A outer s H E) (wxE E) → PassesOwn (model G.P G.w) (FX G N q st fa cdv A outer s H E).A (FX G N q st fa cdv A outer s H E).env (FX G N q st fa cdv A outer s H E).xe →
      Room k (FX G N q st fa cdv A outer s H E).A → ds.length = ps.length → f ds Kp Ke → DSs (FX G N q st fa cdv A outer s H E) ⟨G.T, dr⟩ M (wxE E) (st0 N ds) (defBody st) { nx := fun _ => Kp .non, rt := Kp } Ke) :
    FnOk G.P G.w G.K G.mg G.base (L2.CX G.P G.w) (k + 1) fa fd ps (spD G.K G.T ps.length f) := by
  obtain ⟨oc, od, dV, kV, doc, pm, an, cdv0, ct, osl, e0, lk, hcd, _, _⟩ := F.ex
  subst e0
  refine fn_of lk hcd S (fun vs H Q E h => h.1) fun A outer s H vs Q E hr h => ?_
  obtain ⟨hl, W, S', ds, Kp, Ke, hT, am, r, hf, q1, qx⟩ := h
  obtain ⟨env, hS⟩ := env_start N am r
  obtain ⟨WT, dr⟩ := W
  have hT : WT = G.T := hT
  subst hT
  have b := body cdv0 A outer s H E dr (outM ⟨G.T, dr⟩ S') ds Kp Ke (takes_of rfl rfl rfl rfl) PassesOwn.leaving hr (by rw [r.length]; exact hl) hf H []
  refine ⟨_, b, ⟨env, fun b o _ _ e _ => e, fun a ha => ?_⟩, fun δ' σ' H' e k => ?_, fun _ _ _ _ z => z.elim, fun _ _ _ _ z => z.elim, fun v H' d xe rd k => ?_, fun y cls dd σ' H' xe rd k => ?_⟩
  · have ho : ownA (st0 N ds) (L2.start N vs) = [] := ownA_im ds _ _ _ (by rw [List.length_map]; exact r.length) (by rw [r.length]; exact ownA_un _ _)
    rw [ho] at ha; simp at ha
  · exact q1 .non H' .non ⟨fun b o hb h t => e.ext b o hb (by simp) h t, e.env.w⟩ rfl k
  · exact q1 v H' d ⟨fun b o hb h t => xe.ext b o hb (by simp) h t, xe.w⟩ (rd.mono (hide_more fun a ha => (hS a).mpr ha)) k
  · exact qx y cls dd H' ⟨fun b o hb h t => xe.ext b o hb (by simp) h t, xe.w⟩ (rd.mono (hide_more fun a ha => (hS a).mpr ha)) k
theorem Fn.of {G : Pg} {st : Stmt} {fa : Addr} {fd : FuncData} {k : Nat} {N ps : List Str} {f : FS} {x : Str} (F : FunD G.K x x (defArgs st) (defBody st) (defScope st) [] [] fa fd) (hm : G.mg x = some (.ref fa)) (S : FnScope N ps (defScope st))
    (hb : ∀ (kV doc pm : Value) (an : Option Addr) (cdv ct : Value) (us : List Value), us.length = ps.length → bindArgs (PySem.W.fnOf x x (defArgs st) (defBody st) (defScope st) .none kV doc pm an cdv ct) ⟨us, []⟩ = pure (ps.zip us))
    (body : ∀ (cdv : Value) (A : Around) (outer : List Env) (s : Shared) (H : Hp) (E : XK) (dr : Option Dr) (M : List Addr) (ds : List D) (Kp : KD) (Ke : KX), Takes (FX G N x st fa cdv A outer s H E) (wxE E) → PassesOwn (model G.P G.w) (FX G N x st fa cdv A outer s H E).A (FX G N x st fa cdv A outer s H E).env (FX G N x st fa cdv A outer s H E).xe →
      Room k (FX G N x st fa cdv A outer s H E).A → ds.length = ps.length → f ds Kp Ke → DSs (FX G N x st fa cdv A outer s H E) ⟨G.T, dr⟩ M (wxE E) (st0 N ds) (defBody st) { nx := fun _ => Kp .non, rt := Kp } Ke) : Fn G x (k + 1) ps f :=
  ⟨fa, fd, hm, F.kp, fn_ok F S body, F.bindsN hb⟩

/-- names that are still the built-in ones -/
structure Bt (mg : Str → Option Value) : Prop where
  isinstance : mg "isinstance" = none
  int : mg "int" = none
  bool : mg "bool" = none
  tuple : mg "tuple" = none
  list : mg "list" = none
  dict : mg "dict" = none
  str : mg "str" = none
  len : mg "len" = none
  all : mg "all" = none
  any : mg "any" = none
  abs : mg "abs" = none
  min : mg "min" = none
  max : mg "max" = none
  range : mg "range" = none
  zip : mg "zip" = none
  enumerate : mg "enumerate" = none
  set : mg "set" = none
  sorted : mg "sorted" = none
  repr : mg "repr" = none
  sum : mg "sum" = none
  reversed : mg "reversed" = none

/-! ### own lists in statements -/
section
variable {X : Cx} {W : Wd} {M : List Addr} {wx : WX} {δ : De} {tg iter e c : Expr} {body : List Stmt} {O : Out} {Ke : KX} {Kp : KD} {Kb : Bool → Prop} {pos : Pos}
theorem own_at {K : PySem.W.Frag} {σ : L2.St} {H : Hp} {i : Nat} {l : List D} (h : EnvOk K W M δ σ H) (hd : δ[i]? = some (.ow l)) : ∃ a xs, σ[i]? = some (some (.ref a)) ∧ a ∈ ownA δ σ ∧ H a = some (.lst xs) ∧ RepL K W.dr (hide (hidA W M δ σ) H) l xs := by
  obtain ⟨o, e1, a, xs, rfl, h2, h3⟩ := h.sl.get hd
  exact ⟨a, xs, e1, mem_own (l := l) hd e1, h2, h3⟩
theorem ownA_setOw : ∀ {δ : De} {σ : L2.St} {i : Nat} {l m : List D}, δ[i]? = some (.ow l) → ownA (δ.set i (.ow m)) σ = ownA δ σ
  | [], σ, i, l, m, h => by simp at h
  | s :: δ, [], i, l, m, h => by
    cases i <;> (cases s <;> simp [ownA])
  | s :: δ, o :: σ, 0, l, m, h => by
    simp at h
    subst h
    show ownA (.ow m :: δ) (o :: σ) = ownA (.ow l :: δ) (o :: σ)
    cases o with
    | none => simp [ownA]
    | some v => cases v <;> simp [ownA]
  | s :: δ, o :: σ, i + 1, l, m, h => by
    show ownA (s :: δ.set i (.ow m)) (o :: σ) = ownA (s :: δ) (o :: σ)
    rw [ownA_eq (s := s) (o := o) (δ := δ.set i (.ow m)), ownA_eq (s := s) (o := o) (δ := δ), ownA_setOw (by simpa using h)]
theorem slots_write {K : PySem.W.Frag} {dr : Option Dr} {S : List Addr} {H : Hp} {a : Addr} {ys : List V} {m : List D} (ha : a ∈ S) (r : RepL K dr (hide S H) m ys) : ∀ {δ : De} {σ : L2.St} {i : Nat} {l : List D}, (ownA δ σ).Nodup → δ[i]? = some (.ow l) → σ[i]? = some (some (.ref a)) → SlotsOk K dr S H δ σ →
    SlotsOk K dr S (upd H a (.lst ys)) (δ.set i (.ow m)) σ := by
  have hide_upd : hide S (upd H a (.lst ys)) = hide S H := by
    funext b
    unfold hide
    by_cases c : b ∈ S
    · rw [if_pos c, if_pos c]
    · rw [if_neg c, if_neg c, upd_ne (fun z => c (by rw [z]; exact ha))]
  have other : ∀ {δ : De} {σ : L2.St}, a ∉ ownA δ σ → SlotsOk K dr S H δ σ → SlotsOk K dr S (upd H a (.lst ys)) δ σ := fun {δ σ} hn h => h.stay (by rw [hide_upd]; exact LamX.ExtN.refl _) fun b u hb e _ => by
    rw [upd_ne (fun z => hn (by rw [← z]; exact hb))]
    exact e
  intro δ
  induction δ with
  | nil => intro σ i l _ h; simp at h
  | cons s δ ih =>
    intro σ i l nd hd hs h
    cases σ with
    | nil => exact h.elim
    | cons o σ =>
      rw [ownA_eq] at nd
      obtain ⟨n1, n2, n3⟩ := List.nodup_append.mp nd
      cases i with
      | zero =>
        simp at hd hs
        subst hd hs
        refine ⟨⟨a, ys, rfl, upd_same, by rw [hide_upd]; exact r⟩, other (fun z => ?_) h.2⟩
        exact n3 a (by simp [ownA]) a z rfl
      | succ i =>
        have hd' : δ[i]? = some (.ow l) := by simpa using hd
        have hs' : σ[i]? = some (some (.ref a)) := by simpa using hs
        refine ⟨?_, ih n2 hd' hs' h.2⟩
        have hn : a ∉ ownA [s] [o] := fun z => n3 a z a (mem_own (l := l) hd' hs') rfl
        exact (other (δ := [s]) (σ := [o]) hn ⟨h.1, trivial⟩).1
/-- an own list is changed -/
theorem SEnv.write {F : Fr} {K : PySem.W.Frag} {δ : De} {σ : L2.St} {H : Hp} {i : Nat} {l m : List D} {a : Addr} {xs ys : List V} (h : SEnv K F δ σ H) (hd : δ[i]? = some (.ow l)) (hs : σ[i]? = some (some (.ref a))) (ha : H a = some (.lst xs)) (r : RepL K F.W.dr (hide (hidA F.W F.M δ σ) H) m ys) :
    SEnv K F (δ.set i (.ow m)) σ (upd H a (.lst ys)) := by
  have hown := mem_own (l := l) hd hs
  have hdj := h.env.dj a hown
  have e := ownA_setOw (σ := σ) (m := m) hd
  have e2 : hidA F.W F.M (δ.set i (.ow m)) σ = hidA F.W F.M δ σ := by rw [hidA, hidA, e]
  refine ⟨⟨h.env.w.write ha trivial (fun φ z => by cases z) hdj.1, fun b hb => ?_, by rw [e]; exact h.env.nd, by rw [e]; exact h.env.dj, ?_⟩, fun b o h1 h2 h3 t => ?_, by rw [e]; exact h.own⟩
  · obtain ⟨h1, o, h2, h3⟩ := h.env.m b hb
    refine ⟨h1, o, ?_, h3⟩
    rw [upd_ne (fun z => hdj.2 (by rw [← z]; exact hb))]
    exact h2
  · rw [e2]
    exact slots_write (by simp [hidA, hown]) r h.env.nd hd hs h.env.sl
  · rw [upd_ne (fun z => ?_)]
    · exact h.ext b o h1 h2 h3 t
    · rw [z] at h2 h3
      rcases h.own a hown with q | q | ⟨ps, q⟩
      · exact h2 q
      · rw [q] at h3; cases h3
      · rw [q] at h3; exact t ps (Option.some.inj h3).symm
theorem hide_write {S : List Addr} {H : Hp} {a : Addr} {o : HO} (h : a ∈ S) : hide S (upd H a o) = hide S H := by
  funext b
  unfold hide
  by_cases c : b ∈ S
  · rw [if_pos c, if_pos c]
  · rw [if_neg c, if_neg c, upd_ne (fun z => c (by rw [z]; exact h))]
/-- xs.append(e) -/
theorem ds_append (i : Nat) {x : Str} {l : List D} {p1 p2 : Pos} (hN : X.N[i]? = some x) (hv : Vis X.env.scope x) (hd : δ[i]? = some (.ow l)) (hl : l.length < 16777216) (h : DE X W M wx δ e (fun d => O.nx (δ.set i (.ow (l ++ [d])))) Ke)
    (hs : swapsWith (.Call (.Attribute (.Name x p1) "append" p2) [e] [] pos) none pos.line X.env = pure false := by rfl) (hline : (p2.endLine == pos.line) = true := by rfl) (hse : starEach [e] X.env = (false, eval e X.env) :: starEach [] X.env := by rfl)
    (hdb : (x == ("__debug__" : Str)) = false := by decide) (hcd : (x == ("__classdict__" : Str)) = false := by decide) (hbase : attributeBase (.Name x p1) "append" X.env (eval (.Name x p1) X.env) = eval (.Name x p1) X.env := by rfl)
    (hfew : ((backTo pos (starEach [e] X.env)).all (fun x => !x.1) && (backToKw pos (keywordEach [] X.env)).all (fun x => x.1.isSome) && decide (([e] : List Expr).length + ([] : List Keyword).length + (if ([] : List Keyword).isEmpty then 0 else 1) < 30)) = true := by rfl) (hpl : (backTo pos (starEach [] X.env)).any (·.1) = false := by rfl) :
    DS X W M wx δ (.Expr (.Call (.Attribute (.Name x p1) "append" p2) [e] [] pos) pos) O Ke := fun H0 N =>
  PS.imp (ps_expr (pe_bm PySem.F.plainAttrs_list PySem.F.slot_list_append PySem.F.type_list_append mt_append (pe_var hN hv hdb hcd) (pa_cons pe_any pa_nil hse) hbase hfew hline hse hpl) hs) fun Dn σ H ⟨env, n, b, c, r, x⟩ => by
    obtain ⟨a, xs, e1, hown, h2, h3⟩ := own_at env.env hd
    refine ⟨_, e1, .inl ⟨rfl, xs, SqL.of h2⟩, ex_run h env (fun v H' d env' ex r1 k => ?_) x⟩
    obtain ⟨a', xs', e1', hown', h2', h3'⟩ := own_at env'.env hd
    rw [e1] at e1'
    cases e1'
    exact ⟨a, xs', v, rfl, rfl, h2', by rw [← h3'.length, sizeLine_eq]; exact hl, n _ _ _ (env'.write hd e1 h2' (h3'.append (.cons r1 .nil))) k⟩
end
end Lay

/-! # DS9: the built-in names, once -/
namespace Lay
open PySem PySem.Spec PyProof.Rows L2


theorem brT {P Q : Prop} {b : Bool} (hb : b = true) (h : P) : (b = true → P) ∧ (b = false → Q) := ⟨fun _ => h, fun e => (by rw [hb] at e; cases e)⟩
theorem brF {P Q : Prop} {b : Bool} (hb : b = false) (h : Q) : (b = true → P) ∧ (b = false → Q) := ⟨fun e => (by rw [hb] at e; cases e), fun _ => h⟩
theorem takes_wx0 {X : Cx} : Takes X wx0 := fun _ _ ⟨_, _, _, _, _, _, _, _, _, _, _, _, _, _, _, _, w⟩ => w.elim
theorem bb_int : bootBuiltins "int" = some (.type "int") := by decide +kernel
theorem bb_bool : bootBuiltins "bool" = some (.type "bool") := by decide +kernel
theorem bb_tuple : bootBuiltins "tuple" = some (.type "tuple") := by decide +kernel
theorem bb_list : bootBuiltins "list" = some (.type "list") := by decide +kernel
theorem bb_dict : bootBuiltins "dict" = some (.type "dict") := by decide +kernel
theorem bb_str : bootBuiltins "str" = some (.type "str") := by decide +kernel
theorem bb_len : bootBuiltins "len" = some (.builtin "len") := by decide +kernel
theorem bb_abs : bootBuiltins "abs" = some (.builtin "abs") := by decide +kernel
theorem bb_all : bootBuiltins "all" = some (.builtin "all") := by decide +kernel
theorem bb_min : bootBuiltins "min" = some (.builtin "min") := by decide +kernel
theorem bb_max : bootBuiltins "max" = some (.builtin "max") := by decide +kernel
theorem ty_int : ("int" : String) ∈ tys := by decide +kernel
theorem ty_bool : ("bool" : String) ∈ tys := by decide +kernel
theorem ty_tuple : ("tuple" : String) ∈ tys := by decide +kernel
theorem ty_list : ("list" : String) ∈ tys := by decide +kernel
theorem ty_dict : ("dict" : String) ∈ tys := by decide +kernel
theorem ty_str : ("str" : String) ∈ tys := by decide +kernel



/-- a number of the top -/
def GInt (mg : Str → Option Value) (x : Str) (n : Int) : Prop := ∃ t, mg x = some (.int n t)
theorem dx_gint {X : Cx} {W : Wd} {M : List Addr} {wx : WX} {δ : De} {x : Str} {n : Int} {Kp : KD} {Ke : KX} {pos : Pos} (hg : Gl X x) (hm : GInt X.mg x n) (k : Kp (.int n)) (hdb : (x == ("__debug__" : Str)) = false := by decide) : DE X W M wx δ (.Name x pos) Kp Ke :=
  let ⟨t, h⟩ := hm; dx_glob (v := .int n) (d := .int n) hg h ⟨t, rfl⟩ (fun _ => rfl) (fun _ _ h => h) k hdb
section
variable {X : Cx} {W : Wd} {M : List Addr} {δ : De} {scope : Scope} {elt c : Expr} {vs : List Nat} {t : Tg} {ds : List D} {Kl : List D → Prop}
/-- a comprehension that maps -/
theorem lc_map (f : D → D) (hl : ds.length ≤ 16777216) (ht : ∀ d ∈ ds, t.fits d) (hb : ∀ d ∈ ds, ∀ A s H C cl fp, DE (BX X scope s H C cl fp) W (A :: M) wx0 (t.put d (wipeD δ vs)) elt (fun y => y = f d) kx0) (hk : Kl (ds.map f)) :
    ds.length ≤ 16777216 ∧ ∃ R : D → Option D → Prop, (∀ d ∈ ds, LcB X W M δ scope vs t elt R d) ∧ ∀ l, Coll R ds l → Kl l :=
  ⟨hl, fun d y => y = some (f d), fun d hd => ⟨ht d hd, fun A s H C cl fp => (hb d hd A s H C cl fp).weak (fun _ e => by rw [e])⟩, fun l h => by rw [coll_map h fun d _ y e => e]; exact hk⟩
/-- a comprehension that maps and leaves out -/
theorem lc_filter (f : D → Option D) (hl : ds.length ≤ 16777216) (ht : ∀ d ∈ ds, t.fits d)
    (hb : ∀ d ∈ ds, ∀ A s H C cl fp, DT (BX X scope s H C cl fp) W (A :: M) wx0 (t.put d (wipeD δ vs)) c (fun b => (b = true → ∀ s H C cl fp, DE (BX X scope s H C cl fp) W (A :: M) wx0 (t.put d (wipeD δ vs)) elt (fun y => f d = some y) kx0) ∧ (b = false → f d = none)) kx0) (hk : Kl (ds.filterMap f)) :
    ds.length ≤ 16777216 ∧ ∃ R : D → Option D → Prop, (∀ d ∈ ds, LcC X W M δ scope vs t elt c R d) ∧ ∀ l, Coll R ds l → Kl l :=
  ⟨hl, fun d y => f d = y, fun d hd => ⟨ht d hd, fun A s H C cl fp => (hb d hd A s H C cl fp)⟩, fun l h => by rw [coll_filter h fun d _ y e => e.symm]; exact hk⟩
end

end Lay

/-! # DS10: data that can be compared -/
namespace Lay
open PySem PySem.Spec PyProof.Rows L2
mutual
/-- None, bool, int, str, and tuples and lists of these, at most n deep -/
def okd : Nat → D → Bool
  | _, .non => true
  | _, .bl _ => true
  | _, .int _ => true
  | _, .str x => PyData.canLay0 (.str x)
  | n + 1, .tup l => okdL n l
  | n + 1, .lst l => okdL n l
  | _, _ => false
def okdL : Nat → List D → Bool
  | _, [] => true
  | n, d :: ds => okd n d && okdL n ds
end
mutual
theorem okd_py : ∀ (n : Nat) (d : D), okd n d = true → ∃ p, py d = some p ∧ p.canLay0 = true ∧ p.depth ≤ n
  | n, .non, _ => ⟨_, rfl, rfl, by simp [PyData.depth]⟩
  | n, .bl _, _ => ⟨_, rfl, rfl, by simp [PyData.depth]⟩
  | n, .int _, _ => ⟨_, rfl, rfl, by simp [PyData.depth]⟩
  | n, .str x, h => ⟨_, rfl, by cases n <;> exact h, by simp [PyData.depth]⟩
  | 0, .tup l, h => by cases h
  | 0, .lst l, h => by cases h
  | n + 1, .tup l, h => by
    obtain ⟨ps, h1, h2, h3⟩ := okdL_py n l h
    refine ⟨.tuple ps, by simp [py, h1], by simpa [PyData.canLay0] using h2, ?_⟩
    simp only [PyData.depth]; omega
  | n + 1, .lst l, h => by
    obtain ⟨ps, h1, h2, h3⟩ := okdL_py n l h
    refine ⟨.list ps, by simp [py, h1], by simpa [PyData.canLay0] using h2, ?_⟩
    simp only [PyData.depth]; omega
  | 0, .dic _ _, h => by cases h
  | 0, .ins _ _ _, h => by cases h
  | 0, .exc _ _ _, h => by cases h
  | 0, .drw, h => by cases h
  | 0, .frz _, h => by cases h
  | n + 1, .dic _ _, h => by cases h
  | n + 1, .ins _ _ _, h => by cases h
  | n + 1, .exc _ _ _, h => by cases h
  | n + 1, .drw, h => by cases h
  | n + 1, .frz _, h => by cases h
theorem okdL_py : ∀ (n : Nat) (l : List D), okdL n l = true → ∃ ps, pyL l = some ps ∧ PyData.canLayAll0 ps = true ∧ PyData.depthAll ps ≤ n
  | n, [], _ => ⟨[], rfl, by simp [PyData.canLayAll0], by simp [PyData.depthAll]⟩
  | n, d :: l, h => by
    simp only [okdL, Bool.and_eq_true] at h
    obtain ⟨p, a1, a2, a3⟩ := okd_py n d h.1
    obtain ⟨ps, b1, b2, b3⟩ := okdL_py n l h.2
    refine ⟨p :: ps, by simp [pyL, a1, b1], by simp [PyData.canLayAll0, a2, b2], ?_⟩
    simp only [PyData.depthAll]; omega
end
theorem okd_dok {d : D} (h : okd 64 d = true) : dok d = true := by
  obtain ⟨p, a1, a2, a3⟩ := okd_py 64 d h
  unfold dok
  rw [a1]
  simp [SeqAt.shaped, a2, a3]
theorem okdL_iff {n : Nat} : ∀ {l : List D}, okdL n l = true ↔ ∀ d ∈ l, okd n d = true
  | [] => by simp [okdL]
  | d :: l => by simp only [okdL, Bool.and_eq_true, okdL_iff (l := l), List.forall_mem_cons]
theorem okd_lst {n : Nat} {l : List D} : okd (n + 1) (.lst l) = true ↔ ∀ d ∈ l, okd n d = true := okdL_iff
theorem okd_tup {n : Nat} {l : List D} : okd (n + 1) (.tup l) = true ↔ ∀ d ∈ l, okd n d = true := okdL_iff
mutual
theorem okd_mono : ∀ {n m : Nat} {d : D}, okd n d = true → n ≤ m → okd m d = true
  | n, m, .non, h, _ => by cases m <;> rfl
  | n, m, .bl _, h, _ => by cases m <;> rfl
  | n, m, .int _, h, _ => by cases m <;> rfl
  | n, m, .str x, h, _ => by
    cases n <;> cases m <;> exact h
  | 0, m, .tup l, h, _ => by cases h
  | 0, m, .lst l, h, _ => by cases h
  | n + 1, 0, .tup l, h, g => by omega
  | n + 1, 0, .lst l, h, g => by omega
  | n + 1, m + 1, .tup l, h, g => okdL_mono (n := n) (m := m) (l := l) h (by omega)
  | n + 1, m + 1, .lst l, h, g => okdL_mono (n := n) (m := m) (l := l) h (by omega)
  | 0, _, .dic _ _, h, _ => by cases h
  | 0, _, .ins _ _ _, h, _ => by cases h
  | 0, _, .exc _ _ _, h, _ => by cases h
  | 0, _, .drw, h, _ => by cases h
  | 0, _, .frz _, h, _ => by cases h
  | n + 1, _, .dic _ _, h, _ => by cases h
  | n + 1, _, .ins _ _ _, h, _ => by cases h
  | n + 1, _, .exc _ _ _, h, _ => by cases h
  | n + 1, _, .drw, h, _ => by cases h
  | n + 1, _, .frz _, h, _ => by cases h
theorem okdL_mono : ∀ {n m : Nat} {l : List D}, okdL n l = true → n ≤ m → okdL m l = true
  | n, m, [], _, _ => rfl
  | n, m, d :: l, h, g => by
    simp only [okdL, Bool.and_eq_true] at h ⊢
    exact ⟨okd_mono h.1 g, okdL_mono h.2 g⟩
end
/-- l is the empty list -/
theorem deq_nil {l : List D} (h : okd 64 (.lst l) = true) : deq (.lst l) (.lst []) = l.isEmpty := by
  obtain ⟨p, a1, a2, a3⟩ := okd_py 64 _ h
  unfold deq
  rw [a1]
  cases l with
  | nil => simp [py, pyL] at a1; subst a1; simp [py, pyL, PyData.eqv, PyData.eqvAll]
  | cons d l =>
    obtain ⟨ps, h1, h2, h3⟩ := okdL_py 63 (d :: l) h
    simp only [py, h1] at a1
    cases a1
    simp only [pyL] at h1
    split at h1
    · cases h1
      simp [py, pyL, PyData.eqv, PyData.eqvAll]
    · cases h1
theorem gNe_nil {l : List D} {k : KD} (h : okd 64 (.lst l) = true) (q : k (.bl (!l.isEmpty))) : gNe (.lst l) (.lst []) k := ⟨okd_dok h, by decide +kernel, by rw [deq_nil h]; exact q⟩
theorem gEq_nil {l : List D} {k : KD} (h : okd 64 (.lst l) = true) (q : k (.bl l.isEmpty)) : gEq (.lst l) (.lst []) k := ⟨okd_dok h, by decide +kernel, by rw [deq_nil h]; exact q⟩
end Lay

/-! # DS11: keywords, fields, properties, instances -/
namespace Lay
open PySem PySem.Spec PyProof.Rows L2

/-! ### keyword arguments -/
theorem PK.imp {X : Cx} {kws : List Keyword} {t t' : TA} (h : PK X kws t) (k : ∀ σ H Q, t' σ H Q → t σ H Q) : PK X kws t' := ⟨fun pos pins s σ H Q I q => h.run pos pins s σ H Q I (k σ H Q q)⟩
def tkAny (X : Cx) (kws : List Keyword) : TA := fun σ H Q => ∃ t, PK X kws t ∧ t σ H Q
theorem pk_any {X : Cx} {kws : List Keyword} : PK X kws (tkAny X kws) := ⟨fun pos pins s σ H Q I ⟨_, h, q⟩ => h.run pos pins s σ H Q I q⟩
def DK (X : Cx) (W : Wd) (M : List Addr) (wx : WX) (δ : De) (kws : List Keyword) (Kl : List D → Prop) (Ke : KX) : Prop := PK X kws (tA X.K W M wx δ Kl Ke)
section
variable {X : Cx} {W : Wd} {M : List Addr} {wx : WX} {δ : De} {e o : Expr} {es : List Expr} {kws : List Keyword} {Kp : KD} {Kl : List D → Prop} {Ke : KX} {pos p p1 p2 kpos : Pos} {x : Str} {f : FS} {k : Nat} {ps ks : List Str} {nm : Option Str} {st : Stmt}
theorem DK.run {σ : L2.St} {H : Hp} {Q : List V → Hp → Prop} (h : DK X W M wx δ kws Kl Ke) (env : EnvOk X.K W M δ σ H) (q : ∀ vs H' ds, Ext W H H' → RepL X.K W.dr (hide (hidA W M δ σ) H') ds vs → Kl ds → Q vs H')
    (qx : ∀ x cls dd H', Ext W H H' → XOk X.K W.dr (hide (hidA W M δ σ) H') x cls dd → Ke x → wx cls dd σ H') : tkAny X kws σ H Q := ⟨_, h, env, q, qx⟩
theorem dk_nil (k : Kl []) : DK X W M wx δ [] Kl Ke := PK.imp pk_nil fun σ H Q ⟨env, q, qx⟩ => q [] H [] (Ext.refl env.w) .nil k
theorem dk_cons (h : DE X W M wx δ e (fun d => DK X W M wx δ kws (fun ds => Kl (d :: ds)) Ke) Ke) : DK X W M wx δ (⟨nm, e, kpos⟩ :: kws) Kl Ke :=
  PK.imp (pk_cons pe_any pk_any) fun σ H Q ⟨env, q, qx⟩ => h.run env (fun x H1 d1 e1 r1 ha =>
    ha.run (env.ext e1) (fun vs H2 ds e2 r2 k => q (x :: vs) H2 (d1 :: ds) (e1.trans e2) (.cons (r1.mono ((env.ext e1).amb.hid e2)) r2) k) fun x cls dd H' e => qx x cls dd H' (e1.trans e)) qx
/-- a def by its name and its text -/
def FnD (G : Pg) (x : Str) (st : Stmt) (k : Nat) (ps : List Str) (f : FS) : Prop := ∃ fa fd, G.mg x = some (.ref fa) ∧ FunD G.K x x (defArgs st) (defBody st) (defScope st) [] [] fa fd ∧ FnOk G.P G.w G.K G.mg G.base (L2.CX G.P G.w) k fa fd ps (spD G.K G.T ps.length f)
theorem FnD.fn {G : Pg} (F : FnD G x st k ps f) (hb : ∀ (kV doc pm : Value) (an : Option Addr) (cdv ct : Value) (us : List Value), us.length = ps.length → bindArgs (PySem.W.fnOf x x (defArgs st) (defBody st) (defScope st) .none kV doc pm an cdv ct) ⟨us, []⟩ = pure (ps.zip us)) : Fn G x k ps f := by
  obtain ⟨fa, fd, a, b, c⟩ := F
  exact ⟨fa, fd, a, b.kp, c, b.bindsN hb⟩
theorem FnD.mono {G : Pg} {j : Nat} (F : FnD G x st j ps f) (h : j ≤ k) : FnD G x st k ps f := by
  obtain ⟨fa, fd, a, b, c⟩ := F
  exact ⟨fa, fd, a, b, c.mono h⟩
theorem vals_rev {vs : List V} {us : List Value} (h : Vals vs us) : Vals vs.reverse us.reverse := by
  induction h with
  | nil => exact .nil
  | cons r _ ih =>
    rw [List.reverse_cons, List.reverse_cons]
    exact ih.append (.cons r .nil)
theorem run_fnP {CX : CXT} {fd : FuncData} {fa : Addr} {sp : Sp} {E : XK} {n : Nat} {g : List Value → List Value → List Value} {gV : List V → List V → List V} {pins : List (Addr × Obj)} {σ : L2.St} {H : Hp} {s : Shared} {Q : VK} {us ws : List Value} {vs zs : List V} (F : FnOk X.prog X.w X.K X.mg X.base CX k fa fd ps sp) (hr : Room k X.A)
    (hb : KBn X.K fd ps n ks g gV) (hx : PassesAt CX X σ E) (I : L2.Inv X pins σ H s) (r : Vals vs us) (rz : Vals zs ws) (l1 : vs.length = n) (l2 : zs.length = ks.length) (h : sp (gV vs zs) H Q E) : wpAny (model X.prog X.w) X.A (call (.ref fa) us (ks.zip ws)) (EP X pins σ Q) X.xe s :=
  wpAny_call (codeAny_mono (F.run X.A X.stack s H ⟨us, ks.zip ws⟩ (g us ws) (gV vs zs) Q E hr I.env0 (hb.to s us ws I.kIn (r.length.symm.trans l1) (rz.length.symm.trans l2)) (hb.rel r rz) h) fun r s' hq => match r, hq with
    | .error e, hq => hx pins H s e s' I hq
    | .ok (.ret u), hq => I.after hq
    | .ok .next, hq => False.elim hq
    | .ok .brk, hq => False.elim hq
    | .ok .cont, hq => False.elim hq)
theorem pe_callN0 {CX : CXT} {fd : FuncData} {fa : Addr} {sp : Sp} {E : L2.St → XK} {tk : TA} {g : List Value → List Value → List Value} {gV : List V → List V → List V} (F : FnOk X.prog X.w X.K X.mg X.base CX k fa fd ps sp) (hr : Room k X.A) (hg : Gl X x) (hm : X.mg x = some (.ref fa)) (hk : PySem.W.keepIn X.K (.ref fa) = true)
    (hb : KBn X.K fd ps 0 ks g gV) (hx : ∀ σ, PassesAt CX X σ (E σ)) (hkw : PK X kws tk) (hall : (backToKw pos (keywordEach kws X.env)).all (·.1.isSome) = true) (hks : (backToKw pos (keywordEach kws X.env)).filterMap (·.1) = ks) (hdb : (x == ("__debug__" : Str)) = false)
    (hpl : ((backTo pos (starEach [] X.env)).any (·.1) || (backToKw pos (keywordEach kws X.env)).any (·.1.isNone)) = false) : PE X (.Call (.Name x p) [] kws pos) (fun σ H Q => tk σ H fun zs H2 => zs.length = ks.length ∧ sp (gV [] zs) H2 Q (E σ)) := by
  refine ⟨fun pins s σ H Q I h => wpAny_Call_Name_kw (ld_glob I hg hm ?_ hdb)⟩
  refine PySem.W.callWith_KW0 (h₀ := X.base) I.ok.mod.kin hk hall (thn (hkw.run pos pins s σ H _ I h) fun ws s2 ⟨zs, H2, I2, rz, l2, q2⟩ => ⟨I2.kIn, ?_⟩) hpl
  rw [hks]
  exact run_fnP (us := []) (vs := []) F hr hb (hx σ) I2 .nil rz rfl l2 q2
/-- f(k = v, ..), the parameters from the last to the first -/
theorem dx_callR (F : FnD (Cx.pg X W.T) x st k ps f) (hr : Room k X.A) (tk : Takes X wx) (hg : Gl X x) (ks : List Str) (hks : (backToKw pos (keywordEach kws X.env)).filterMap (·.1) = ks) (hl : ks.length = ps.length)
    (hb : ∀ (kV doc pm : Value) (an : Option Addr) (cdv ct : Value) (ws : List Value), ws.length = ks.length → bindArgs (PySem.W.fnOf x x (defArgs st) (defBody st) (defScope st) .none kV doc pm an cdv ct) ⟨[], ks.zip ws⟩ = pure (ps.zip ws.reverse))
    (h : DK X W M wx δ kws (fun ds => ds.length = ps.length ∧ f ds.reverse Kp Ke) Ke) (hall : (backToKw pos (keywordEach kws X.env)).all (·.1.isSome) = true := by rfl) (hdb : (x == ("__debug__" : Str)) = false := by decide)
    (hpl : ((backTo pos (starEach [] X.env)).any (·.1) || (backToKw pos (keywordEach kws X.env)).any (·.1.isNone)) = false := by rfl) : DE X W M wx δ (.Call (.Name x p) [] kws pos) Kp Ke := by
  obtain ⟨fa, fd, hm, F, FO⟩ := F
  have hB : KBn X.K fd ps 0 ks (fun _ ws => ws.reverse) (fun _ zs => zs.reverse) := by
    obtain ⟨oc, od, dV, kV, doc, pm, an, cdv, ct, osl, rfl, lk, hcd, hD, hK⟩ := F.ex
    rcases hD with ⟨_, rfl⟩ | ⟨e, _⟩
    · exact ⟨fun s us ws _ l1 l2 => by
        cases us with
        | nil => exact .of_eq (hb kV doc pm an cdv ct ws l2)
        | cons _ _ => simp at l1, fun _ r => vals_rev r⟩
    · exact absurd rfl e
  refine PE.imp (pe_callN0 FO hr hg hm F.kp hB (fun σ => passAt tk σ) pk_any hall hks hdb hpl) fun σ H Q ⟨env, q, qx⟩ => ?_
  exact h.run env (fun vs H1 ds e1 r1 ⟨hl2, hf⟩ => ⟨by rw [← r1.length, hl2, hl], sp_of (by rw [List.length_reverse]; exact hl2) env q qx e1 r1.reverse hf⟩) qx

/-! ### fields -/
theorem look_rep {K : PySem.W.Frag} {dr : Option Dr} {H : Hp} {f : Str} : ∀ {fs : List Str} {ds : List D} {xs : List V} {d : D}, RepL K dr H ds xs → (fs.zip ds).lookup f = some d → ∃ v, (fs.zip xs).lookup f = some v ∧ Rep K dr H d v
  | [], _, _, _, _, h => by simp at h
  | g :: fs, [], _, _, _, h => by simp at h
  | g :: fs, d' :: ds, _, d, r, h => by
    obtain ⟨v, xs, rfl, r1, r2⟩ := r
    rw [List.zip_cons_cons, List.lookup_cons] at h ⊢
    by_cases c : (f == g) = true
    · rw [c] at h ⊢
      cases h
      exact ⟨v, rfl, r1⟩
    · rw [show (f == g) = false by simpa using c] at h ⊢
      exact look_rep r2 h
/-- o.f -/
theorem dx_fld {a : Str} (h : DE X W M wx δ o (fun d => ∃ C fs ds v, d = .ins C fs ds ∧ Cls X.K C ∧ NoAttr X.K C a ∧ (fs.zip ds).lookup a = some v ∧ Kp v) Ke) (hb : attributeBase o a X.env (eval o X.env) = eval o X.env := by rfl) : DE X W M wx δ (.Attribute o a pos) Kp Ke :=
  PE.imp (pe_fld pe_any hb) fun σ H Q ⟨env, q, qx⟩ => h.run env (fun x H1 d1 e1 r1 ⟨C, fs, ds, v, hd, c, n, l, k⟩ => by
    subst hd
    obtain ⟨p, dx, xs, rfl, h1, h2, h3⟩ := r1
    obtain ⟨u, l2, r2⟩ := look_rep h3 l
    exact ⟨p, C, dx, _, u, rfl, (hide_some h1).2, c, n, l2, q u H1 v e1 r2 k⟩) qx
/-- a def at an address -/
def FnA (G : Pg) (fa : Addr) (k : Nat) (ps : List Str) (f : FS) : Prop := ∃ fd, FnOk G.P G.w G.K G.mg G.base (L2.CX G.P G.w) k fa fd ps (spD G.K G.T ps.length f) ∧ Binds G.K fd ps []
theorem FnA.mono {G : Pg} {fa : Addr} {j : Nat} (F : FnA G fa j ps f) (h : j ≤ k) : FnA G fa k ps f := by
  obtain ⟨fd, a, b⟩ := F
  exact ⟨fd, a.mono h, b⟩
/-- o.f, a property -/
theorem dx_prop {C pp g : Addr} {a ps0 : Str} (c : Cls X.K C) (hp : PropOf X.K C a pp g) (F : FnA (Cx.pg X W.T) g k [ps0] f) (hr : Room (k + 1) X.A) (h : DE X W M wx δ o (fun d => (∃ fs ds, d = .ins C fs ds) ∧ f [d] Kp (fun _ => False)) Ke) (hb : attributeBase o a X.env (eval o X.env) = eval o X.env := by rfl) :
    DE X W M wx δ (.Attribute o a pos) Kp Ke := by
  obtain ⟨fd, FO, hB⟩ := F
  refine PE.imp (pe_prop (E := fun _ _ _ => False) pe_any c hp FO hr hB .nil (fun pins σ H s e s' I c => passAt (X := X.nox) takes_wx0 σ pins H s e s' I c) hb) fun σ H Q ⟨env, q, qx⟩ => h.run env (fun x H1 d1 e1 r1 ⟨⟨fs, ds, hd⟩, hf⟩ => ?_) qx
  subst hd
  have r1' := r1
  obtain ⟨p, dx, xs, rfl, h1, h2, h3⟩ := r1
  refine ⟨p, dx, _, rfl, (hide_some h1).2, ?_⟩
  refine ⟨rfl, W, hidA W M δ σ, [.ins C fs ds], Kp, (fun _ => False), rfl, (env.ext e1).amb, .cons r1' .nil, hf, fun v H' d e2 r2 kk => q v H' d (e1.trans e2) r2 kk, fun _ _ _ _ _ _ z => z.elim⟩
end
end Lay

/-! # DS12: instances are made -/
namespace Lay
open PySem PySem.Spec PyProof.Rows L2

abbrev FI := List D → (List Str → List D → Prop) → KX → Prop
/-- what an __init__ makes of the data: the fields and what they bear -/
def spI (K : PySem.W.Frag) (T : List (Addr × Str)) (C : Addr) (n : Nat) (f : FI) : Sp := fun vs H Q E => vs.length = n ∧ ∃ (W : Wd) (S : List Addr) (x dx : Addr) (vs' : List V) (ds : List D) (Kf : List Str → List D → Prop) (Ke : KX),
  W.T = T ∧ vs = .ref x :: vs' ∧ Amb W (x :: S) H ∧ (∀ a ∈ W.rg, a ∈ S) ∧ x ∉ S ∧ H x = some (.ins C dx []) ∧ RepL K W.dr (hide (x :: S) H) ds vs' ∧ f ds Kf Ke ∧
    (∀ H' fs es xs dx', (∀ b o, b ∉ W.rg → b ≠ x → H b = some o → (∀ ps, o ≠ .tbl ps) → H' b = some o) → WOk W H' → H' x = some (.ins C dx' (fs.zip xs)) → fs.length = xs.length → RepL K W.dr (hide (x :: S) H') es xs → Kf fs es → Q .non H') ∧
    ∀ y cls dd H', (∀ b o, b ∉ W.rg → b ≠ x → H b = some o → (∀ ps, o ≠ .tbl ps) → H' b = some o) → WOk W H' → XOk K W.dr (hide S H') y cls dd → Ke y → E cls dd H'
/-- the slots at an __init__'s entry -/
def stI (N : List Str) (x C : Addr) (ds : List D) : De := .oi x C [] [] :: (ds.map Sl.im ++ List.replicate (N.length - (ds.length + 1)) Sl.un)
theorem env_startI {K : PySem.W.Frag} {W : Wd} {S : List Addr} {H : Hp} {ds : List D} {vs : List V} {x C dx : Addr} (N : List Str) (am : Amb W (x :: S) H) (hS : ∀ a ∈ W.rg, a ∈ S) (hx : x ∉ S) (hH : H x = some (.ins C dx [])) (r : RepL K W.dr (hide (x :: S) H) ds vs) :
    EnvOk K W (outM W S) (stI N x C ds) (L2.start N (.ref x :: vs)) H ∧ ownA (stI N x C ds) (L2.start N (.ref x :: vs)) = [x] ∧ (∀ a, a ∈ W.rg ++ outM W S ↔ a ∈ S) := by
  have hm : ∀ a, a ∈ W.rg ++ outM W S ↔ a ∈ S := fun a => by
    simp only [outM, List.mem_append, List.mem_filter, decide_eq_true_eq]
    constructor
    · rintro (h | ⟨h, _⟩)
      · exact hS a h
      · exact h
    · intro h
      by_cases c : a ∈ W.rg
      · exact .inl c
      · exact .inr ⟨h, c⟩
  have e0 : L2.start N (.ref x :: vs) = some (.ref x) :: (vs.map some ++ List.replicate (N.length - (vs.length + 1)) none) := by
    simp [L2.start]
  have ho : ownA (stI N x C ds) (L2.start N (.ref x :: vs)) = [x] := by
    rw [e0]
    show x :: ownA (ds.map Sl.im ++ List.replicate (N.length - (ds.length + 1)) Sl.un) _ = [x]
    rw [ownA_im ds _ _ _ (by rw [List.length_map]; exact r.length) (by rw [r.length]; exact ownA_un _ _)]
  have hxr : x ∉ W.rg := fun z => hx (hS x z)
  refine ⟨⟨am.w, fun a ha => ?_, by rw [ho]; simp, fun a ha => ?_, ?_⟩, ho, hm⟩
  · simp only [outM, List.mem_filter, decide_eq_true_eq] at ha
    rcases am.tr a (List.mem_cons_of_mem _ ha.1) with z | z
    · exact absurd z ha.2
    · exact ⟨ha.2, z⟩
  · rw [ho] at ha
    cases List.mem_singleton.mp ha
    refine ⟨hxr, fun z => hx ?_⟩
    simp only [outM, List.mem_filter] at z
    exact z.1
  · have e : ExN (hide (x :: S) H) (hide (hidA W (outM W S) (stI N x C ds) (L2.start N (.ref x :: vs))) H) := hide_more fun a ha => by
      rw [hidA, ho, List.mem_append] at ha
      rcases ha with ha | ha
      · exact List.mem_cons_of_mem _ ((hm a).mp ha)
      · rw [List.mem_singleton.mp ha]; exact List.mem_cons_self
    have q := slots_im (slots_un (K := K) (dr := W.dr) (S := hidA W (outM W S) (stI N x C ds) (L2.start N (.ref x :: vs))) (H := H) (N.length - (vs.length + 1))) (r.mono e)
    generalize hidA W (outM W S) (stI N x C ds) (L2.start N (.ref x :: vs)) = S' at q ⊢
    rw [e0]
    unfold stI
    rw [r.length]
    exact ⟨⟨x, dx, [], rfl, hH, rfl, rfl, rfl⟩, q⟩
theorem mem_oi {δ : De} {σ : L2.St} {i : Nat} {p C : Addr} {fs : List Str} {ds : List D} : δ[i]? = some (.oi p C fs ds) → σ[i]? = some (some (.ref p)) → p ∈ ownA δ σ := by
  induction δ generalizing σ i with
  | nil => intro h; simp at h
  | cons s δ ih =>
    intro h1 h2
    cases σ with
    | nil => simp at h2
    | cons o σ =>
      cases i with
      | zero =>
        simp at h1 h2
        subst h1 h2
        exact ownA_cons.mpr (.inl (by simp [ownA]))
      | succ i => exact ownA_cons.mpr (.inr (ih (by simpa using h1) (by simpa using h2)))
/-- an __init__ at an address -/
def FnI (G : Pg) (C fI : Addr) (k : Nat) (ps : List Str) (f : FI) : Prop := ∃ fd, FnOk G.P G.w G.K G.mg G.base (L2.CX G.P G.w) k fI fd ps (spI G.K G.T C ps.length f) ∧ Binds G.K fd ps [] ∧ ∃ x q st, FunD G.K x q (defArgs st) (defBody st) (defScope st) [] [] fI fd
theorem init_ok {G : Pg} {q : Str} {st : Stmt} {fa C : Addr} {fd : FuncData} {k : Nat} {N ps : List Str} {f : FI} {x : Str} (F : FunD G.K x q (defArgs st) (defBody st) (defScope st) [] [] fa fd) (S : FnScope N ps (defScope st))
    (body : ∀ (cdv : Value) (A : Around) (outer : List Env) (s : Shared) (H : Hp) (E : XK) (dr : Option Dr) (M : List Addr) (x : Addr) (ds : List D) (Kf : List Str → List D → Prop) (Ke : KX), Takes (FX G N q st fa cdv A outer s H E) (wxE E) → PassesOwn (model G.P G.w) (FX G N q st fa cdv A outer s H E).A (FX G N q st fa cdv A outer s H E).env (FX G N q st fa cdv A outer s H E).xe →
      Room k (FX G N q st fa cdv A outer s H E).A → ds.length + 1 = ps.length → f ds Kf Ke → DSs (FX G N q st fa cdv A outer s H E) ⟨G.T, dr⟩ M (wxE E) (stI N x C ds) (defBody st) { nx := fun δ' => ∃ fs es, δ'[0]? = some (.oi x C fs es) ∧ Kf fs es, rt := fun _ => False } Ke) :
    FnOk G.P G.w G.K G.mg G.base (L2.CX G.P G.w) (k + 1) fa fd ps (spI G.K G.T C ps.length f) := by
  obtain ⟨oc, od, dV, kV, doc, pm, an, cdv0, ct, osl, e0, lk, hcd, _, _⟩ := F.ex
  subst e0
  refine fn_of lk hcd S (fun vs H Q E h => h.1) fun A outer s H vs Q E hr h => ?_
  obtain ⟨hl, W, S', x, dx, vs', ds, Kf, Ke, hT, rfl, am, hrg, hx, hH, r, hf, q1, qx⟩ := h
  obtain ⟨env, ho, hm⟩ := env_startI N am hrg hx hH r
  obtain ⟨WT, dr⟩ := W
  have hT : WT = G.T := hT
  subst hT
  have b := body cdv0 A outer s H E dr (outM ⟨G.T, dr⟩ S') x ds Kf Ke (takes_of rfl rfl rfl rfl) PassesOwn.leaving hr (by rw [r.length, ← hl]; rfl) hf H [x]
  have hk : ∀ {H' : Hp}, (∀ b o, b ∉ Wd.rg ⟨G.T, dr⟩ → b ∉ [x] → H b = some o → (∀ ps, o ≠ .tbl ps) → H' b = some o) → ∀ b o, b ∉ Wd.rg ⟨G.T, dr⟩ → b ≠ x → H b = some o → (∀ ps, o ≠ .tbl ps) → H' b = some o := fun e b o h1 h2 h3 t => e b o h1 (fun z => h2 (List.mem_singleton.mp z)) h3 t
  refine ⟨_, b, ⟨env, fun b o _ _ e _ => e, fun a ha => .inl (by rw [ho] at ha; exact ha)⟩, fun δ' σ' H' e k => ?_, fun _ _ _ _ z => z.elim, fun _ _ _ _ z => z.elim, fun _ _ _ _ _ z => z.elim, fun y cls dd σ' H' xe rd k => ?_⟩
  · obtain ⟨fs, es, h0, kf⟩ := k
    obtain ⟨o, e1, a, dx', xs, rfl, h2, h3, h4, rfl⟩ := e.env.sl.get h0
    refine q1 H' fs es xs dx' (hk e.ext) e.env.w h2 h3 (h4.mono (hide_more fun b hb => ?_)) kf
    rcases List.mem_cons.mp hb with rfl | hb
    · simp only [hidA, List.mem_append]
      exact .inr (mem_oi h0 e1)
    · simp only [hidA, List.mem_append]
      exact .inl (by have := (hm b).mpr hb; simpa using this)
  · exact qx y cls dd H' (hk xe.ext) xe.w (rd.mono (hide_more fun a ha => (hm a).mpr ha)) k
theorem FnI.of {G : Pg} {q : Str} {st : Stmt} {fa C : Addr} {fd : FuncData} {k : Nat} {N ps : List Str} {f : FI} {x : Str} (F : FunD G.K x q (defArgs st) (defBody st) (defScope st) [] [] fa fd) (S : FnScope N ps (defScope st))
    (hb : ∀ (kV doc pm : Value) (an : Option Addr) (cdv ct : Value) (us : List Value), us.length = ps.length → bindArgs (PySem.W.fnOf x q (defArgs st) (defBody st) (defScope st) .none kV doc pm an cdv ct) ⟨us, []⟩ = pure (ps.zip us))
    (body : ∀ (cdv : Value) (A : Around) (outer : List Env) (s : Shared) (H : Hp) (E : XK) (dr : Option Dr) (M : List Addr) (x : Addr) (ds : List D) (Kf : List Str → List D → Prop) (Ke : KX), Takes (FX G N q st fa cdv A outer s H E) (wxE E) → PassesOwn (model G.P G.w) (FX G N q st fa cdv A outer s H E).A (FX G N q st fa cdv A outer s H E).env (FX G N q st fa cdv A outer s H E).xe →
      Room k (FX G N q st fa cdv A outer s H E).A → ds.length + 1 = ps.length → f ds Kf Ke → DSs (FX G N q st fa cdv A outer s H E) ⟨G.T, dr⟩ M (wxE E) (stI N x C ds) (defBody st) { nx := fun δ' => ∃ fs es, δ'[0]? = some (.oi x C fs es) ∧ Kf fs es, rt := fun _ => False } Ke) :
    FnI G C fa (k + 1) ps f := ⟨fd, init_ok F S body, F.bindsN hb, x, q, st, F⟩
/-- a method, a getter by its body -/
theorem FnA.of {G : Pg} {q : Str} {st : Stmt} {fa : Addr} {fd : FuncData} {k : Nat} {N ps : List Str} {f : FS} {x : Str} (F : FunD G.K x q (defArgs st) (defBody st) (defScope st) [] [] fa fd) (S : FnScope N ps (defScope st))
    (hb : ∀ (kV doc pm : Value) (an : Option Addr) (cdv ct : Value) (us : List Value), us.length = ps.length → bindArgs (PySem.W.fnOf x q (defArgs st) (defBody st) (defScope st) .none kV doc pm an cdv ct) ⟨us, []⟩ = pure (ps.zip us))
    (body : ∀ (cdv : Value) (A : Around) (outer : List Env) (s : Shared) (H : Hp) (E : XK) (dr : Option Dr) (M : List Addr) (ds : List D) (Kp : KD) (Ke : KX), Takes (FX G N q st fa cdv A outer s H E) (wxE E) → PassesOwn (model G.P G.w) (FX G N q st fa cdv A outer s H E).A (FX G N q st fa cdv A outer s H E).env (FX G N q st fa cdv A outer s H E).xe →
      Room k (FX G N q st fa cdv A outer s H E).A → ds.length = ps.length → f ds Kp Ke → DSs (FX G N q st fa cdv A outer s H E) ⟨G.T, dr⟩ M (wxE E) (st0 N ds) (defBody st) { nx := fun _ => Kp .non, rt := Kp } Ke) : FnA G fa (k + 1) ps f := ⟨fd, fn_ok F S body, F.bindsN hb⟩
end Lay

/-! # DS13: C(..), self.f = e, own == -/
namespace Lay
open PySem PySem.Spec PyProof.Rows L2
section
variable {X : Cx} {W : Wd} {M : List Addr} {wx : WX} {δ : De} {e o : Expr} {es : List Expr} {kws : List Keyword} {Kp : KD} {Kl : List D → Prop} {Ke : KX} {pos p p1 p2 kpos : Pos} {x : Str} {k : Nat} {ps ks : List Str} {C fI : Addr} {f : FI}
theorem run_makeP {CX : CXT} {fd : FuncData} {sp : Sp} {E : XK} {g : List Value → List Value → List Value} {gV : List V → List V → List V} {n : Nat} {pins : List (Addr × Obj)} {σ : L2.St} {H : Hp} {s : Shared} {Q : VK} {us ws : List Value} {vs zs : List V} (mk : Mk X.K C fI)
    (F : FnOk X.prog X.w X.K X.mg X.base CX k fI fd ps sp) (hr : Room (k + 1) X.A) (hb : KBn X.K fd ps (n + 1) ks g gV) (hx : PassesAt CX X σ E) (I : L2.Inv X pins σ H s) (r : Vals vs us) (rz : Vals zs ws) (l1 : vs.length = n) (l2 : zs.length = ks.length)
    (h : ∀ x dx, H x = none → H dx = none → dx ≠ x → sp (gV (.ref x :: vs) zs) (upd (upd H dx (.own x)) x (.ins C dx [])) (fun v H2 => v = .non ∧ Q (.ref x) H2) E) : wpAny (model X.prog X.w) X.A (call (.ref C) us (ks.zip ws)) (EP X pins σ Q) X.xe s := by
  have hq := h (s.heap.objs.size + 1) s.heap.objs.size (I.hok.fresh (Nat.le_succ _)) (I.hok.fresh (Nat.le_refl _)) (Nat.ne_of_lt (Nat.lt_succ_self _))
  have J := L2.Inv.made (C := C) I; have r1 : Vals (V.ref (s.heap.objs.size + 1) :: vs) (Value.ref (s.heap.objs.size + 1) :: us) := .cons rfl r
  refine wpAny_call (make_map (f := fI) I.kIn mk.makes mk.init (beq_iff_eq.mp mk.fn) (codeAny_mono (F.run _ X.stack _ _ ⟨Value.ref (s.heap.objs.size + 1) :: us, ks.zip ws⟩ (g (Value.ref (s.heap.objs.size + 1) :: us) ws) _ _ E (hr.make C us (ks.zip ws)) (J.env0.make C us (ks.zip ws))
    (hb.to _ (Value.ref (s.heap.objs.size + 1) :: us) ws J.kIn (by rw [List.length_cons, ← r.length, l1]) (rz.length.symm.trans l2)) (hb.rel r1 rz) hq) fun r s' hq' => match r, hq' with
    | .error e, hq' => hx pins _ _ e s' J hq'
    | .ok (.ret u), hq' => by
      obtain ⟨v, H', I3, rv, rfl, q3⟩ := J.after hq'
      exact ⟨rv, ⟨V.ref (s.heap.objs.size + 1), H', I3, rfl, q3⟩⟩
    | .ok .next, hq' => False.elim hq'
    | .ok .brk, hq' => False.elim hq'
    | .ok .cont, hq' => False.elim hq'))
theorem kbn_pos {fd : FuncData} {n : Nat} (hb : Binds X.K fd ps []) (hn : ps.length = n) : KBn X.K fd ps n [] (fun us _ => us) (fun vs _ => vs) := ⟨fun s us ws hk l1 l2 => by
  have := hb s us hk (by rw [List.append_nil, l1, hn])
  rw [List.append_nil] at this
  exact this, fun r _ => r⟩
/-- what the maker's reading comes to -/
theorem make_run {σ : L2.St} {H H1 : Hp} {Q : VK} {vs : List V} {ds : List D} (hl : ds.length + 1 = ps.length) (env : EnvOk X.K W M δ σ H) (q : ∀ v H' d, Ext W H H' → Rep X.K W.dr (hide (hidA W M δ σ) H') d v → Kp d → Q v H')
    (qx : ∀ x cls dd H', Ext W H H' → XOk X.K W.dr (hide (hidA W M δ σ) H') x cls dd → Ke x → wx cls dd σ H') (e1 : Ext W H H1) (r1 : RepL X.K W.dr (hide (hidA W M δ σ) H1) ds vs) (hf : f ds (fun fs es => Kp (.ins C fs es)) Ke) :
    ∀ x dx, H1 x = none → H1 dx = none → dx ≠ x → spI X.K W.T C ps.length f (.ref x :: vs) (upd (upd H1 dx (.own x)) x (.ins C dx [])) (fun v H2 => v = .non ∧ Q (.ref x) H2) (WE wx σ) := by
  intro x dx hx hdx hne
  have am := (env.ext e1).amb
  have e2 : Ext W H1 (upd (upd H1 dx (.own x)) x (.ins C dx [])) := (Ext.new am.w hdx).trans (Ext.new (am.ext (Ext.new am.w hdx)).w (by rw [upd_ne (Ne.symm hne)]; exact hx))
  have nx := am.new hx
  have am2 := am.ext e2
  have keep : ∀ {H' : Hp}, (∀ b o, b ∉ W.rg → b ≠ x → upd (upd H1 dx (.own x)) x (.ins C dx []) b = some o → (∀ ps, o ≠ .tbl ps) → H' b = some o) → WOk W H' → Ext W H H' := fun kp ok => e1.trans ⟨fun b o h1 h2 t => kp b o h1 (fun z => by rw [z, hx] at h2; cases h2) (e2.keep b o h1 h2 t) t, ok⟩
  refine ⟨by rw [List.length_cons, ← r1.length, hl], W, hidA W M δ σ, x, dx, vs, ds, _, Ke, rfl, rfl, ⟨e2.ok, fun a ha => List.mem_cons_of_mem _ (am.rg a ha), fun a ha => ?_⟩, am.rg, nx, upd_same, r1.mono fun b u hb t => ?_, hf, fun H' fs es xs dx' kp ok hH hln re kf => ⟨rfl, ?_⟩, fun y cls dd H' kp ok rd ke => qx y cls dd H' (keep kp ok) rd ke⟩
  · rcases List.mem_cons.mp ha with rfl | ha
    · exact .inr ⟨_, upd_same, fun _ z => by cases z⟩
    · exact am2.tr a ha
  · obtain ⟨h1, h2⟩ := hide_some hb
    have hbx : b ≠ x := fun z => by rw [z, hx] at h2; cases h2
    refine hide_of (fun z => (List.mem_cons.mp z).elim hbx h1) ?_
    rw [upd_ne hbx, upd_ne (fun z => by rw [z, hdx] at h2; cases h2)]
    exact h2
  · exact q _ H' (.ins C fs es) (keep kp ok) ⟨x, dx', xs, rfl, hide_of nx hH, hln, re.mono (hide_more fun a ha => List.mem_cons_of_mem _ ha)⟩ kf
/-- C(e, ..) -/
theorem dx_make (mk : Mk X.K C fI) (F : FnI (Cx.pg X W.T) C fI k ps f) (hr : Room (k + 1) X.A) (tk : Takes X wx) (hg : Gl X x) (hm : X.mg x = some (.ref C)) (h : DA X W M wx δ (e :: es) (fun ds => ds.length + 1 = ps.length ∧ f ds (fun fs es => Kp (.ins C fs es)) Ke) Ke)
    (hdb : (x == ("__debug__" : Str)) = false := by decide) (he : starEach (e :: es) X.env = (false, eval e X.env) :: starEach es X.env := by rfl) (hpl : (backTo pos (starEach es X.env)).any (·.1) = false := by rfl) : DE X W M wx δ (.Call (.Name x p) (e :: es) [] pos) Kp Ke := by
  obtain ⟨fd, FO, hB, _⟩ := F
  refine ⟨fun pins s σ H Q I ⟨env, q, qx⟩ => wpAny_Call_Name_kw (ld_glob I hg hm ?_ hdb)⟩
  refine PySem.W.callWith_K (h₀ := X.base) I.ok.mod.kin mk.kp (thn ((pa_any (es := e :: es)).run pos pins s σ H _ I (h.run env (Q := fun vs H1 => vs.length + 1 = ps.length ∧ ∀ x dx, H1 x = none → H1 dx = none → dx ≠ x → spI X.K W.T C ps.length f (.ref x :: vs) (upd (upd H1 dx (.own x)) x (.ins C dx [])) (fun v H2 => v = .non ∧ Q (.ref x) H2) (WE wx σ))
    (fun vs H1 ds e1 r1 ⟨hl, hf⟩ => ⟨by rw [← r1.length]; exact hl, make_run hl env q qx e1 r1 hf⟩) qx)) fun us s1 ⟨vs, H1, I1, r, hn, q1⟩ => ⟨I1.kIn, ?_⟩) he hpl
  exact run_makeP (ks := []) (ws := []) (zs := []) (n := vs.length) mk FO hr (kbn_pos hB hn.symm) (passAt tk σ) I1 r .nil rfl rfl q1
/-- C(k = v) -/
theorem dx_makeK (mk : Mk X.K C fI) (F : FnI (Cx.pg X W.T) C fI k ps f) (hr : Room (k + 1) X.A) (tk : Takes X wx) (hg : Gl X x) (hm : X.mg x = some (.ref C)) (ks : List Str) (hks : (backToKw pos (keywordEach kws X.env)).filterMap (·.1) = ks) (hl : ks.length + 1 = ps.length)
    (hb : ∀ fd, (∃ x q st, FunD X.K x q (defArgs st) (defBody st) (defScope st) [] [] fI fd) → ∀ (s : Shared) (self : Value) (ws : List Value), X.K.In s.heap → ws.length = ks.length → BindsTo s fd ⟨[self], ks.zip ws⟩ (ps.zip (self :: ws)))
    (h : DK X W M wx δ kws (fun ds => ds.length + 1 = ps.length ∧ f ds (fun fs es => Kp (.ins C fs es)) Ke) Ke) (hall : (backToKw pos (keywordEach kws X.env)).all (·.1.isSome) = true := by rfl) (hdb : (x == ("__debug__" : Str)) = false := by decide)
    (hpl : ((backTo pos (starEach [] X.env)).any (·.1) || (backToKw pos (keywordEach kws X.env)).any (·.1.isNone)) = false := by rfl) : DE X W M wx δ (.Call (.Name x p) [] kws pos) Kp Ke := by
  obtain ⟨fd, FO, _, ex⟩ := F
  refine ⟨fun pins s σ H Q I ⟨env, q, qx⟩ => wpAny_Call_Name_kw (ld_glob I hg hm ?_ hdb)⟩
  refine PySem.W.callWith_KW0 (h₀ := X.base) I.ok.mod.kin mk.kp hall (thn ((pk_any (kws := kws)).run pos pins s σ H _ I (h.run env (Q := fun vs H1 => vs.length + 1 = ps.length ∧ ∀ x dx, H1 x = none → H1 dx = none → dx ≠ x → spI X.K W.T C ps.length f (.ref x :: vs) (upd (upd H1 dx (.own x)) x (.ins C dx [])) (fun v H2 => v = .non ∧ Q (.ref x) H2) (WE wx σ))
    (fun vs H1 ds e1 r1 ⟨hl, hf⟩ => ⟨by rw [← r1.length]; exact hl, make_run hl env q qx e1 r1 hf⟩) qx)) fun ws s1 ⟨zs, H1, I1, rz, hn, q1⟩ => ⟨I1.kIn, ?_⟩) hpl
  rw [hks]
  have B : KBn X.K fd ps (0 + 1) ks (fun us ws => us ++ ws) (fun vs zs => vs ++ zs) := ⟨fun s us ws hk l1 l2 => by
    match us, l1 with
    | [self], _ => exact hb fd ex s self ws hk l2, fun r rz => r.append rz⟩
  exact run_makeP (us := []) (vs := []) mk FO hr B (passAt tk σ) I1 .nil rz rfl (by omega) q1
end
end Lay

/-! # DS14: self.f = e; own == and != -/
namespace Lay
open PySem PySem.Spec PyProof.Rows L2
theorem ownA_swap {s s' : Sl} : ∀ {δ : De} {σ : L2.St} {i : Nat} {o : Option V}, ownA [s] [o] = ownA [s'] [o] → δ[i]? = some s → σ[i]? = some o → ownA (δ.set i s') σ = ownA δ σ
  | [], σ, i, o, _, h, _ => by simp at h
  | t :: δ, [], i, o, _, _, h => by simp at h
  | t :: δ, u :: σ, 0, o, e, h1, h2 => by
    simp at h1 h2
    subst h1 h2
    show ownA (s' :: δ) (u :: σ) = ownA (t :: δ) (u :: σ)
    rw [ownA_eq (s := s'), ownA_eq (s := t), e]
  | t :: δ, u :: σ, i + 1, o, e, h1, h2 => by
    show ownA (t :: δ.set i s') (u :: σ) = ownA (t :: δ) (u :: σ)
    rw [ownA_eq (s := t) (δ := δ.set i s'), ownA_eq (s := t) (δ := δ), ownA_swap e (by simpa using h1) (by simpa using h2)]
theorem slots_swap {K : PySem.W.Frag} {dr : Option Dr} {S : List Addr} {H : Hp} {a : Addr} {u : HO} {s s' : Sl} (ha : a ∈ S) (ho : ownA [s] [some (.ref a)] = [a]) (hs' : SlotOk K dr S (upd H a u) s' (some (.ref a))) : ∀ {δ : De} {σ : L2.St} {i : Nat}, (ownA δ σ).Nodup → δ[i]? = some s → σ[i]? = some (some (.ref a)) → SlotsOk K dr S H δ σ →
    SlotsOk K dr S (upd H a u) (δ.set i s') σ := by
  have other : ∀ {δ : De} {σ : L2.St}, a ∉ ownA δ σ → SlotsOk K dr S H δ σ → SlotsOk K dr S (upd H a u) δ σ := fun {δ σ} hn h => h.stay (by rw [hide_write ha]; exact LamX.ExtN.refl _) fun b w hb e _ => by
    rw [upd_ne (fun z => hn (by rw [← z]; exact hb))]
    exact e
  intro δ
  induction δ with
  | nil => intro σ i _ h; simp at h
  | cons t δ ih =>
    intro σ i nd hd hs h
    cases σ with
    | nil => exact h.elim
    | cons o σ =>
      rw [ownA_eq] at nd
      obtain ⟨n1, n2, n3⟩ := List.nodup_append.mp nd
      cases i with
      | zero =>
        simp at hd hs
        subst hd hs
        exact ⟨hs', other (fun z => n3 a (by rw [ho]; simp) a z rfl) h.2⟩
      | succ i =>
        have hd' : δ[i]? = some s := by simpa using hd
        have hs' : σ[i]? = some (some (.ref a)) := by simpa using hs
        have hin : a ∈ ownA δ σ := by
          clear ih n1 n2 n3 nd h hd hs
          induction δ generalizing σ i with
          | nil => simp at hd'
          | cons t' δ ih2 =>
            cases σ with
            | nil => simp at hs'
            | cons o' σ =>
              cases i with
              | zero =>
                simp at hd' hs'
                subst hd' hs'
                exact ownA_cons.mpr (.inl (by rw [ho]; simp))
              | succ i => exact ownA_cons.mpr (.inr (ih2 σ i (by simpa using hd') (by simpa using hs')))
        refine ⟨?_, ih n2 hd' hs' h.2⟩
        have hn : a ∉ ownA [t] [o] := fun z => n3 a z a hin rfl
        exact (other (δ := [t]) (σ := [o]) hn ⟨h.1, trivial⟩).1
theorem SEnv.swap {F : Fr} {K : PySem.W.Frag} {δ : De} {σ : L2.St} {H : Hp} {i : Nat} {s s' : Sl} {a : Addr} {o u : HO} (h : SEnv K F δ σ H) (hd : δ[i]? = some s) (hs : σ[i]? = some (some (.ref a))) (hown : a ∈ ownA δ σ) (ho : ownA [s] [some (.ref a)] = [a]) (ho' : ownA [s'] [some (.ref a)] = [a])
    (ha : H a = some o) (mu : Mut (some o)) (hx : ∀ φ, o ≠ .ext φ) (r : SlotOk K F.W.dr (hidA F.W F.M δ σ) (upd H a u) s' (some (.ref a))) : SEnv K F (δ.set i s') σ (upd H a u) := by
  have hdj := h.env.dj a hown
  have e := ownA_swap (s' := s') (by rw [ho, ho']) hd hs
  have e2 : hidA F.W F.M (δ.set i s') σ = hidA F.W F.M δ σ := by rw [hidA, hidA, e]
  refine ⟨⟨h.env.w.write ha mu hx hdj.1, fun b hb => ?_, by rw [e]; exact h.env.nd, by rw [e]; exact h.env.dj, ?_⟩, fun b w h1 h2 h3 t => ?_, by rw [e]; exact h.own⟩
  · obtain ⟨h1, w, h2, h3⟩ := h.env.m b hb
    refine ⟨h1, w, ?_, h3⟩
    rw [upd_ne (fun z => hdj.2 (by rw [← z]; exact hb))]
    exact h2
  · rw [e2]
    exact slots_swap (by simp [hidA, hown]) ho r h.env.nd hd hs h.env.sl
  · rw [upd_ne (fun z => ?_)]
    · exact h.ext b w h1 h2 h3 t
    · rw [z] at h2 h3
      rcases h.own a hown with q | q | ⟨ps, q⟩
      · exact h2 q
      · rw [q] at h3; cases h3
      · rw [q] at h3; exact t ps (Option.some.inj h3).symm
theorem putF_new {f : Str} {v : V} : ∀ {fs : List Str} {xs : List V}, fs.length = xs.length → f ∉ fs → putF f v (fs.zip xs) = (fs ++ [f]).zip (xs ++ [v])
  | [], [], _, _ => rfl
  | g :: fs, x :: xs, h, n => by
    simp only [List.mem_cons, not_or] at n
    show (if g = f then _ else (g, x) :: putF f v (fs.zip xs)) = _
    rw [if_neg (fun z => n.1 z.symm), putF_new (by simpa using h) n.2]
    rfl
section
variable {X : Cx} {W : Wd} {M : List Addr} {wx : WX} {δ : De} {e o : Expr} {O : Out} {Kp : KD} {Ke : KX} {pos p p1 p2 : Pos} {x : Str}
/-- self.a = e, in an __init__: a new field -/
theorem ds_fld (i : Nat) {a : Str} {q C : Addr} {fs : List Str} {ds : List D} (hN : X.N[i]? = some x) (hv : Vis X.env.scope x) (hd : δ[i]? = some (.oi q C fs ds)) (c : Cls X.K C) (n : NoAttr X.K C a) (hf : a ∉ fs) (hl : fs.length < 1000)
    (h : DE X W M wx δ e (fun d => O.nx (δ.set i (.oi q C (fs ++ [a]) (ds ++ [d])))) Ke) (hs : swapsWith e (some (.Attribute (.Name x p1) a p2)) pos.line X.env = pure false := by rfl) (hdb : (x == ("__debug__" : Str)) = false := by decide) (hcd : (x == ("__classdict__" : Str)) = false := by decide) :
    DS X W M wx δ (.Assign [.Attribute (.Name x p1) a p2] e pos) O Ke := fun H0 N =>
  PS.imp (ps_fld (pe_var hN hv hdb hcd) pe_any hs) fun Dn σ H ⟨env, nn, b, cc, r, xx⟩ => ex_run h env (fun v H' d env' ex r1 k => by
    obtain ⟨o, e1, p, dx, xs, rfl, h2, h3, h4, rfl⟩ := env'.env.sl.get hd
    refine ⟨_, e1, p, C, dx, _, rfl, h2, c, n, ?_, nn _ _ _ (env'.swap (s' := .oi p C (fs ++ [a]) (ds ++ [d])) hd e1 (mem_oi hd e1) (by simp [ownA]) (by simp [ownA]) h2 trivial (fun φ z => by cases z) ⟨p, dx, xs ++ [v], rfl, ?_, by simp [h3], ?_, rfl⟩) k⟩
    · rw [List.length_zip, ← h3, Nat.min_self]; exact hl
    · rw [upd_same, putF_new h3 hf]
    · rw [hide_write (by simp [hidA, mem_oi hd e1])]
      exact h4.append (.cons r1 .nil)) xx

/-! ### own == and != -/
/-- the class has a text's ==, and the != of object -/
structure OwnE (K : PySem.W.Frag) (C fe : Addr) : Prop where
  eq : PySem.W.findIn K (.ref C) "__eq__" = some (some (.ref fe))
  ne : PySem.W.findIn K (.ref C) "__ne__" = some (some (.builtin "object.__ne__"))
  fn : PySem.W.isFn K (.ref fe) = true
  ti : PySem.W.clsIn K C ≠ none
theorem ne_bind (self : Value) : bindSpecial (.builtin "object.__ne__") self = pure (.builtin "object.__ne__", [self]) :=
  (Slot.of (T := "object") (name := "__ne__") (owner := "object") (n := "__ne__") (by rw [typeLookup_type, builtinLookup_eq_fast]; kernel_rfl) (by decide +kernel) (by decide +kernel) (by decide +kernel)
    (.inl (by decide +kernel)) (by rw [isSubtype_type]; kernel_rfl)).bind self
theorem ne_plain : plainId "object.__ne__" = true := by decide +kernel
/-- != by the own == -/
theorem neK {prog : Program} {w : World} {A : Around} {E : Value → Shared → Prop} {s : Shared} {K : PySem.W.Frag} {x C f : Addr} {ox : Obj} {od : Option Obj} {b tb : Value} {Q : Value → Shared → Prop} (hu : A.units + 1 < cLine) (X : K.In s.heap) (I : PySem.W.InstAt s.heap x ox C od)
    (hb : PySem.W.Looks (model prog w) s.heap (typeOf b) tb) (hn : PySem.W.notFirst K C tb = true) (c : L2.Cls K C) (hne : PySem.W.findIn K (.ref C) "__ne__" = some (some (.builtin "object.__ne__"))) (heq : PySem.W.findIn K (.ref C) "__eq__" = some (some (.ref f))) (hf : PySem.W.isFn K (.ref f) = true)
    (h : wpAny (model prog w) A.in1 (call (.ref f) [.ref x, b]) (fun v s' => ∃ k, v = .bool k ∧ Q (.bool (!k)) s') E s) : wpAny (model prog w) A (richCompare .NotEq (.ref x) b) Q E s := by
  have bi : wpAny (model prog w) A (callSpecialIfBound? (.ref x) "__ne__" [b]) (fun r s' => ∃ k, r = some (.bool (!k)) ∧ Q (.bool (!k)) s') E s := by
    simp only [callSpecialIfBound?, bindSpecialIfBound?]
    refine wpAny_holding (wpAny_bind (wpAny_bind (wpAny_bind (I.type.here ((PySem.W.looks_findIn X hne).here ?_)))))
    refine wpAny_bind (wpAny_askSetting (wpAny_ite ?_))
    have fin : wpAny (model prog w) A (call (.builtin "object.__ne__") ([.ref x] ++ [b]) >>= fun v => pure (some v)) (fun r s' => ∃ k, r = some (.bool (!k)) ∧ Q (.bool (!k)) s') E s := by
      obtain ⟨cd, hc, ho⟩ := PySem.W.any_some c.po
      have ne : cd.mro.isEmpty = false := by cases q : cd.mro with | nil => rw [q] at ho; cases ho | cons _ _ => rfl
      have sub : PySem.W.Looks (model prog w) s.heap (isInstance (.ref x) (.type "object")) true := I.type.andThen (PySem.W.looks_mroIn X (by unfold PySem.W.mroIn; rw [hc, Option.bind_some, if_neg (by rw [ne]; decide), PySem.W.only_has ho]))
      refine wpAny_bind (wpAny_mono (Q := fun v s' => ∃ k, v = .bool (!k) ∧ Q (.bool (!k)) s') (wpAny_call (codeAny_call_builtin ne_plain F.cmpEntry_ne (@PySem.W.check_slot (model prog w) _ _ s "object.__ne__" "object" "__ne__" (.ref x) [b] [] _ F.cmpKind_ne F.cmpSplit_ne sub (F.cmpArgs_ne _ _) ?_))) (fun v s' ⟨k, e, q⟩ => by subst e; exact wpAny_pure ⟨k, rfl, q⟩) fun _ _ e => e)
      unfold Builtin.«object.__ne__»
      have inner : wpAny (model prog w) A.in1 (callSpecialIfBound? (.ref x) "__eq__" [b]) (fun r s' => ∃ k, r = some (.bool k) ∧ Q (.bool (!k)) s') E s := PySem.W.ifBound_K X I heq hf (wpAny_mono h (fun v s' ⟨k, e, q⟩ => ⟨k, by rw [e], q⟩) fun _ _ e => e)
      have sa : slotArgs "__ne__" 1 ⟨[.ref x] ++ [b], []⟩ = pure (.ref x, [b]) := by rfl
      rw [sa]; refine wpAny_bind (wpAny_pure (wpAny_bind (wpAny_cRoomFor hu (wpAny_bind (wpAny_mono inner (fun r s' ⟨k, e, q⟩ => ?_) fun _ _ e => e)))))
      subst e
      show wpAny _ _ (truthy (.bool k) >>= fun d => ret (.bool !d)) _ _ s'
      exact wpAny_bind (wpAny_truthy_bool (wpAny_pure ⟨k, rfl, q⟩))
    split
    · exact wpAny_bind ((PySem.W.Looks.of_pure (ne_bind (.ref x))).here (wpAny_pure (by exact fin)))
    · exact wpAny_tryCatch (wpAny_bind ((PySem.W.Looks.of_pure (ne_bind (.ref x))).here (wpAny_pure (by exact fin))))
  have one : wpAny (model prog w) A (tryCompare (.ref x) "__ne__" b) (fun r s' => ∃ k, r = some (.bool (!k)) ∧ Q (.bool (!k)) s') E s := by
    unfold tryCompare; exact wpAny_bind (wpAny_mono bi (fun r s' ⟨k, e, q⟩ => by subst e; exact wpAny_pure ⟨k, rfl, q⟩) fun _ _ e => e)
  unfold richCompare; simp only [oneThing_ref]
  refine wpAny_holding (wpAny_bind (wpAny_cRoomFor (by omega) (wpAny_bind (I.type.here (wpAny_bind (hb.here ?_))))))
  split
  · rename_i q
    have e : PySem.W.subIn K tb (.ref C) = some false := by
      rcases Bool.or_eq_true_iff.mp hn with e | e
      · rw [beq_iff_eq.mp e] at q; simp at q
      · exact beq_iff_eq.mp e
    refine wpAny_bind ((PySem.W.looks_subIn X e).here ?_); simp only [Bool.false_eq_true, if_false]
    exact wpAny_bind (wpAny_mono one (fun r s' ⟨k, e, q⟩ => by subst e; exact wpAny_pure q) fun _ _ e => e)
  · refine wpAny_bind (wpAny_pure ?_); simp only [Bool.false_eq_true, if_false]
    exact wpAny_bind (wpAny_mono one (fun r s' ⟨k, e, q⟩ => by subst e; exact wpAny_pure q) fun _ _ e => e)
end
end Lay

/-! # DS15: own == and != on data -/
namespace Lay
open PySem PySem.Spec PyProof.Rows L2
section
variable {X : Cx} {W : Wd} {M : List Addr} {wx : WX} {δ : De} {a b : Expr} {Kp : KD} {Kb : Bool → Prop} {Ke : KX} {pos : Pos} {C fe : Addr} {k : Nat} {p1 p2 : Str} {f : FS}
/-- an instance of C beside one of C or a tuple -/
def rOwnO (K : PySem.W.Frag) (C : Addr) (sp : Sp) : R2 := fun x y H Q => ∃ a dx fs b, x = .ref a ∧ y = .ref b ∧ H a = some (.ins C dx fs) ∧ ((∃ dy gs, H b = some (.ins C dy gs)) ∨ ∃ ys, SqT K H b ys) ∧ sp [x, y] H Q (fun _ _ _ => False)
theorem own_looks {pins : List (Addr × Obj)} {σ : L2.St} {H : Hp} {s : Shared} {b : Addr} (I : L2.Inv X pins σ H s) (h : (∃ dy gs, H b = some (.ins C dy gs)) ∨ ∃ ys, SqT X.K H b ys) :
    ∃ tb, PySem.W.Looks (model X.prog X.w) s.heap (typeOf (.ref b)) tb ∧ PySem.W.notFirst X.K C tb = true := by
  rcases h with ⟨dy, gs, hb⟩ | ⟨ys, hb⟩
  · obtain ⟨mB, J', _⟩ := ins_get I.hok hb
    obtain ⟨od', J', _⟩ := J'.look
    exact ⟨_, J'.type, by simp [PySem.W.notFirst]⟩
  · obtain ⟨its, r, ⟨⟨cls, dd, data, sl⟩, ho, hc, n, hd⟩, hs⟩ := I.tuple hb
    simp only at hc; subst hc
    refine ⟨.type "tuple", (PySem.W.Looks.ld ho).andThen .now, ?_⟩
    have : PySem.W.subIn X.K (.type "tuple") (.ref C) = some false := by rfl
    simp [PySem.W.notFirst, this]
theorem op_eqO (O : OwnE X.K C fe) {fd : FuncData} {ps : List Str} {sp : Sp} (FO : FnOk X.prog X.w X.K X.mg X.base (L2.CX X.prog X.w) k fe fd ps sp) (hB : Binds X.K fd ps []) (hr : Room k X.A) :
    OpR X (compareOp .Eq) (fun x y H Q => rOwnO X.K C sp x y H fun v H' => ∃ t, v = .bl t ∧ Q (.bl t) H') := by
  intro pins s σ H x y v u Q I rx ry h
  obtain ⟨a, dx, fs, b, rfl, rfl, ha, hb, q⟩ := h
  cases rx; cases ry
  obtain ⟨mA, J, _⟩ := ins_get I.hok ha
  obtain ⟨od, J, _⟩ := J.look
  obtain ⟨m, hF⟩ := I.fr
  obtain ⟨tb, lk, nf⟩ := own_looks I hb
  show wpAny (model X.prog X.w) X.A (richCompare .Eq (.ref a) (.ref b)) (EP X pins σ Q) X.xe s
  refine PySem.W.cmp_K (op := .Eq) (tb := tb) hr.units0 hF I.ok.mod.kin J lk nf O.eq O.fn (wpAny_mono (run_fnS (E := fun _ _ _ _ => False) (vs := [.ref a, .ref b]) (us := [.ref a, .ref b]) FO hr hB (fun pins H s e s' I c => passAt (X := X) takes_wx0 σ pins H s e s' I c) I (.cons rfl (.cons rfl .nil)) q) (fun r s' z => ?_) fun _ _ e => e)
  obtain ⟨w, H', I', rw, t, rfl, q'⟩ := z
  cases rw
  exact ⟨.bl t, H', I', rfl, q'⟩
theorem op_neO (O : OwnE X.K C fe) (c : Cls X.K C) {fd : FuncData} {ps : List Str} {sp : Sp} (FO : FnOk X.prog X.w X.K X.mg X.base (L2.CX X.prog X.w) k fe fd ps sp) (hB : Binds X.K fd ps []) (hr : Room (k + 2) X.A) :
    OpR X (compareOp .NotEq) (fun x y H Q => rOwnO X.K C sp x y H fun v H' => ∃ t, v = .bl t ∧ Q (.bl (!t)) H') := by
  intro pins s σ H x y v u Q I rx ry h
  obtain ⟨a, dx, fs, b, rfl, rfl, ha, hb, q⟩ := h
  cases rx; cases ry
  obtain ⟨mA, J, _⟩ := ins_get I.hok ha
  obtain ⟨od, J, _⟩ := J.look
  obtain ⟨tb, lk, nf⟩ := own_looks I hb
  have r2 : Vals [V.ref a, V.ref b] [Value.ref a, Value.ref b] := .cons rfl (.cons rfl .nil)
  have hl : [Value.ref a, Value.ref b].length = ps.length := by rw [← r2.length]; exact FO.len _ _ _ _ q
  have bb := hB s [.ref a, .ref b] I.kIn (by rw [List.append_nil]; exact hl)
  rw [List.append_nil] at bb
  have un : X.A.units + 1 < cLine := by
    have := hr.units
    omega
  show wpAny (model X.prog X.w) X.A (richCompare .NotEq (.ref a) (.ref b)) (EP X pins σ Q) X.xe s
  refine neK un I.kIn J lk nf c O.ne O.eq O.fn (wpAny_call (codeAny_mono (FO.run X.A.in1 X.stack s H ⟨[.ref a, .ref b], []⟩ [.ref a, .ref b] [.ref a, .ref b] _ _ ((hr.mono (by omega : k + 1 ≤ k + 2)).in1) I.env0.in1 bb r2 q) fun r s' hq => ?_))
  match r, hq with
  | .error e, hq => exact passAt (X := X) takes_wx0 σ pins H s e s' I hq
  | .ok (.ret u), hq =>
    obtain ⟨w, H', I', rw, t, rfl, q'⟩ := I.after hq
    cases rw
    exact ⟨t, rfl, .bl (!t), H', I', rfl, q'⟩
  | .ok .next, hq => exact False.elim hq
  | .ok .brk, hq => exact False.elim hq
  | .ok .cont, hq => exact False.elim hq
/-- an operator in this world -/
def OpDW (X : Cx) (W : Wd) (F : Value → Value → Sem Value) (g : D → D → KD → Prop) : Prop := ∃ r, OpR X F r ∧ ∀ S H x y d e (Kp : KD) (Q : VK), Amb W S H → Rep X.K W.dr (hide S H) d x → Rep X.K W.dr (hide S H) e y → g d e Kp → (∀ v H' d', Ext W H H' → Rep X.K W.dr (hide S H') d' v → Kp d' → Q v H') → r x y H Q
def gOwn (neg : Bool) (C : Addr) (f : FS) : D → D → KD → Prop := fun d e k => (∃ fs ds, d = .ins C fs ds) ∧ ((∃ fs ds, e = .ins C fs ds) ∨ ∃ l, e = .tup l) ∧ f [d, e] (fun r => ∃ t, r = .bl t ∧ k (.bl (if neg then !t else t))) (fun _ => False)
theorem own_arg {K : PySem.W.Frag} {dr : Option Dr} {H : Hp} {S : List Addr} {e : D} {y : V} (r : Rep K dr (hide S H) e y) (h : (∃ fs ds, e = .ins C fs ds) ∨ ∃ l, e = .tup l) : ∃ b, y = .ref b ∧ ((∃ dy gs, H b = some (.ins C dy gs)) ∨ ∃ ys, SqT K H b ys) := by
  rcases h with ⟨fs, ds, rfl⟩ | ⟨l, rfl⟩
  · obtain ⟨b, dy, xs, rfl, h1, _⟩ := r
    exact ⟨b, rfl, .inl ⟨dy, _, (hide_some h1).2⟩⟩
  · obtain ⟨b, xs, rfl, h1, _⟩ := r
    exact ⟨b, rfl, .inr ⟨xs, hide_SqT h1⟩⟩
theorem own_sp {S : List Addr} {H : Hp} {x y : V} {d e : D} {Kq : KD} {Q : VK} (am : Amb W S H) (rx : Rep X.K W.dr (hide S H) d x) (ry : Rep X.K W.dr (hide S H) e y) (hf : f [d, e] Kq (fun _ => False)) (q : ∀ v H' d', Ext W H H' → Rep X.K W.dr (hide S H') d' v → Kq d' → Q v H') :
    spD X.K W.T 2 f [x, y] H Q (fun _ _ _ => False) := ⟨rfl, W, S, [d, e], Kq, _, rfl, am, .cons rx (.cons ry .nil), hf, q, fun _ _ _ _ _ _ z => z.elim⟩
theorem od_eqO (O : OwnE X.K C fe) (F : FnA (Cx.pg X W.T) fe k [p1, p2] f) (hr : Room k X.A) : OpDW X W (compareOp .Eq) (gOwn false C f) := by
  obtain ⟨fd, FO, hB⟩ := F
  refine ⟨_, op_eqO O FO hB hr, fun S H x y d e Kp Q am rx ry ⟨⟨fs, ds, hd⟩, he, hf⟩ q => ?_⟩
  subst hd
  have rx' := rx
  obtain ⟨p, dx, xs, rfl, h1, h2⟩ := rx
  obtain ⟨b, rfl, hb⟩ := own_arg ry he
  refine ⟨p, dx, _, b, rfl, rfl, (hide_some h1).2, hb, own_sp am rx' ry hf fun v H' d' e1 r1 ⟨t, e2, kk⟩ => ?_⟩
  subst e2; cases r1
  exact ⟨t, rfl, q _ H' (.bl t) e1 rfl kk⟩
theorem od_neO (O : OwnE X.K C fe) (c : Cls X.K C) (F : FnA (Cx.pg X W.T) fe k [p1, p2] f) (hr : Room (k + 2) X.A) : OpDW X W (compareOp .NotEq) (gOwn true C f) := by
  obtain ⟨fd, FO, hB⟩ := F
  refine ⟨_, op_neO O c FO hB hr, fun S H x y d e Kp Q am rx ry ⟨⟨fs, ds, hd⟩, he, hf⟩ q => ?_⟩
  subst hd
  have rx' := rx
  obtain ⟨p, dx, xs, rfl, h1, h2⟩ := rx
  obtain ⟨b, rfl, hb⟩ := own_arg ry he
  refine ⟨p, dx, _, b, rfl, rfl, (hide_some h1).2, hb, own_sp am rx' ry hf fun v H' d' e1 r1 ⟨t, e2, kk⟩ => ?_⟩
  subst e2; cases r1
  exact ⟨t, rfl, q _ H' (.bl (!t)) e1 rfl kk⟩
theorem dx_cmpW {op : CmpOp} {g : D → D → KD → Prop} (ho : OpDW X W (compareOp op) g) (hm : behindInMarks op b = false) (h : DE X W M wx δ a (fun d1 => DE X W M wx δ b (fun d2 => g d1 d2 Kp) Ke) Ke) : DE X W M wx δ (.Compare a [op] [b] pos) Kp Ke := by
  obtain ⟨r, hr, hD⟩ := ho
  refine PE.imp (pe_cmpR hr pe_any pe_any hm) fun σ H Q ⟨env, q, qx⟩ => h.run env (fun x H1 d1 e1 r1 hb => ?_) qx
  refine hb.run (env.ext e1) (fun y H2 d2 e2 r2 hg => ?_) fun x cls dd H' e => qx x cls dd H' (e1.trans e)
  exact hD _ H2 x y d1 d2 Kp Q (env.ext (e1.trans e2)).amb (r1.mono ((env.ext e1).amb.hid e2)) r2 hg fun v H' d' e3 r3 k => q v H' d' ((e1.trans e2).trans e3) r3 k
theorem dt_cmpW {op : CmpOp} {g : D → D → KD → Prop} (ho : OpDW X W (compareOp op) g) (hm : behindInMarks op b = false) (h : DE X W M wx δ a (fun d1 => DE X W M wx δ b (fun d2 => g d1 d2 (asB Kb)) Ke) Ke) : DT X W M wx δ (.Compare a [op] [b] pos) Kb Ke := by
  obtain ⟨r, hr, hD⟩ := ho
  refine PT.imp (pt_cmpR hr pe_any pe_any hm) fun σ H Q ⟨env, q, qx⟩ => h.run env (fun x H1 d1 e1 r1 hb => ?_) qx
  refine hb.run (env.ext e1) (fun y H2 d2 e2 r2 hg => ?_) fun x cls dd H' e => qx x cls dd H' (e1.trans e)
  refine hD _ H2 x y d1 d2 _ _ (env.ext (e1.trans e2)).amb (r1.mono ((env.ext e1).amb.hid e2)) r2 hg fun v H' d' e3 r3 k => ?_
  obtain ⟨k', rfl, kb⟩ := asB_ex k
  exact ⟨k', r3, q k' H' ((e1.trans e2).trans e3) kb⟩
end
end Lay

/-! # DS16: len(set(few numbers)) -/
namespace Lay
open PySem PySem.Spec PyProof.Rows L2
def dup2 : List Int → Nat
  | [a, b] => if a = b then 1 else 2
  | l => l.length
theorem dup2_nodup {ns : List Int} (h : ns.Nodup) : dup2 ns = ns.length := by
  match ns, h with
  | [], _ => rfl
  | [_], _ => rfl
  | [a, b], h => simp only [List.nodup_cons, List.mem_singleton] at h; simp [dup2, h.1]
  | _ :: _ :: _ :: _, _ => rfl
theorem dup2_le : ∀ {ns : List Int}, ns.length ≤ 2 → dup2 ns ≤ 2
  | [], _ => Nat.zero_le _
  | [_], _ => Nat.le_succ _
  | [a, b], _ => by simp only [dup2]; split <;> omega
  | _ :: _ :: _ :: _, h => by simp at h
theorem met2 : ∀ {ns : List Int}, ns.length ≤ 2 → (PyProof.Rows.firstMet (fun i => ns.getD i 0) ns.length).length = dup2 ns
  | [], _ => rfl
  | [a], _ => rfl
  | [a, b], _ => by
    show (PyProof.Rows.firstMet (fun i => [a, b].getD i 0) 2).length = _
    rw [PyProof.Rows.firstMet_succ, PyProof.Rows.firstMet_succ]
    show (PyProof.Rows.step_dedup [a] b).length = _
    show (if ([a] : List Int).any (· == b) then [a] else [a] ++ [b]).length = (if a = b then 1 else 2)
    by_cases h : a = b
    · simp [h]
    · simp [h]
  | _ :: _ :: _ :: _, h => by simp at h
section
variable {X : Cx} {W : Wd} {M : List Addr} {wx : WX} {δ : De} {a : Expr} {Kp : KD} {Ke : KX} {p p2 q pos : Pos}
theorem pe_lenSet2 {ta : TE} (hc : X.calm = true) (hg : Gl X "len") (hm : X.mg "len" = none) (hg2 : Gl X "set") (hm2 : X.mg "set" = none) (ha : PE X a ta) (na : starEach [a] X.env = (false, eval a X.env) :: starEach [] X.env) :
    PE X (.Call (.Name "len" p) [.Call (.Name "set" p2) [a] [] q] [] pos) (fun σ H Q => ta σ H fun x H1 => ∃ (l : Addr) (ns : List Int), x = .ref l ∧ (SqL X.K H1 l (ns.map V.int) ∨ (SqT X.K H1 l (ns.map V.int) ∧ ns.Nodup)) ∧ ns.length ≤ 2 ∧ Q (.int (dup2 ns : Nat)) H1) := by
  refine ⟨fun pins s σ H Q I h => ?_⟩; refine Call_ (ld_blt I hg hm PySem.boot_len ?_)
  refine PyProof.Rows.callWith_builtin1 (PyProof.Rows.args_cons ?_ rfl) rfl rfl; refine Call_ (ld_blt I hg2 hm2 PyProof.Rows.boot_set ?_)
  refine PyProof.Rows.callWith_type1 (PyProof.Rows.args_cons (thn (ha.run pins s σ H _ I h) fun v s1 ⟨x, H1, I1, r1, q1⟩ => PyProof.Rows.args_nil ?_) na) na rfl
  obtain ⟨l, ns, rfl, hq, h1, q1⟩ := q1
  cases r1
  rcases hq with hq | ⟨hq, hnd⟩
  · obtain ⟨its, r, pl, hz⟩ := I1.list hq
    have hl : its.toArray.size = ns.length := by rw [List.size_toArray, ← r.length, List.length_map]
    refine call_set_list (I1.ok.hd hc) pl.isList (ns := ns) (by simpa using RZ.intsAre_vals r) (by unfold scanBound; omega) fun h' tk hS hk => PyProof.Rows.args_nil ?_
    rw [hl, met2 h1] at hS
    obtain ⟨o, es, ep, t, ho, hex, hd, _, _, _, hf, hn⟩ := hS
    have h3 : dup2 ns ≤ 2 := dup2_le h1
    have I2 : L2.Inv X pins σ H1 { s1 with heap := h', toks := tk } := I1.kept fun b o e => hk b o (Heap.lt_size e) e
    exact call_len_set ho hex hd hf (by rw [hn] <;> omega) ⟨.int (dup2 ns), H1, I2.tok _, ⟨_, by rw [hn]⟩, q1⟩
  · obtain ⟨its, r, pl, hz⟩ := I1.tuple hq
    refine call_set_tupI ns (I1.ok.hd hc) pl (by simpa using RZ.intsAre_vals r) (by unfold scanBound; omega) fun h' tk c hS hc' hk => PyProof.Rows.args_nil ?_
    obtain ⟨o, es, ep, t, ho, hex, hd, g1, g2, g3, g4, hf, hn, _⟩ := hS
    have e : es.size = dup2 ns := by
      have pm : (es.toList.map keyOf).Perm ns := (List.perm_ext_iff_of_nodup g2 hnd).mpr fun k => by rw [← g3 k]; simp
      have := pm.length_eq
      rw [dup2_nodup hnd, ← this, List.length_map]
      simp
    have h3 : dup2 ns ≤ 2 := by rw [dup2_nodup hnd]; exact h1
    have I2 : L2.Inv X pins σ H1 { s1 with heap := h', toks := tk } := I1.kept fun b o e => hk b o e
    exact call_len_set ho hex hd hf (by rw [e]; omega) ⟨.int (dup2 ns), H1, I2.tok _, ⟨_, by rw [e]⟩, q1⟩
theorem ints_rep {K : PySem.W.Frag} {dr : Option Dr} {H : Hp} : ∀ {ns : List Int} {xs : List V}, RepL K dr H (ns.map D.int) xs → xs = ns.map V.int
  | [], _, r => by cases r; rfl
  | n :: ns, _, r => by
    obtain ⟨v, vs, rfl, h1, h2⟩ := r
    cases h1
    rw [ints_rep h2]; rfl
/-- len(set(a)) -/
theorem dx_lenSet (hc : X.calm = true) (hg : Gl X "len") (hm : X.mg "len" = none) (hg2 : Gl X "set") (hm2 : X.mg "set" = none) (h : DE X W M wx δ a (fun d => ∃ ns : List Int, (d = .lst (ns.map D.int) ∨ (d = .tup (ns.map D.int) ∧ ns.Nodup)) ∧ ns.length ≤ 2 ∧ Kp (.int (dup2 ns : Nat))) Ke)
    (na : starEach [a] X.env = (false, eval a X.env) :: starEach [] X.env := by rfl) : DE X W M wx δ (.Call (.Name "len" p) [.Call (.Name "set" p2) [a] [] q] [] pos) Kp Ke :=
  PE.imp (pe_lenSet2 hc hg hm hg2 hm2 pe_any na) fun σ H Q ⟨env, qq, qx⟩ => h.run env (fun x H1 d1 e1 r1 ⟨ns, hd, hl, k⟩ => by
    rcases hd with rfl | ⟨rfl, hnd⟩
    · obtain ⟨l, xs, rfl, h1, h2⟩ := r1
      cases ints_rep h2
      exact ⟨l, ns, rfl, .inl (SqL.of (hide_lst h1)), hl, qq _ H1 (.int _) e1 rfl k⟩
    · obtain ⟨l, xs, rfl, h1, h2⟩ := r1
      cases ints_rep h2
      exact ⟨l, ns, rfl, .inr ⟨hide_SqT h1, hnd⟩, hl, qq _ H1 (.int _) e1 rfl k⟩) qx
end
end Lay

/-! # DS17: own lists are stored, popped, asked, returned -/
namespace Lay
open PySem PySem.Spec PyProof.Rows L2
theorem ownA_add {s : Sl} {p : Addr} : ∀ {δ : De} {σ : L2.St} {i : Nat} {o : Option V}, ownA [s] [o] = [p] → ∀ a, a ∈ ownA (δ.set i s) (σ.set i o) → a = p ∨ a ∈ ownA δ σ
  | [], σ, i, o, h, a, m => by simp [ownA] at m
  | t :: δ, [], i, o, h, a, m => by
    exfalso
    cases i <;> (cases t <;> simp [ownA] at m)
    all_goals (cases s <;> simp [ownA] at m)
  | t :: δ, u :: σ, 0, o, h, a, m => by
    have m' : a ∈ ownA (s :: δ) (o :: σ) := m
    rcases ownA_cons.mp m' with m | m
    · rw [h] at m; exact .inl (List.mem_singleton.mp m)
    · exact .inr (ownA_cons.mpr (.inr m))
  | t :: δ, u :: σ, i + 1, o, h, a, m => by
    have m' : a ∈ ownA (t :: δ.set i s) (u :: σ.set i o) := m
    rcases ownA_cons.mp m' with m | m
    · exact .inr (ownA_cons.mpr (.inl m))
    · exact (ownA_add h a m).imp id fun z => ownA_cons.mpr (.inr z)
theorem ownA_addN {s : Sl} {p : Addr} : ∀ {δ : De} {σ : L2.St} {i : Nat} {o : Option V}, ownA [s] [o] = [p] → p ∉ ownA δ σ → (ownA δ σ).Nodup → (ownA (δ.set i s) (σ.set i o)).Nodup
  | [], σ, i, o, h, _, n => by simp [ownA]
  | t :: δ, [], i, o, h, _, n => by
    cases i <;> (cases t <;> simp [ownA])
    all_goals (cases s <;> simp [ownA])
  | t :: δ, u :: σ, 0, o, h, hp, n => by
    show (ownA (s :: δ) (o :: σ)).Nodup
    rw [ownA_eq, h]
    rw [ownA_eq] at n hp
    refine List.nodup_append.mpr ⟨by simp, (List.nodup_append.mp n).2.1, fun a ha b hb e => hp ?_⟩
    rw [← List.mem_singleton.mp ha, e]
    exact List.mem_append_right _ hb
  | t :: δ, u :: σ, i + 1, o, h, hp, n => by
    show (ownA (t :: δ.set i s) (u :: σ.set i o)).Nodup
    rw [ownA_eq] at n hp ⊢
    obtain ⟨n1, n2, n3⟩ := List.nodup_append.mp n
    refine List.nodup_append.mpr ⟨n1, ownA_addN h (fun z => hp (List.mem_append_right _ z)) n2, fun a ha b hb e => ?_⟩
    rcases ownA_add h b hb with z | z
    · exact hp (List.mem_append_left _ (by rw [← z, ← e]; exact ha))
    · exact n3 a ha b z e
section
variable {K : PySem.W.Frag} {W : Wd} {M : List Addr} {δ : De} {σ : L2.St} {H : Hp} {i : Nat} {l : List D} {xs : List V} {p : Addr}
/-- a new list of one's own is put into a slot -/
theorem EnvOk.setOw (h : EnvOk K W M δ σ H) (hp : H p = none) (r : RepL K W.dr (hide (hidA W M δ σ) H) l xs) : EnvOk K W M (δ.set i (.ow l)) (σ.set i (some (.ref p))) (upd H p (.lst xs)) := by
  have e1 : Ext W H (upd H p (.lst xs)) := Ext.new h.w hp
  have np := h.amb.new hp
  have sub : ∀ a, a ∈ hidA W M (δ.set i (.ow l)) (σ.set i (some (.ref p))) → a = p ∨ a ∈ hidA W M δ σ := fun a ha => by
    simp only [hidA, List.mem_append] at ha ⊢
    rcases ha with ha | ha
    · exact .inr (.inl ha)
    · exact (ownA_add (s := .ow l) rfl a ha).imp id .inr
  have k : ExN (hide (hidA W M δ σ) H) (hide (hidA W M (δ.set i (.ow l)) (σ.set i (some (.ref p)))) (upd H p (.lst xs))) := fun b u hb t => by
    obtain ⟨h1, h2⟩ := hide_some hb
    have hbp : b ≠ p := fun z => by rw [z, hp] at h2; cases h2
    exact hide_of (fun z => (sub b z).elim hbp h1) (by rw [upd_ne hbp]; exact h2)
  refine ⟨e1.ok, (h.ext e1).m, ownA_addN (s := .ow l) rfl (fun z => np (by simp [hidA, z])) h.nd, fun a ha => ?_, ?_⟩
  · rcases ownA_add (s := .ow l) rfl a ha with rfl | z
    · simp only [hidA, List.mem_append, not_or] at np
      exact np.1
    · exact h.dj a z
  · exact SlotsOk.set (s := .ow l) (o := some (.ref p)) ⟨p, xs, rfl, upd_same, r.mono k⟩ i (h.sl.stay k fun a u ha e _ => by
      rw [upd_ne (fun z => np (by rw [← z]; simp [hidA, ha]))]; exact e)
end
theorem SEnv.setOw {F : Fr} {K : PySem.W.Frag} {δ : De} {σ : L2.St} {H : Hp} {i : Nat} {l : List D} {xs : List V} {p : Addr} (h : SEnv K F δ σ H) (hp : H p = none) (r : RepL K F.W.dr (hide (hidA F.W F.M δ σ) H) l xs) : SEnv K F (δ.set i (.ow l)) (σ.set i (some (.ref p))) (upd H p (.lst xs)) := by
  refine ⟨h.env.setOw hp r, (h.go (Ext.new h.env.w hp)).ext, fun a ha => ?_⟩
  rcases ownA_add (s := .ow l) rfl a ha with rfl | z
  · cases e : F.H0 a with
    | none => exact .inr (.inl rfl)
    | some o =>
      by_cases t : ∃ ps, o = .tbl ps
      · obtain ⟨ps, rfl⟩ := t
        exact .inr (.inr ⟨ps, rfl⟩)
      · by_cases n : a ∈ F.N
        · exact .inl n
        · have hr : a ∉ F.W.rg := fun z => by
            obtain ⟨o', e', _⟩ := h.env.w.tr z
            rw [hp] at e'; cases e'
          have := h.ext a o hr n e fun ps z => t ⟨ps, z⟩
          rw [hp] at this; cases this
  · exact h.own a z
section
variable {X : Cx} {W : Wd} {M : List Addr} {wx : WX} {δ : De} {e a b : Expr} {O : Out} {Ke : KX} {Kp : KD} {Kb : Bool → Prop} {Kl : List D → Prop} {pos p1 p2 p3 : Pos} {x : Str}
/-- x = a new list, x one's own -/
theorem ds_setF (i : Nat) {pos' : Pos} (hN : X.N.Nodup) (hi : X.N[i]? = some x) (hx : Loc X.env.scope x) (h : DF X W M wx δ e (fun l => O.nx (δ.set i (.ow l))) Ke) (hs : swapsWith e (some (.Name x pos')) pos.line X.env = pure false := by rfl) (hf : X.fn x = true ∨ X.env.scope.names.lookup x = some .local := by first | exact .inl rfl | exact .inr rfl) :
    DS X W M wx δ (.Assign [.Name x pos'] e pos) O Ke := fun H0 N =>
  PS.imp (ps_set hN hi hx pe_any hs hf) fun Dn σ H ⟨env, n, bb, c, r, xx⟩ => h.run env.env (fun p H1 xs l e1 hp r1 k => n _ _ _ ((env.go e1).setOw hp (r1)) k) fun y cls dd H' e1 r1 k => xx y cls dd σ H' (env.go e1).xe (r1.mono (hid_more (F := ⟨W, M, H0, N⟩))) k
/-- x, y = two new lists -/
theorem ds_par2F (i j : Nat) {y : Str} {px py pt : Pos} {kt k2 pt2} (hc : X.calm = true) (hN : X.N.Nodup) (hi : X.N[i]? = some x) (hj : X.N[j]? = some y) (hij : i ≠ j) (hx : X.env.scope.names.lookup x = some .local) (hy : X.env.scope.names.lookup y = some .local)
    (hw : swappedStores [.Tuple [.Name x px, .Name y py] kt pt] (.Tuple [a, b] k2 pt2) X.env = pure (some [x, y])) (h : DF X W M wx δ a (fun l => ∀ p, DF X W (p :: M) wx δ b (fun m => O.nx ((δ.set i (.ow l)).set j (.ow m))) Ke) Ke)
    (hs : swapsWithSole [.Tuple [.Name x px, .Name y py] kt pt] (.Tuple [a, b] k2 pt2) pos.line X.env = pure false := by rfl) (h1 : starEach [a, b] X.env = (false, eval a X.env) :: starEach [b] X.env := by rfl) (h2 : starEach [b] X.env = (false, eval b X.env) :: starEach [] X.env := by rfl) :
    DS X W M wx δ (.Assign [.Tuple [.Name x px, .Name y py] kt pt] (.Tuple [a, b] k2 pt2) pos) O Ke := fun H0 N =>
  PS.imp (ps_par hc hN hi hj hij hx hy (pa_cons pe_any (pa_cons pe_any pa_nil h2) h1) hw hs) fun Dn σ H ⟨env, n, bb, c, r, xx⟩ => h.run env.env (fun p H1 xs l e1 hp r1 hb => by
    have env1 := env.go e1
    have e2 : Ext W H1 (upd H1 p (.lst xs)) := Ext.new env1.env.w hp
    have hr : p ∉ W.rg := fun z => by
      obtain ⟨o', e', _⟩ := env1.env.w.tr z
      rw [hp] at e'; cases e'
    have np := env1.env.amb.new hp
    have envp : EnvOk X.K W (p :: M) δ σ (upd H1 p (.lst xs)) := by
      refine ⟨e2.ok, fun a ha => ?_, env1.env.nd, fun a ha => ⟨(env1.env.dj a ha).1, fun z => ?_⟩, env1.env.sl.stay (fun b u hb t => ?_) fun a u ha e _ => ?_⟩
      · rcases List.mem_cons.mp ha with rfl | ha
        · exact ⟨hr, _, upd_same, fun _ z => by cases z⟩
        · exact ((env1.go e2).env.m a ha)
      · rcases List.mem_cons.mp z with rfl | z
        · exact np (by simp [hidA, ha])
        · exact (env1.env.dj a ha).2 z
      · obtain ⟨h1, h2⟩ := hide_some hb
        have hbp : b ≠ p := fun z => by rw [z, hp] at h2; cases h2
        refine hide_of (fun z => h1 ?_) (by rw [upd_ne hbp]; exact h2)
        simp only [hidA, List.mem_append, List.mem_cons] at z ⊢
        rcases z with (z | z | z) | z
        · exact .inl (.inl z)
        · exact absurd z hbp
        · exact .inl (.inr z)
        · exact .inr z
      · rw [upd_ne (fun z => np (by rw [← z]; simp [hidA, ha]))]; exact e
    refine (hb p).run envp (fun q H2 ys m e3 hq r3 k => ?_) fun y cls dd H' e r1 k => xx y cls dd σ H' (env.go (e1.trans (e2.trans e))).xe (r1.mono (hide_more fun a ha => ?_)) k
    · have s1 := (env1.setOw (i := i) hp r1).go e3
      refine ⟨_, _, rfl, n _ _ _ (s1.setOw (i := j) hq (r3.mono (hide_more fun a ha => ?_))) k⟩
      simp only [hidA, List.mem_append, List.mem_cons] at ha ⊢
      rcases ha with ha | ha
      · rcases ha with ha | ha
        · exact .inl (.inl ha)
        · exact .inl (.inr (.inr ha))
      · rcases ownA_add (s := .ow l) rfl a ha with z | z
        · exact .inl (.inr (.inl z))
        · exact .inr z
    · simp only [hid0, List.mem_append, List.mem_cons] at ha ⊢
      rcases ha with ha | ha
      · exact .inl (.inl ha)
      · exact .inl (.inr (.inr ha)))
    fun y cls dd H' e1 r1 k => xx y cls dd σ H' (env.go e1).xe (r1.mono (hid_more (F := ⟨W, M, H0, N⟩))) k
end
end Lay

/-! # DS18: own lists: popped, asked, returned -/
namespace Lay
open PySem PySem.Spec PyProof.Rows L2
theorem RepL.unsnoc {K : PySem.W.Frag} {dr : Option Dr} {H : Hp} {l : List D} {d : D} {xs : List V} (r : RepL K dr H (l ++ [d]) xs) : ∃ v, xs[xs.length - 1]? = some v ∧ Rep K dr H d v ∧ RepL K dr H l xs.dropLast := by
  obtain ⟨v, h1, h2⟩ := r.getD (i := l.length) (d := d) (by simp)
  have hl : xs.length = l.length + 1 := by rw [← r.length]; simp
  refine ⟨v, by rw [hl]; exact h1, h2, ?_⟩
  have := r.dropLast
  rwa [List.dropLast_concat] at this
section
variable {X : Cx} {W : Wd} {M : List Addr} {wx : WX} {δ : De} {O : Out} {Ke : KX} {Kb : Bool → Prop} {pos pos' p1 p2 p3 : Pos} {x y : Str} {l : List D} {d : D}
/-- x = y.pop(), y a list of one's own -/
theorem ds_popS (i j : Nat) (hN : X.N.Nodup) (hi : X.N[i]? = some x) (hx : Loc X.env.scope x) (hj : X.N[j]? = some y) (hv : Vis X.env.scope y) (hd : δ[j]? = some (.ow (l ++ [d]))) (k : O.nx ((δ.set j (.ow l)).set i (.im d)))
    (hs : swapsWith (.Call (.Attribute (.Name y p1) "pop" p2) [] [] p3) (some (.Name x pos')) pos.line X.env = pure false := by rfl) (hf : X.fn x = true ∨ X.env.scope.names.lookup x = some .local := by first | exact .inl rfl | exact .inr rfl)
    (hline : (p2.endLine == p3.line) = true := by rfl) (hdb : (y == ("__debug__" : Str)) = false := by decide) (hcd : (y == ("__classdict__" : Str)) = false := by decide) (hbase : attributeBase (.Name y p1) "pop" X.env (eval (.Name y p1) X.env) = eval (.Name y p1) X.env := by rfl) :
    DS X W M wx δ (.Assign [.Name x pos'] (.Call (.Attribute (.Name y p1) "pop" p2) [] [] p3) pos) O Ke := fun H0 N =>
  PS.imp (ps_set hN hi hx (pe_bm0 PySem.F.plainAttrs_list PySem.F.slot_list_pop PySem.F.type_list_pop mt_pop (pe_var hj hv hdb hcd) hbase hline) hs hf) fun Dn σ H ⟨env, n, b, c, r, xx⟩ => by
    obtain ⟨a, xs, e1, hown, h2, h3⟩ := own_at env.env hd
    obtain ⟨v, h4, h5, h6⟩ := h3.unsnoc
    refine ⟨_, e1, .inl ⟨rfl, xs, SqL.of h2⟩, a, xs, v, rfl, rfl, h2, h4, ?_⟩
    have env1 := env.write (m := l) (ys := xs.dropLast) hd e1 h2 h6
    refine n _ _ _ (env1.put (h5.mono ?_)) k
    rw [show hidA W M (δ.set j (.ow l)) σ = hidA W M δ σ by rw [hidA, hidA, ownA_setOw hd], hide_write (by simp [hidA, hown])]
    exact LamX.ExtN.refl _
/-- y != [], y a list of one's own -/
theorem dt_owNe {k : Nat} (j : Nat) (hr : Room k X.A) (hj : X.N[j]? = some y) (hv : Vis X.env.scope y) (hd : δ[j]? = some (.ow l)) (hok : okd 64 (.lst l) = true) (h : Kb (!l.isEmpty)) (hdb : (y == ("__debug__" : Str)) = false := by decide) (hcd : (y == ("__classdict__" : Str)) = false := by decide) :
    DT X W M wx δ (.Compare (.Name y p1) [.NotEq] [.List [] p2] pos) Kb Ke :=
  PT.imp (pt_cmpR (op_neD hr.units) (pe_var hj hv hdb hcd) (pe_lst pa_nil) rfl) fun σ H Q ⟨env, q, qx⟩ => by
    obtain ⟨a, xs, e1, hown, h2, h3⟩ := own_at env hd
    refine ⟨_, e1, by rw [sizeLine_eq]; exact Nat.zero_le _, fun p hp => ?_⟩
    have am := env.amb
    have e2 : Ext W H (upd H p (.lst [])) := Ext.new am.w hp
    obtain ⟨pd, a1, a2, a3⟩ := okd_py 64 _ hok
    obtain ⟨ps, h5, h6, h7⟩ := okdL_py 63 l hok
    have ep : pd = .list ps := by simp only [py, h5] at a1; exact (Option.some.inj a1).symm
    subst ep
    have hpa : p ≠ a := fun z => by rw [z, h2] at hp; cases hp
    have hA : upd H p (.lst []) a = some (.lst xs) := by rw [upd_ne (fun z => hpa z.symm)]; exact h2
    have dd := deq_nil hok
    unfold deq at dd
    rw [a1] at dd
    refine ⟨.list ps, .list [], .lst (SqL.of hA) (dpL_of l xs ps (h3.mono (am.hid e2)) h5), .lst (SqL.of upd_same) .nil, by simp [SeqAt.shaped, a2, a3], by decide +kernel, _, rfl, ?_⟩
    have e : PyData.eqv (.list ps) (.list []) = l.isEmpty := by simpa [py, pyL] using dd
    rw [e]
    exact q _ _ e2 h
/-- return y, a list of one's own -/
theorem ds_retOw (j : Nat) (hj : X.N[j]? = some y) (hv : Vis X.env.scope y) (hd : δ[j]? = some (.ow l)) (k : O.rt (.lst l)) (hdb : (y == ("__debug__" : Str)) = false := by decide) (hcd : (y == ("__classdict__" : Str)) = false := by decide) : DS X W M wx δ (.Return (some (.Name y p1)) pos) O Ke := fun H0 N =>
  PS.imp (ps_ret (pe_var hj hv hdb hcd)) fun Dn σ H ⟨env, n, b, c, r, xx⟩ => by
    obtain ⟨a, xs, e1, hown, h2, h3⟩ := own_at env.env hd
    have hdj := env.env.dj a hown
    refine ⟨_, e1, r _ H (.lst l) env.xe ⟨a, xs, rfl, hide_of (fun z => ?_) h2, h3.mono (hid_more (F := ⟨W, M, H0, N⟩))⟩ k⟩
    simp only [hid0, List.mem_append] at z
    exact z.elim hdj.1 hdj.2
end
end Lay

/-! # DS19: the draws' state -/
namespace Lay
open PySem PySem.Spec PyProof.Rows L2
/-- the draws' state is changed -/
theorem Ext.draw {W : Wd} {H : Hp} {d : Dr} {a : Addr} {o u : HO} (h : WOk W H) (hd : W.dr = some d) (ha : a ∈ W.rg) (e : H a = some o) (m : Mut (some o)) (hx : ∀ φ, o ≠ .ext φ) (new : DrOk d (upd H a u)) : Ext W H (upd H a u) := by
  have nt : ∀ ps, o ≠ .tbl ps := fun ps z => by subst z; exact m
  refine ⟨fun b w hb hw _ => by rw [upd_ne (fun z => hb (by rw [z]; exact ha))]; exact hw, ⟨fun p hp => ?_, fun d' hd' => ?_⟩⟩
  · obtain ⟨ps, h1, h2, h3⟩ := h.tabs p hp
    refine ⟨ps, ?_, h2, fun pos cv hc => ?_⟩
    · rw [upd_ne (fun z => by rw [z, e] at h1; exact nt ps (Option.some.inj h1))]
      exact h1
    · obtain ⟨c, e1, e2⟩ := h3 pos cv hc
      refine ⟨c, e1, ?_⟩
      rw [upd_ne (fun z => by rw [z, e] at e2; exact hx _ (Option.some.inj e2))]
      exact e2
  · rw [hd] at hd'
    cases hd'
    exact new
theorem rep_intsV {K : PySem.W.Frag} {dr : Option Dr} {H : Hp} : ∀ ns : List Int, RepL K dr H (ns.map D.int) (ns.map V.int)
  | [] => rfl
  | n :: ns => ⟨_, _, rfl, rfl, rep_intsV ns⟩
section
variable {X : Cx} {T : List (Addr × Str)} {d : Dr} {M : List Addr} {wx : WX} {δ : De} {O : Out} {Ke : KX} {Kp : KD} {Kb : Bool → Prop} {e b : Expr} {pos p1 p2 p3 p4 p5 p6 p7 p8 : Pos} {x : Str} {j k : Nat} {jj : Nat}
abbrev dwE (x key : Str) (p1 p2 p3 : Pos) (jj : Nat) : Expr := .Subscript (.Name x p1) (.Constant (.str key) jj p2) p3
theorem dw_slot {σ : L2.St} {H : Hp} {W : Wd} (env : EnvOk X.K W M δ σ H) (hd : δ[j]? = some (.im .drw)) (hdr : W.dr = some d) : σ[j]? = some (some (.ref d.dw)) := by
  obtain ⟨v, e1, d', e2, rfl⟩ := env.get hd
  rw [hdr] at e2
  cases e2
  exact e1
/-- without draws there is no draws' datum -/
theorem dss_nodr {st : List Stmt} (j : Nat) (hd : δ[j]? = some (.im .drw)) : DSs X ⟨T, none⟩ M wx δ st O Ke := fun H0 N => ⟨fun pins s σ H Q I ⟨env, _⟩ => by
  obtain ⟨v, e1, d', e2, rfl⟩ := env.env.get hd
  cases e2⟩
/-- draw["rest"], draw["turn"] -/
theorem dx_dget {key : Str} (hr : Room k X.A) (hk : key = "rest" ∨ key = "turn") (hj : X.N[j]? = some x) (hv : Vis X.env.scope x) (hd : δ[j]? = some (.im .drw)) (h : ∀ i : Int, Kp (.int i)) (hdb : (x == ("__debug__" : Str)) = false := by decide) (hcd : (x == ("__classdict__" : Str)) = false := by decide) :
    DE X ⟨T, some d⟩ M wx δ (dwE x key p1 p2 p3 jj) Kp Ke :=
  PE.imp (pe_dget (by have := hr.units; omega) (pe_var hj hv hdb hcd) pe_str fun _ _ => rfl) fun σ H Q ⟨env, q, qx⟩ => by
    obtain ⟨rest, turn, lg, h1, h2, h3, h4⟩ := env.w.drs d rfl
    refine ⟨_, dw_slot env hd rfl, ?_⟩
    rcases hk with rfl | rfl
    · exact ⟨d.dw, .int rest, rfl, DGet.k (k := .inr "rest") h1, q _ H (.int rest) (Ext.refl env.w) rfl (h rest)⟩
    · exact ⟨d.dw, .int turn, rfl, DGet.k (k := .inr "turn") h1, q _ H (.int turn) (Ext.refl env.w) rfl (h turn)⟩
/-- draw["rest"] = e, draw["turn"] = e -/
theorem ds_dput (j : Nat) {key : Str} (hr : Room k X.A) (hk : key = "rest" ∨ key = "turn") (hj : X.N[j]? = some x) (hv : Vis X.env.scope x) (hd : δ[j]? = some (.im .drw)) (h : DE X ⟨T, some d⟩ M wx δ e (asI fun _ => O.nx δ) Ke) (hs : swapsWith e (some (dwE x key p1 p2 p3 jj)) pos.line X.env = pure false := by rfl)
    (hdb : (x == ("__debug__" : Str)) = false := by decide) (hcd : (x == ("__classdict__" : Str)) = false := by decide) : DS X ⟨T, some d⟩ M wx δ (.Assign [dwE x key p1 p2 p3 jj] e pos) O Ke := fun H0 N =>
  PS.imp (ps_dput (by have := hr.units; omega) (pe_var hj hv hdb hcd) pe_str pe_any hs) fun Dn σ H ⟨env, n, bb, c, r, xx⟩ => ex_run h env (fun v H' dd env' e1 r1 kk => by
    obtain ⟨i, rfl, kk⟩ := asI_ex kk
    cases r1
    obtain ⟨rest, turn, lg, h1, h2, h3, h4⟩ := env'.env.w.drs d rfl
    have ne1 : d.lg ≠ d.dw := fun z => by rw [z, h1] at h2; cases h2
    have ne2 : d.cl ≠ d.dw := fun z => by rw [z, h1] at h3; cases h3
    refine ⟨_, dw_slot env'.env hd rfl, ?_⟩
    rcases hk with rfl | rfl
    · have e2 : Ext ⟨T, some d⟩ H' (upd H' d.dw (drD d i turn)) := Ext.draw env'.env.w rfl (by simp [Wd.rg]) h1 trivial (fun _ z => by cases z) ⟨i, turn, lg, upd_same, by rw [upd_ne ne1]; exact h2, by rw [upd_ne ne2]; exact h3, h4⟩
      exact ⟨d.dw, _, rfl, DPut.k (k := .inr "rest") h1 (by rw [sizeLine_eq]; simp), n _ _ _ (env'.go e2) kk⟩
    · have e2 : Ext ⟨T, some d⟩ H' (upd H' d.dw (drD d rest i)) := Ext.draw env'.env.w rfl (by simp [Wd.rg]) h1 trivial (fun _ z => by cases z) ⟨rest, i, lg, upd_same, by rw [upd_ne ne1]; exact h2, by rw [upd_ne ne2]; exact h3, h4⟩
      exact ⟨d.dw, _, rfl, DPut.k (k := .inr "turn") h1 (by rw [sizeLine_eq]; simp), n _ _ _ (env'.go e2) kk⟩) xx
/-- in draw["cells"] -/
theorem di_cells {tg : Expr} {KI : List D → Prop} (hr : Room k X.A) (hj : X.N[j]? = some x) (hv : Vis X.env.scope x) (hd : δ[j]? = some (.im .drw)) (h : KI (d.cs.map D.int)) (hdb : (x == ("__debug__" : Str)) = false := by decide) (hcd : (x == ("__classdict__" : Str)) = false := by decide) :
    DI X ⟨T, some d⟩ M wx δ tg (dwE x "cells" p1 p2 p3 jj) KI Ke :=
  PI.imp (pi_seq (pe_dget (by have := hr.units; omega) (pe_var hj hv hdb hcd) pe_str fun _ _ => rfl)) fun σ H R ⟨env, q, qx⟩ => by
    obtain ⟨rest, turn, lg, h1, h2, h3, h4⟩ := env.w.drs d rfl
    refine ⟨_, dw_slot env hd rfl, d.dw, .ref d.cl, rfl, DGet.k (k := .inr "cells") h1, d.cl, rfl, .inl ⟨d.cs.map V.int, SqL.of h3, q _ H (d.cs.map D.int) (Ext.refl env.w) ?_ h⟩⟩
    refine ⟨fun H => SqL X.K H d.cl (d.cs.map V.int), YAt (d.cs.map V.int), by rw [List.length_map]; have := walk_list (K := X.K) (a := d.cl) (xs := d.cs.map V.int); rw [List.length_map] at this; exact this, fun S' H w _ => ?_, fun S' i H x H' hi am' e y => ?_⟩
    · obtain ⟨_, _, _, _, _, h3, _⟩ := w.drs d rfl
      exact SqL.of h3
    · obtain ⟨rfl, y⟩ := y
      rw [List.getElem?_map] at y
      obtain ⟨c, hc, rfl⟩ := Option.map_eq_some_iff.mp y
      exact ⟨Ext.refl am'.w, .int c, by rw [List.getElem?_map, hc]; rfl, rfl⟩
/-- draw["large"].pop(0) if draw["large"] != [] else mixed(draw) -/
theorem dx_draw {y : Str} {ps : List Str} (hr : Room k X.A) (tk : Takes X wx) (hj : X.N[j]? = some x) (hv : Vis X.env.scope x) (hd : δ[j]? = some (.im .drw)) (F : Fn (Cx.pg X T) y k ps fun ds Kp _ => as1 (fun d => d = .drw ∧ ∀ i : Int, Kp (.int i)) ds) (hps : ps.length = 1) (hg : Gl X y)
    (h : ∀ i : Int, Kp (.int i)) (hy : (y == ("__debug__" : Str)) = false := by decide) (hdb : (x == ("__debug__" : Str)) = false := by decide) (hcd : (x == ("__classdict__" : Str)) = false := by decide) (he : starEach [.Name x p7] X.env = (false, eval (.Name x p7) X.env) :: starEach [] X.env := by rfl)
    {q1 q2 q3 q4 q5 q6 : Pos} {j2 j3 : Nat} (hc0 : starEach [.Constant (.int 0) j3 q5] X.env = (false, eval (.Constant (.int 0) j3 q5) X.env) :: starEach [] X.env := by rfl) (hline : (q4.endLine == q6.line) = true := by rfl)
    (hbase : attributeBase (dwE x "large" q1 q2 q3 j2) "pop" X.env (eval (dwE x "large" q1 q2 q3 j2) X.env) = eval (dwE x "large" q1 q2 q3 j2) X.env := by rfl)
    (hfew : ((backTo q6 (starEach [.Constant (.int 0) j3 q5] X.env)).all (fun x => !x.1) && (backToKw q6 (keywordEach [] X.env)).all (fun x => x.1.isSome) && decide (([.Constant (.int 0) j3 q5] : List Expr).length + ([] : List Keyword).length + (if ([] : List Keyword).isEmpty then 0 else 1) < 30)) = true := by rfl)
    (hpl : (backTo q6 (starEach [] X.env)).any (·.1) = false := by rfl) :
    DE X ⟨T, some d⟩ M wx δ (.IfExp (.Compare (dwE x "large" p1 p2 p3 jj) [.NotEq] [.List [] p4] p5) (.Call (.Attribute (dwE x "large" q1 q2 q3 j2) "pop" q4) [.Constant (.int 0) j3 q5] [] q6) (.Call (.Name y p6) [.Name x p7] [] p8) pos) Kp Ke := by
  have hu : X.A.units + 1 < cLine := by have := hr.units; omega
  have call : DE X ⟨T, some d⟩ M wx δ (.Call (.Name y p6) [.Name x p7] [] p8) Kp Ke :=
    dx_call F hr tk hg (da_cons (dx_name j hj hv hd (da_nil ⟨hps.symm, rfl, h⟩) hdb hcd) he) hy he (by rfl)
  refine PE.imp (pe_ifExp (pt_cmpR (op_neD hr.units) (pe_dget hu (pe_var hj hv hdb hcd) pe_str fun _ _ => rfl) (pe_lst pa_nil) rfl) (pe_bm PySem.F.plainAttrs_list PySem.F.slot_list_pop PySem.F.type_list_pop mt_popAt (pe_dget hu (pe_var hj hv hdb hcd) pe_str fun _ _ => rfl) (pa_cons pe_int pa_nil hc0) hbase hfew hline hc0 hpl) pe_any) fun σ H Q ⟨env, q, qx⟩ => ?_
  obtain ⟨rest, turn, lg, h1, h2, h3, h4⟩ := env.w.drs d rfl
  have sl := dw_slot env hd rfl
  refine ⟨_, sl, d.dw, .ref d.lg, rfl, DGet.k (k := .inr "large") h1, by rw [sizeLine_eq]; exact Nat.zero_le _, fun p hp => ?_⟩
  have am := env.amb
  have e2 : Ext ⟨T, some d⟩ H (upd H p (.lst [])) := Ext.new am.w hp
  have hok : okd 64 (.lst (lg.map D.int)) = true := okd_lst.mpr fun z hz => by
    obtain ⟨n, _, rfl⟩ := List.mem_map.mp hz
    rfl
  obtain ⟨pd, a1, a2, a3⟩ := okd_py 64 _ hok
  obtain ⟨ps', h5, h6, h7⟩ := okdL_py 63 (lg.map D.int) hok
  have ep : pd = .list ps' := by simp only [py, h5] at a1; exact (Option.some.inj a1).symm
  subst ep
  have np : ∀ {a : Addr} {o : HO}, H a = some o → a ≠ p := fun h z => by rw [z, hp] at h; cases h
  have g1 : upd H p (.lst []) d.lg = some (.lst (lg.map V.int)) := by rw [upd_ne (np h2)]; exact h2
  have g2 : upd H p (.lst []) d.dw = some (drD d rest turn) := by rw [upd_ne (np h1)]; exact h1
  have g3 : upd H p (.lst []) d.cl = some (.lst (d.cs.map V.int)) := by rw [upd_ne (np h3)]; exact h3
  have dd := deq_nil hok
  unfold deq at dd
  rw [a1] at dd
  have ev : PyData.eqv (.list ps') (.list []) = (lg.map D.int).isEmpty := by simpa [py, pyL] using dd
  refine ⟨.list ps', .list [], .lst (SqL.of g1) (dpL_of (S := []) (dr := none) (lg.map D.int) (lg.map V.int) ps' (rep_intsV lg) h5), .lst (SqL.of upd_same) .nil, by simp [SeqAt.shaped, a2, a3], by decide +kernel, _, rfl, ?_⟩
  rw [ev]
  cases lg with
  | nil => exact iteF (call.run (env.ext e2) (fun v H' dd e r k => q v H' dd (e2.trans e) r k) fun x cls dd H' e => qx x cls dd H' (e2.trans e))
  | cons n lg =>
    refine iteT ⟨_, sl, d.dw, .ref d.lg, rfl, DGet.k (k := .inr "large") g2, .inl ⟨rfl, _, SqL.of g1⟩, d.lg, _, 0, 0, .int n, rfl, rfl, g1, by decide, by decide, by simp [seqIndex?], rfl, ?_⟩
    have ne1 : d.lg ≠ d.dw := fun z => by rw [z, h1] at h2; cases h2
    have e3 : Ext ⟨T, some d⟩ (upd H p (.lst [])) (upd (upd H p (.lst [])) d.lg (.lst (lg.map V.int))) := Ext.draw e2.ok rfl (by simp [Wd.rg]) g1 trivial (fun _ z => by cases z) ⟨rest, turn, lg, by rw [upd_ne (Ne.symm ne1)]; exact g2, upd_same, by rw [upd_ne (Ne.symm h4)]; exact g3, h4⟩
    exact q (.int n) _ (.int n) (e2.trans e3) rfl (h n)
end
end Lay

/-! # DS20: dicts as data; comprehensions of which all items are good -/
namespace Lay
open PySem PySem.Spec PyProof.Rows L2
def kD : Key → D
  | .inl i => .int i
  | .inr x => .str x
theorem kD_rep {K : PySem.W.Frag} {dr : Option Dr} {H : Hp} {k : Key} {v : V} (r : Rep K dr H (kD k) v) : v = kV k := by
  cases k <;> exact r
theorem pairs_rep {K : PySem.W.Frag} {dr : Option Dr} {H : Hp} {S : List Addr} : ∀ {kvs : List (Key × D)} {xs : List V}, RepL K dr (hide S H) (kvs.map fun kv => .tup [kD kv.1, kv.2]) xs →
    ∃ (ps : List Addr) (vs : List V), xs = ps.map V.ref ∧ Paired (fun p (kv : Key × V) => SqT K H p [kV kv.1, kv.2]) ps ((kvs.map (·.1)).zip vs) ∧ RepL K dr (hide S H) (kvs.map (·.2)) vs
  | [], _, r => by cases r; exact ⟨[], [], rfl, .nil, rfl⟩
  | kv :: kvs, _, r => by
    obtain ⟨v, vs, rfl, ⟨a, ys, rfl, h1, h2⟩, h3⟩ := r
    obtain ⟨k, w, rfl, r1, r2⟩ := h2.two
    obtain ⟨ps, vs', rfl, h4, h5⟩ := pairs_rep h3
    cases kD_rep r1
    exact ⟨a :: ps, w :: vs', rfl, .cons (hide_SqT h1) h4, .cons r2 h5⟩
theorem mergeK_new : ∀ {kvs acc : List (Key × V)}, (kvs.map (·.1)).Nodup → (∀ k ∈ kvs.map (·.1), valV acc k = none) → mergeK acc kvs = acc ++ kvs
  | [], acc, _, _ => by simp [mergeK]
  | kv :: kvs, acc, hn, hd => by
    rw [List.map_cons, List.nodup_cons] at hn
    show mergeK (putK acc kv.1 kv.2) kvs = _
    rw [putK_new kv.2 (hd kv.1 (by simp)), mergeK_new hn.2 fun k hk => ?_]
    · simp
    · rw [valV_snoc kv.1 k kv.2 acc (hd kv.1 (by simp)), if_neg (fun z => hn.1 (by rw [← z]; exact hk))]
      exact hd k (by simp only [List.map_cons, List.mem_cons]; exact .inr hk)
section
variable {X : Cx} {W : Wd} {M : List Addr} {wx : WX} {δ : De} {e : Expr} {Kp : KD} {Ke : KX} {pos : Pos}
theorem dx_dic0 (k : Kp (.dic [] [])) : DE X W M wx δ (.Dict [] [] pos) Kp Ke := PE.imp pe_dnewK fun σ H Q ⟨env, q, qx⟩ => fun p hp =>
  q _ _ (.dic [] []) (Ext.new env.w hp) ⟨p, [], rfl, hide_of (env.amb.new hp) upd_same, rfl, rfl⟩ k
/-- {k: v} of an int or a text -/
theorem dx_dic1 {c v : Const} {j1 j2 : Nat} {p1 p2 : Pos} {key : Key} {x : V} (hk : PE X (.Constant c j1 p1) (fun _ H Q => Q (kV key) H)) (hv : PE X (.Constant v j2 p2) (fun _ H Q => Q x H)) {dd : D} (hr : ∀ H, Rep X.K none H dd x) (hr2 : ∀ H, Rep X.K W.dr H dd x) (k : Kp (.dic [key] [dd])) :
    DE X W M wx δ (.Dict [some (.Constant c j1 p1)] [.Constant v j2 p2] pos) Kp Ke :=
  PE.imp (pe_disp (pps_cons hk hv pps_nil) rfl rfl (by simp) (by simp)) fun σ H Q ⟨env, q, qx⟩ => fun p hp => ⟨upd_same, [(key, x)], rfl, by simp, by
    have e1 : Ext W H (upd H p (.dK [])) := Ext.new env.w hp
    have e : upd (upd H p (.dK [])) p (.dK (mergeK [] [(key, x)])) = upd H p (.dK [(key, x)]) := by
      funext b
      by_cases c : b = p
      · subst c; rw [upd_same, upd_same]; rfl
      · rw [upd_ne c, upd_ne c, upd_ne c]
    rw [e]
    exact q _ _ (.dic [key] [dd]) (Ext.new env.w hp) ⟨p, [x], rfl, hide_of (env.amb.new hp) upd_same, rfl, .cons (hr2 _) .nil⟩ k⟩
theorem bb_dictc : bootBuiltins "dict" = some (.type "dict") := bb_dict
/-- dict(a list of pairs) -/
abbrev gDictP : List D → KD → Prop := fun ds k => as1 (fun d => ∃ kvs : List (Key × D), d = .lst (kvs.map fun kv => .tup [kD kv.1, kv.2]) ∧ (kvs.map (·.1)).Nodup ∧ kvs.length ≤ 1000 ∧ k (.dic (kvs.map (·.1)) (kvs.map (·.2)))) ds
theorem cd_dictP (hc : X.calm = true) : ClD X (.type "dict") gDictP := by
  refine ⟨_, call_dictP hc, fun W S H xs ds Kp Q am r g q => ?_⟩
  obtain ⟨d, rfl, kvs, rfl, hn, hl, g⟩ := as1_ex g
  obtain ⟨v, rfl, a, ys, rfl, h1, h2⟩ := r.one
  obtain ⟨ps, vs, rfl, h3, h4⟩ := pairs_rep h2
  have hz : ((kvs.map (·.1)).zip vs).map (·.1) = kvs.map (·.1) := List.map_fst_zip (by rw [← h4.length]; simp)
  refine ⟨a, ps, _, rfl, SqL.of (hide_lst h1), h3, fun p hp => ?_⟩
  rw [mergeK_new (by rw [hz]; exact hn) (fun _ _ => rfl), List.nil_append]
  have e1 : Ext W H (upd H p (.dK ((kvs.map (·.1)).zip vs))) := Ext.new am.w hp
  exact q _ _ (.dic (kvs.map (·.1)) (kvs.map (·.2))) e1 ⟨p, vs, rfl, hide_of (am.new hp) upd_same, by rw [← h4.length]; simp, h4.mono (am.hid e1)⟩ g
variable {scope : Scope} {elt : Expr} {vs : List Nat} {t : Tg} {ds : List D} {Kl : List D → Prop}
/-- a comprehension of which all items have p -/
theorem lc_all (p : D → Prop) (hl : ds.length ≤ 16777216) (ht : ∀ d ∈ ds, t.fits d) (hb : ∀ d ∈ ds, ∀ A s H C cl fp, DE (BX X scope s H C cl fp) W (A :: M) wx0 (t.put d (wipeD δ vs)) elt p kx0) (hk : ∀ l : List D, l.length = ds.length → (∀ y ∈ l, p y) → Kl l) :
    ds.length ≤ 16777216 ∧ ∃ R : D → Option D → Prop, (∀ d ∈ ds, LcB X W M δ scope vs t elt R d) ∧ ∀ l, Coll R ds l → Kl l :=
  ⟨hl, fun _ y => ∃ z, y = some z ∧ p z, fun d hd => ⟨ht d hd, fun A s H C cl fp => (hb d hd A s H C cl fp).weak (fun y e => ⟨y, rfl, e⟩)⟩, fun l h => by
    obtain ⟨h1, h2⟩ := coll_all h fun _ _ _ e => e
    exact hk l h1 h2⟩
theorem ds_setLcN {O : Out} (i j : Nat) {x y : Str} {px py spos : Pos} {iter : Expr} (hc : X.calm = true) (nd : X.N.Nodup) (hy : X.N[i]? = some y) (hyl : X.env.scope.names.lookup y = some .local) (hsw : swapsWith (.ListComp elt [⟨.Name x px, iter, [], 0⟩] scope pos) (some (.Name y py)) spos.line X.env = pure true)
    (hb : blkC X.N X.env.scope scope [(x, j)] = true) (hn : noOwn δ [j] = true) (hN : X.N[j]? = some x) (hl : ∀ s H C cl fp, Loc (BX X scope s H C cl fp).env.scope x ∧ ((BX X scope s H C cl fp).fn x = true ∨ (BX X scope s H C cl fp).env.scope.names.lookup x = some .local))
    (h : DI X W M wx δ (.Name x px) iter (fun ds => ds.length ≤ 16777216 ∧ ∃ R : D → Option D → Prop, (∀ d ∈ ds, LcB X W M δ scope [j] (.n j) elt R d) ∧ ∀ l, Coll R ds l → O.nx (δ.set i (.im (.lst l)))) Ke) (hs : ∀ x, foldedSetIterable iter X.env x = pure x := by intro _; rfl) :
    DS X W M wx δ (.Assign [.Name y py] (.ListComp elt [⟨.Name x px, iter, [], 0⟩] scope pos) spos) O Ke :=
  ds_setLc i [(x, j)] (.n j) hc nd hy hyl hsw (blkOk_by hb) hn (fun j hj => hj) (fun s H C cl fp => pg_name (X := BX X scope s H C cl fp) nd hN (hl s H C cl fp).1 (hl s H C cl fp).2) h hs
end
end Lay

/-! # DS21: except C as e: x = e, where the exception is kept behind the clause -/
namespace Lay
open PySem PySem.Spec PyProof.Rows L2
/-- an exception object of the class cls with the dict d -/
def ExK (cls : Value) (d : Option Addr) (a : Addr) : HO := .ext fun h => ∃ (oe : Obj) (vs : Array Value), h.get? a = some oe ∧ oe.cls = cls ∧ oe.dict = d ∧ oe.data = .fields vs
/-- an object that stood there all along is tracked from now on -/
theorem adopt {X : Cx} {pins : List (Addr × Obj)} {σ : L2.St} {H : Hp} {s : Shared} {a : Addr} {oe : Obj} {vs : Array Value} {φ : Heap → Prop} (I : L2.Inv X pins σ H s) (he : s.heap.get? a = some oe) (hd : oe.data = .fields vs) (hn : H a = none) (h0 : X.s_0.heap.get? a = none) (nL : a ≠ X.env.locals)
    (nP : ∀ p ∈ X.pn ++ pins, p.1 ≠ a) (new : ObjOk X.prog X.w (upd H a (.ext φ)) s.heap a (.ext φ)) : L2.Inv X pins σ (upd H a (.ext φ)) s where
  ok := I.ok
  os := I.os
  bare := I.bare
  base := ⟨I.base.keep, I.base.slot, fun b o e n x => by rw [upd_ne (fun z => by rw [z, h0] at e; cases e)]; exact I.base.free b o e n x, I.base.there, fun b xs e => by
      have := I.base.tups b xs e
      rw [upd_ne (fun z => by rw [z, hn] at this; cases this)]; exact this, fun b o u e => by
      have := I.base.frzs b o u e
      rw [upd_ne (fun z => by rw [z, hn] at this; cases this)]; exact this, fun b ps e => by
      obtain ⟨more, this⟩ := I.base.tbls b ps e
      exact ⟨more, by rw [upd_ne (fun z => by rw [z, hn] at this; cases this)]; exact this⟩⟩
  loc := I.loc
  cell := I.cell
  free := by rw [upd_ne (Ne.symm nL)]; exact I.free
  freeC := fun x c e => by
    obtain ⟨v, o, ho, hc⟩ := I.cell x c e
    rw [upd_ne (fun z => by rw [z, he] at ho; cases ho; rw [hd] at hc; cases hc)]
    exact I.freeC x c e
  pin := fun p hp => by
    obtain ⟨e, n, r⟩ := I.pin p hp
    exact ⟨e, by rw [upd_ne (nP p hp)]; exact n, r⟩
  hok := fun b u e => by
    by_cases hb : b = a
    · subst hb; rw [upd_same] at e; cases e; exact new
    · rw [upd_ne hb] at e
      exact (I.hok b u e).stay (fun c v _ q => q) (fun c q => by rw [upd_ne (ne_of_none q hn)]; exact q) fun c xs q => by rw [upd_ne (ne_of_none q hn)]; exact q
  len := I.len
/-- what the clause wishes of an exception of the body: it goes on with the exception tracked -/
def wKeep (K : PySem.W.Frag) (c : Value) (i : Nat) (ts : Addr → Value → Option Addr → TS) (Wout : WX) (D : Ends) : WX := fun cls d σ H => ∃ b, PySem.W.exmOne K cls c = some b ∧ (b = false → Wout cls d σ H) ∧
  (b = true → ∀ a, H a = none → ts a cls d { nx := fun σ' H' => D.nx (σ'.set i none) (upd H' a (ExK cls d a)), rt := fun _ _ => False, bk := fun _ _ => False, ct := fun _ _ => False } (σ.set i (some (.ref a))) H)
section
variable {X : Cx} {x n : Str} {c : Value} {i : Nat} {body suite : List Stmt} {b₀ : Stmt} {np pos pos' : Pos} {tb : WX → TS} {ts : Addr → Value → Option Addr → TS} {Wout : WX}
theorem ps_try_keep (hs : X.stack = X.env :: X.outer) (hf : X.env.frame = some X.env.locals) (hex : X.ex = []) (hN : X.N.Nodup) (hi : X.N[i]? = some n) (hln : X.env.kindOf n = some .local) (hc : Names X x c) (tk : Takes X Wout)
    (hb : ∀ (W : WX) (pn : List (Addr × Obj)) (xe : Value → Shared → Prop), Takes (X.tr pn xe) W → PassesOwn (model X.prog X.w) X.A X.env xe → PSs (X.tr pn xe) body (tb W))
    (hsu : ∀ (a : Addr) (oe : Obj) (cls : Value) (d : Option Addr) (pn : List (Addr × Obj)), PSs (X.suite a ((a, oe) :: pn)) (b₀ :: suite) (ts a cls d)) :
    PS X (.Try body [.ExceptHandler (some (.Name x np)) (some n) (b₀ :: suite) pos'] [] [] pos) (fun D σ H => tb (wKeep X.K c i ts Wout D) D σ H) := by
  refine ⟨fun pins s σ H D I h => ?_⟩
  have ok := I.ok; have hfr : X.A.frames = some (X.env :: X.outer) := by rw [ok.frames, hs]
  refine wpAny_Try_except (wpAny_mono ((hb (wKeep X.K c i ts Wout D) (X.pn ++ pins) (fun e s1 => wpAny (model X.prog X.w) X.A (noteFrame e X.env) (fun _ s2 => wpAny (model X.prog X.w) X.A (setFlight e none) (fun _ s3 => wpAny (model X.prog X.w) X.A (handleBy e X.env [.ExceptHandler (some (.Name x np)) (some n) (b₀ :: suite) pos']) (SP X pins D) X.xe s3) X.xe s2) X.xe s1)
    (fun u s' xx => ?_) PassesOwn.looking).run [] s σ H D (I.toTry _) h) (fun f s1 hsp => ?_) (fun e s1 he => he))
  · obtain ⟨a, B, sI, pins', σ', H', cls, d, rfl, J', nb, up, sky, na, os, ag, b, hb1, hno, hyes⟩ := xx
    have J := J'.ofTry ok; rw [hs] at sky
    show wpAny (model X.prog X.w) X.A (noteFrame (.ref a) X.env) _ _ _
    refine Sky.land Zc.steady hfr hf sky fun h3 fl3 up3 => ?_
    have J3 : L2.Inv X pins σ' H' { s' with heap := h3 } := J.landed nb fl3.1 (up.trans up3) os ag
    obtain ⟨oe3, vs3, he3, hz3, hd3⟩ := fl3.there
    have nfr : a ∉ frs (X.env :: X.outer) := fun hm => by
      obtain ⟨_, o', e', hnf⟩ := fl3.2.2.1.mem hm
      rw [he3] at e'; cases e'; exact hnf _ hd3
    have nL : a ≠ X.env.locals := fun z => nfr (List.mem_filterMap.mpr ⟨X.env, List.mem_cons_self, by rw [hf, z]⟩)
    have nF : a ∉ X.fs := fun hm => let ⟨e, he, q⟩ := List.mem_filterMap.mp hm; nfr (List.mem_filterMap.mpr ⟨e, List.mem_cons_of_mem _ he, q⟩)
    have sI0 : sI.heap.get? a = none := by
      cases e : sI.heap.get? a with
      | none => rfl
      | some o => have := nb a o e (by rw [hs]; exact nfr); rw [fl3.2.1] at this; cases this
    have s00 : X.s_0.heap.get? a = none := by
      cases e : X.s_0.heap.get? a with
      | none => rfl
      | some o =>
        obtain ⟨o', e'⟩ := J.base.there a o e (by rw [hex]; simp)
        rw [sI0] at e'; cases e'
    have nP : ∀ p ∈ X.pn ++ pins, p.1 ≠ a := fun p hp z => by
      have := (J.pin p hp).1
      rw [z, sI0] at this; cases this
    have S3 := J3.suite he3 hd3 na nL nF
    refine wpAny_handleBy_cons (codeAny_handlers_test ?_) (by intro q; cases q)
    have LM := PySem.W.exm_one (M := model X.prog X.w) (J3.kIn) (show PySem.W.Looks (model X.prog X.w) h3 (typeOf (.ref a)) cls from fun A Q E s k q => wpAny_typeOf_ref (k _ _ he3) (by rw [hz3.1]; exact q)) hb1
    have test : ∀ {Q : Value → Shared → Prop} {E : Value → Shared → Prop}, Q c { s' with heap := h3 } → wpAny (model X.prog X.w) (X.A.mark (some (.ref a))) (eval (.Name x np) X.env) Q E { s' with heap := h3 } := fun {Q E} q => match hc with
      | ⟨hg, hdbg, .inl hm⟩ => ld_glob (X := X.suite a ((a, oe3) :: (X.pn ++ pins))) S3 hg hm q hdbg
      | ⟨hg, hdbg, .inr ⟨hm, hv, hnn⟩⟩ => ld_blt (X := X.suite a ((a, oe3) :: (X.pn ++ pins))) S3 hg hm hv q hnn hdbg
    refine test (LM.here ?_)
    cases b with
    | true =>
      refine codeAny_handlers_suite_as (HandSPX.lands_againZ fl3 fun h4 fl4 up4 => ?_)
      have J4 : L2.Inv X pins σ' H' { s' with heap := h4 } := J.landed nb fl4.1 ((up.trans up3).trans up4) os ag
      obtain ⟨oe4, vs4, he4, hz4, hd4⟩ := fl4.there
      refine store_ok (X := X.suite a ((a, oe4) :: (X.pn ++ pins))) (v := .ref a) (J4.suite he4 hd4 na nL nF) hN hi (.inl hln) rfl (fun s5 S5 => wpAny_mono ((hsu a oe4 cls d (X.pn ++ pins)).run [] s5 _ H' _ S5 (hyes rfl a na)) (fun f s6 hsp => ?_) (fun _ _ z => False.elim z)) (.inr hln)
      match f, hsp with
      | .next, ⟨σ6, H6, S6, q6⟩ =>
        obtain ⟨e6, n6, _⟩ := S6.pin (a, oe4) (List.mem_append_left _ List.mem_cons_self)
        exact gone_ok (adopt (φ := fun h => ∃ (oe : Obj) (vs : Array Value), h.get? a = some oe ∧ oe.cls = cls ∧ oe.dict = d ∧ oe.data = .fields vs) (S6.unsuite ok) e6 hd4 n6 s00 nL nP ⟨⟨oe4, vs4, e6, hz4.1, hz4.2, hd4⟩, ⟨oe4, e6⟩, fun _ _ ⟨o, v, q, r⟩ k => ⟨o, v, k o q, r⟩⟩) hN hi hln fun s7 J7 => ⟨_, _, J7, q6⟩
      | .brk, ⟨_, _, _, q6⟩ => exact q6.elim
      | .cont, ⟨_, _, _, q6⟩ => exact q6.elim
      | .ret u, ⟨_, _, _, _, _, q6⟩ => exact q6.elim
    | false =>
      show wpAny _ X.A (handleBy (.ref a) X.env []) _ _ _
      refine wpAny_handleBy_nil ?_; obtain ⟨k1, k2, k3, oe, vs, T, oT, ts', he, hz, hd, h1, hr⟩ := id fl3
      unfold PySem.passOn
      refine wpAny_bind (wpAny_field he hd h1 ?_); rw [if_neg (show ¬ ((Value.ref T == Value.none) = true) from by simp)]
      have fin : wpAny (model X.prog X.w) X.A (setFlight (.ref a) X.env.frame) (fun _ s4 => wpAny (model X.prog X.w) X.A (throw (.ref a) : Sem Flow) (SP X pins D) X.xe s4) X.xe { s' with heap := h3 } := by
        rw [hf]; exact HandSPX.setFlight_upZ fl3 fun h4 hh4 up4 => wpAny_throw (tk _ _ ⟨a, B, sI, pins, σ', H', cls, d, rfl, J, nb, (up.trans up3).trans up4, .inr (.inr (by rw [hs]; exact hh4)), na, os, ag, hno rfl⟩)
      first | exact wpAny_bind (wpAny_pure (wpAny_bind fin)) | exact wpAny_bind fin
  · match f, hsp with
    | .next, ⟨σ', H', J', q⟩ => exact wpAny_execs_nil ⟨σ', H', J'.ofTry ok, q⟩
    | .brk, ⟨σ', H', J', q⟩ => exact ⟨σ', H', J'.ofTry ok, q⟩
    | .cont, ⟨σ', H', J', q⟩ => exact ⟨σ', H', J'.ofTry ok, q⟩
    | .ret u, ⟨v, σ', H', J', r, q⟩ => exact ⟨v, σ', H', J'.ofTry ok, r, q⟩
end
end Lay

/-! # DS22: caught(lambda: e): None, or the exception of e -/
namespace Lay
open PySem PySem.Spec PyProof.Rows L2 LamX
/-- told: b = None / try: a() / except CP as n: b = n / return b -/
def TTc (K : PySem.W.Frag) (CP : Addr) : (XK → Hp → VK → Prop) → Hp → VK → Prop := fun tl H Q => ∀ Q' : VK, (∀ v H', Q .non H' → Q' v H') →
  tl (fun cls d H' => PySem.W.exmOne K cls (.ref CP) = some true ∧ ∀ a, H' a = none → Q (.ref a) (upd H' a (ExK cls d a))) H Q'
theorem caught_gives {X : Cx} {Ng : List Str} {x a b n e q : Str} {sg : Scope} {g CP : Addr} {cdg : Value} {j : Nat} {p1 p2 p3 p4 p5 p6 p7 p8 p9 p10 p11 p12 p13 p14 : Pos} (hN : Ng = [a, b, n]) (nd : Ng.Nodup) (hb : sg.names.lookup b = some .local) (hn : sg.names.lookup n = some .local) (hge : sg.names.lookup e = some .globalImplicit)
    (hme : X.mg e = some (.ref CP)) (hde : (e == ("__debug__" : Str)) = false) (hdb : (b == ("__debug__" : Str)) = false) (hcb : (b == ("__classdict__" : Str)) = false) (hdn : (n == ("__debug__" : Str)) = false) (hcn : (n == ("__classdict__" : Str)) = false)
    (s1 : ∀ env, swapsWith (.Constant .none j p1) (some (.Name b p2)) p3.line env = pure false) (s2 : ∀ env, swapsWith (.Call (.Name a p4) [] [] p5) none p6.line env = pure false) (s3 : ∀ env, swapsWith (.Name n p7) (some (.Name b p8)) p9.line env = pure false) :
    GivesTo X Ng x sg g cdg [.Assign [.Name b p2] (.Constant .none j p1) p3, .Try [.Expr (.Call (.Name a p4) [] [] p5) p6] [.ExceptHandler (some (.Name e p10)) (some n) [.Assign [.Name b p8] (.Name n p7) p9] p11] [] [] p12, .Return (some (.Name b p13)) p14] a q (TTc X.K CP) := by
  intro f c' s H Q tl act hc h
  subst hN
  refine ⟨_, pss_cons (ps_set (i := 1) nd rfl (.inl hb) pe_non (s1 _) (.inr hb)) (pss_cons (ps_try_keep (X := (cxOf C8.CX0 X.prog X.w X.K X.mg X.base [a, b, n] x sg g cdg X.A X.stack s H C8.E0).nox) (c := .ref CP) (i := 2) (Wout := fun _ _ _ _ => False)
      (tb := fun W D σ H => ∃ Ech : XK, (∀ cls d σ' H', Ech cls d H' → W cls d σ' H') ∧ σ[0]? = some (some (.ref f)) ∧ H c' = some (CodeO c' q) ∧ tl Ech H fun _ H' => D.nx σ H')
      (ts := fun a _ _ => fun D σ H => σ.length = 3 → tAsg (tVar 2) (gName 1) D σ H)
      rfl rfl rfl nd rfl hn ⟨hge, hde, .inl hme⟩ LamX.takes0 (fun W pn xe tk _ => ?_) (fun a0 oe cls d pn => ?_)) (pss_one (ps_ret (pe_var (i := 1) rfl (.inl hb) hdb hcb)))), ?_⟩
  · refine ⟨fun pins s' σ H' D I h' => ?_⟩
    obtain ⟨Ech, hW, h1, h2, h3⟩ := h'
    exact (pss_one (ps_expr (act W pn xe Ech p4 p5 tk hW) (s2 _))).run pins s' σ H' D I ⟨h1, h2, h3⟩
  · refine ⟨fun pins s' σ H' D I h' => ?_⟩
    exact (pss_one (ps_set (i := 1) nd rfl (.inl hb) (pe_var (i := 2) rfl (.inl hn) hdn hcn) (s3 _) (.inr hb))).run pins s' σ H' D I (h' I.len)
  · refine ⟨fun cls d H' => PySem.W.exmOne X.K cls (.ref CP) = some true ∧ ∀ a, H' a = none → Q (.ref a) (upd H' a (ExK cls d a)), fun cls d σ' H' ⟨e1, k⟩ => ⟨true, e1, And.intro (fun z => by cases z) (fun _ a0 ha hl => ?_)⟩, rfl, hc, h _ fun v H' hq => ⟨.non, rfl, hq⟩⟩
    have hl' : σ'.length = 3 := by simpa using hl
    refine ⟨.ref a0, by rw [List.getElem?_set_self (by omega)], .ref a0, ?_, k a0 ha⟩
    rw [List.getElem?_set_ne (by decide), List.getElem?_set_self (by simp [hl'])]
end Lay

/-! # DS23: caught(lambda: e) on data -/
namespace Lay
open PySem PySem.Spec PyProof.Rows L2 LamX
section
variable {X : Cx} {W : Wd} {M : List Addr} {wx : WX} {δ : De} {body : Expr} {Kp : KD} {Ke : KX} {pos p lpos : Pos} {x a : Str} {k : Nat} {st : Stmt} {scope : Scope} {params : Arguments} {g c P CP : Addr} {fd : FuncData} {Ng : List Str}
theorem dx_caught (hg : Gl X x) (hm : X.mg x = some (.ref g)) (F : FunD X.K x x (defArgs st) (defBody st) (defScope st) [] [] g fd) (Sg : FnScope Ng [a] (defScope st)) (hNg : Ng[0]? = some a) (hva : Vis (defScope st) a)
    (hb : ∀ (kV doc pm : Value) (an : Option Addr) (cdv ct : Value) (us : List Value), us.length = 1 → bindArgs (PySem.W.fnOf x x (defArgs st) (defBody st) (defScope st) .none kV doc pm an cdv ct) ⟨us, []⟩ = pure (([a] : List Str).zip us))
    (hG : ∀ (cdg : Value) (q : Str), GivesTo X Ng x (defScope st) g cdg (defBody st) a q (TTc X.K CP)) (TB : TabB X.base X.mg c P) (hcode : X.env.code = .ref c) (hmT : (P, X.env.qual ++ "<lambda>") ∈ W.T) (hu : ∀ p ∈ W.T, p.1 = P → p.2 = X.env.qual ++ "<lambda>") (hr : Room (k + 2) X.A)
    (L : lamSB X.env.scope scope = true) (hdef : defaultsOf params X.env = ([], [])) (hbind : ∀ (q : Str) (cl : List (Str × Addr)) (pm cv ctv : Value), bindArgs (PySem.W.kla_fn "<lambda>" q params body scope cl pm cv ctv) ⟨[], []⟩ = pure [])
    (h : ∀ (A : Around) (outer : List Env) (s : Shared) (H : Hp) (E : XK) (f c' : Addr), Room k (A.deeper (lamEnv X scope s.heap.objs.size f c')) → DE (lamCx X A outer s H E scope f c') W M (wxE E) δ body (fun _ => Kp .non) (fun y => y.fs = [] ∧ PySem.W.exmOne X.K (.ref y.C) (.ref CP) = some true ∧ Kp (.exc y.C [] [])))
    (hdb : (x == ("__debug__" : Str)) = false := by decide) (hd : (a == ("__debug__" : Str)) = false := by decide) (hcd : (a == ("__classdict__" : Str)) = false := by decide) : DE X W M wx δ (.Call (.Name x p) [.Lambda params body scope lpos] [] pos) Kp Ke := by
  have hB := F.bindsN (ps := [a]) hb
  obtain ⟨oc, od, dV, kV, doc, pm, an, cdv, ct, osl, rfl, lk, hcg, _, _⟩ := F.ex
  refine PE.imp (pe_lamcall (T := W.T) (t := fun E => tE X.K W M (wxE E) δ (fun _ => Kp .non) (fun y => y.fs = [] ∧ PySem.W.exmOne X.K (.ref y.C) (.ref CP) = some true ∧ Kp (.exc y.C [] []))) hg hm F.kp lk hcg hB Sg hNg hva (hG cdv _) TB hcode hmT hu hr (lamS_by L) hdef hbind h hdb hd hcd) fun σ H Q ⟨env, q, qx⟩ => ?_
  refine ⟨env.w.tabs, fun H1 eN T1 Q' hQ => ?_⟩
  have e1 : Ext W H H1 := ⟨fun b o _ h t => eN b o h t, ⟨T1, fun d hd => (env.w.drs d hd).stay fun b o x nt _ => eN b o x nt⟩⟩
  refine ⟨env.ext e1, fun v H' d e2 r k => hQ v H' (q .non H' .non (e1.trans e2) rfl k), fun y cls dd H' e2 xo ⟨hf, hx, k⟩ => ?_⟩
  obtain ⟨rfl, xo⟩ := xo
  rcases xo with ⟨rfl, _, _⟩ | ⟨z, _⟩
  · refine ⟨hx, fun a0 ha => ?_⟩
    have am := (env.ext (e1.trans e2)).amb
    exact q (.ref a0) _ (.exc y.C [] []) ((e1.trans e2).trans (Ext.new am.w ha)) ⟨a0, none, rfl, hide_of (am.new ha) upd_same, .inl ⟨rfl, rfl, rfl⟩⟩ k
  · exact absurd hf z
end
/-- a def by its body, told its code object -/
theorem Fn.ofC {G : Pg} {st : Stmt} {fa : Addr} {fd : FuncData} {k : Nat} {N ps : List Str} {f : FS} {x : Str} (F : FunD G.K x x (defArgs st) (defBody st) (defScope st) [] [] fa fd) (hm : G.mg x = some (.ref fa)) (S : FnScope N ps (defScope st))
    (hb : ∀ (kV doc pm : Value) (an : Option Addr) (cdv ct : Value) (us : List Value), us.length = ps.length → bindArgs (PySem.W.fnOf x x (defArgs st) (defBody st) (defScope st) .none kV doc pm an cdv ct) ⟨us, []⟩ = pure (ps.zip us))
    (body : ∀ (cdv : Value) (A : Around) (outer : List Env) (s : Shared) (H : Hp) (E : XK) (dr : Option Dr) (M : List Addr) (ds : List D) (Kp : KD) (Ke : KX), fd.code = cdv → Takes (FX G N x st fa cdv A outer s H E) (wxE E) → PassesOwn (model G.P G.w) (FX G N x st fa cdv A outer s H E).A (FX G N x st fa cdv A outer s H E).env (FX G N x st fa cdv A outer s H E).xe →
      Room k (FX G N x st fa cdv A outer s H E).A → ds.length = ps.length → f ds Kp Ke → DSs (FX G N x st fa cdv A outer s H E) ⟨G.T, dr⟩ M (wxE E) (st0 N ds) (defBody st) { nx := fun _ => Kp .non, rt := Kp } Ke) : Fn G x (k + 1) ps f := by
  refine ⟨fa, fd, hm, F.kp, ?_, F.bindsN hb⟩
  obtain ⟨oc, od, dV, kV, doc, pm, an, cdv0, ct, osl, e0, lk, hcd, _, _⟩ := F.ex
  subst e0
  refine fn_of lk hcd S (fun vs H Q E h => h.1) fun A outer s H vs Q E hr h => ?_
  obtain ⟨hl, W, S', ds, Kp, Ke, hT, am, r, hf, q1, qx⟩ := h
  obtain ⟨env, hS⟩ := env_start N am r
  obtain ⟨WT, dr⟩ := W
  have hT : WT = G.T := hT
  subst hT
  have b := body cdv0 A outer s H E dr (outM ⟨G.T, dr⟩ S') ds Kp Ke rfl (takes_of rfl rfl rfl rfl) PassesOwn.leaving hr (by rw [r.length]; exact hl) hf H []
  refine ⟨_, b, ⟨env, fun b o _ _ e _ => e, fun a ha => ?_⟩, fun δ' σ' H' e k => ?_, fun _ _ _ _ z => z.elim, fun _ _ _ _ z => z.elim, fun v H' d xe rd k => ?_, fun y cls dd σ' H' xe rd k => ?_⟩
  · have ho : ownA (st0 N ds) (L2.start N vs) = [] := ownA_im ds _ _ _ (by rw [List.length_map]; exact r.length) (by rw [r.length]; exact ownA_un _ _)
    rw [ho] at ha; simp at ha
  · exact q1 .non H' .non ⟨fun b o hb h t => e.ext b o hb (by simp) h t, e.env.w⟩ rfl k
  · exact q1 v H' d ⟨fun b o hb h t => xe.ext b o hb (by simp) h t, xe.w⟩ (rd.mono (hide_more fun a ha => (hS a).mpr ha)) k
  · exact qx y cls dd H' ⟨fun b o hb h t => xe.ext b o hb (by simp) h t, xe.w⟩ (rd.mono (hide_more fun a ha => (hS a).mpr ha)) k
end Lay

/-! # DS24: the list of a comprehension is new -/
namespace Lay
open PySem PySem.Spec PyProof.Rows L2
section
variable {X : Cx} {W : Wd} {M : List Addr} {wx : WX} {δ : De} {tg iter elt c : Expr} {scope : Scope} {Kl : List D → Prop} {Ke : KX} {own : List (Str × Nat)} {t : Tg} {σ : L2.St} {H : Hp} {Q : VK}
theorem fresh_of {H1 : Hp} {A : Addr} (w : WOk W H) (e : Ext W H H1) (hA : H1 A = none) : ∀ b o, H b = some o → (∀ ps, o ≠ .tbl ps) → b ≠ A := fun b o h nt z => by
  by_cases hb : b ∈ W.rg
  · obtain ⟨o', e', _⟩ := e.ok.tr hb
    rw [z, hA] at e'; cases e'
  · have := e.keep b o hb h nt
    rw [z, hA] at this; cases this
theorem lcIf_fresh (env : EnvOk X.K W M δ σ H) (hn : noOwn δ (own.map (·.2)) = true) (hsl : ∀ i ∈ t.slots, i ∈ own.map (·.2)) (h : DI X W M wx δ tg iter (fun ds => ds.length ≤ 16777216 ∧ ∃ R : D → Option D → Prop, (∀ d ∈ ds, LcC X W M δ scope (own.map (·.2)) t elt c R d) ∧ ∀ l, Coll R ds l → Kl l) Ke)
    (q : ∀ A H' l, Ext W H H' → (∀ b o, H b = some o → (∀ ps, o ≠ .tbl ps) → b ≠ A) → Rep X.K W.dr (hide (hidA W M δ σ) H') (.lst l) (.ref A) → Kl l → Q (.ref A) H') (qx : ∀ x cls dd H', Ext W H H' → XOk X.K W.dr (hide (hidA W M δ σ) H') x cls dd → Ke x → wx cls dd σ H') :
    tLc (tiAny X tg iter) (t.g X.K) (ttAnyB X scope c) (tAnyB X scope elt) (own.map (·.2)) σ H Q :=
  h.run env (fun J H1 ds e1 hw ⟨hds, R, hb, hk⟩ A hA => lc_run (env.ext e1) hn hsl hw hds hA (fun d hd => (hb d hd).1) (fun d hd σ' H' Qt Qf env' qt qf =>
      ⟨tT X.K W (A :: M) wx0 (t.put d (wipeD δ (List.map (fun (p : Str × Nat) => p.2) own))) (fun b => (b = true → LcE X W (A :: M) (t.put d (wipeD δ (List.map (fun (p : Str × Nat) => p.2) own))) scope elt fun y => R d (some y)) ∧ (b = false → R d none)) kx0, (hb d hd).2 A, env', fun b H3 e3 ⟨k1, k2⟩ => by
        cases b with
        | true => exact iteT ((k1 rfl).run (env'.ext e3) fun y H4 d' e4 r k => qt y H4 d' (e3.trans e4) r k)
        | false => exact iteF (qf H3 e3 (k2 rfl)), fun x cls dd H' _ _ z => z.elim⟩) fun l H' e2 r2 hc => q A H' l (e1.trans e2) (fresh_of env.w e1 hA) r2 (hk l hc)) qx
theorem lc_fresh (env : EnvOk X.K W M δ σ H) (hn : noOwn δ (own.map (·.2)) = true) (hsl : ∀ i ∈ t.slots, i ∈ own.map (·.2)) (h : DI X W M wx δ tg iter (fun ds => ds.length ≤ 16777216 ∧ ∃ R : D → Option D → Prop, (∀ d ∈ ds, LcB X W M δ scope (own.map (·.2)) t elt R d) ∧ ∀ l, Coll R ds l → Kl l) Ke)
    (q : ∀ A H' l, Ext W H H' → (∀ b o, H b = some o → (∀ ps, o ≠ .tbl ps) → b ≠ A) → Rep X.K W.dr (hide (hidA W M δ σ) H') (.lst l) (.ref A) → Kl l → Q (.ref A) H') (qx : ∀ x cls dd H', Ext W H H' → XOk X.K W.dr (hide (hidA W M δ σ) H') x cls dd → Ke x → wx cls dd σ H') :
    tLc (tiAny X tg iter) (t.g X.K) tYes (tAnyB X scope elt) (own.map (·.2)) σ H Q :=
  h.run env (fun J H1 ds e1 hw ⟨hds, R, hb, hk⟩ A hA => lc_run (env.ext e1) hn hsl hw hds hA (fun d hd => (hb d hd).1) (fun d hd σ' H' Qt Qf env' qt qf => iteT (B := Qf H') (((hb d hd).2 A).run env' qt)) fun l H' e2 r2 hc => q A H' l (e1.trans e2) (fresh_of env.w e1 hA) r2 (hk l hc)) qx
end
end Lay

/-! # DS25: a list of one's own is given away -/
namespace Lay
open PySem PySem.Spec PyProof.Rows L2
theorem ownA_give {l : List D} {d : D} : ∀ {δ : De} {σ : L2.St} {i : Nat}, δ[i]? = some (.ow l) → ∀ a, a ∈ ownA (δ.set i (.im d)) σ → a ∈ ownA δ σ
  | [], _, _, h, a, m => by simp at h
  | s :: δ, [], i, h, a, m => by cases i <;> simp [ownA] at m <;> cases s <;> simp [ownA] at m
  | s :: δ, o :: σ, 0, h, a, m => by
    have m' : a ∈ ownA (.im d :: δ) (o :: σ) := m
    rcases ownA_cons.mp m' with m | m
    · simp [ownA] at m
    · exact ownA_cons.mpr (.inr m)
  | s :: δ, o :: σ, i + 1, h, a, m => by
    have m' : a ∈ ownA (s :: δ.set i (.im d)) (o :: σ) := m
    rcases ownA_cons.mp m' with m | m
    · exact ownA_cons.mpr (.inl m)
    · exact ownA_cons.mpr (.inr (ownA_give (δ := δ) (σ := σ) (i := i) (by simpa using h) a m))
theorem ownA_giveN {l : List D} {d : D} : ∀ {δ : De} {σ : L2.St} {i : Nat} {a : Addr}, δ[i]? = some (.ow l) → σ[i]? = some (some (.ref a)) → (ownA δ σ).Nodup → (ownA (δ.set i (.im d)) σ).Nodup ∧ a ∉ ownA (δ.set i (.im d)) σ
  | [], _, _, _, h, _, _ => by simp at h
  | s :: δ, [], i, _, _, h, _ => by simp at h
  | s :: δ, o :: σ, 0, a, h, h2, n => by
    simp at h h2
    subst h h2
    have n' : (a :: ownA δ σ).Nodup := n
    have e : ownA ((Sl.ow l :: δ).set 0 (.im d)) (some (.ref a) :: σ) = ownA δ σ := rfl
    rw [e]
    exact ⟨(List.nodup_cons.mp n').2, (List.nodup_cons.mp n').1⟩
  | s :: δ, o :: σ, i + 1, a, h, h2, n => by
    have h' : δ[i]? = some (.ow l) := by simpa using h
    have h2' : σ[i]? = some (some (.ref a)) := by simpa using h2
    rw [ownA_eq] at n
    obtain ⟨n1, n2, n3⟩ := List.nodup_append.mp n
    obtain ⟨g1, g2⟩ := ownA_giveN (d := d) h' h2' n2
    have e : ownA ((s :: δ).set (i + 1) (.im d)) (o :: σ) = ownA [s] [o] ++ ownA (δ.set i (.im d)) σ := ownA_eq
    rw [e]
    refine ⟨List.nodup_append.mpr ⟨n1, g1, fun x hx y hy => n3 x hx y (ownA_give h' y hy)⟩, fun z => ?_⟩
    rcases List.mem_append.mp z with z | z
    · exact n3 a z a (mem_own h' h2') rfl
    · exact g2 z
theorem EnvOk.give {K : PySem.W.Frag} {W : Wd} {M : List Addr} {δ : De} {σ : L2.St} {H : Hp} {i : Nat} {l : List D} (h : EnvOk K W M δ σ H) (hd : δ[i]? = some (.ow l)) : EnvOk K W M (δ.set i (.im (.lst l))) σ H := by
  obtain ⟨a, xs, hs, ha, hH, hr⟩ := own_at h hd
  have hm : a ∈ ownA δ σ := mem_own hd hs
  obtain ⟨n1, n2⟩ := ownA_giveN (d := .lst l) hd hs h.nd
  have sub : ∀ b, b ∈ hidA W M (δ.set i (.im (.lst l))) σ → b ∈ hidA W M δ σ := fun b hb => by
    simp only [hidA, List.mem_append] at hb ⊢
    rcases hb with hb | hb
    · exact .inl hb
    · exact .inr (ownA_give hd b hb)
  have na : a ∉ hidA W M (δ.set i (.im (.lst l))) σ := fun z => by
    simp only [hidA, List.mem_append] at z
    rcases z with (z | z) | z
    · exact (h.dj a hm).1 z
    · exact (h.dj a hm).2 z
    · exact n2 z
  have k : ExN (hide (hidA W M δ σ) H) (hide (hidA W M (δ.set i (.im (.lst l))) σ) H) := hide_more sub
  have es : σ = σ.set i (some (.ref a)) := by
    refine List.ext_getElem? fun j => ?_
    by_cases c : i = j
    · subst c
      rw [List.getElem?_set_self (by
        have := List.getElem?_eq_some_iff.mp hs
        exact this.1)]
      exact hs
    · rw [List.getElem?_set_ne c]
  refine ⟨h.w, h.m, n1, fun b hb => h.dj b (ownA_give hd b hb), ?_⟩
  have := SlotsOk.set (s := .im (.lst l)) (o := some (.ref a)) (K := K) (dr := W.dr) (S := hidA W M (δ.set i (.im (.lst l))) σ) (H := H) ⟨.ref a, rfl, a, xs, rfl, hide_of na hH, hr.mono k⟩ i (h.sl.stay k fun b u _ e _ => e)
  rwa [← es] at this
section
variable {X : Cx} {W : Wd} {M : List Addr} {wx : WX} {δ : De} {O : Out} {Ke : KX}
/-- from here on the list is no more changed -/
theorem dss_give {st : Stmt} {rest : List Stmt} {l : List D} (i : Nat) (hd : δ[i]? = some (.ow l)) (h : DSs X W M wx (δ.set i (.im (.lst l))) (st :: rest) O Ke) : DSs X W M wx δ (st :: rest) O Ke := fun H0 N =>
  ⟨fun pins s σ H D I ⟨env, q⟩ => (h H0 N).run pins s σ H D I ⟨⟨env.env.give hd, env.ext, fun a ha => env.own a (ownA_give hd a ha)⟩, q⟩⟩
theorem ds_setLcNIf {iter elt c : Expr} {scope : Scope} {pos : Pos} (i j : Nat) {x y : Str} {px py spos : Pos} (hc : X.calm = true) (nd : X.N.Nodup) (hy : X.N[i]? = some y) (hyl : X.env.scope.names.lookup y = some .local) (hsw : swapsWith (.ListComp elt [⟨.Name x px, iter, [c], 0⟩] scope pos) (some (.Name y py)) spos.line X.env = pure true)
    (hb : blkC X.N X.env.scope scope [(x, j)] = true) (hn : noOwn δ [j] = true) (hN : X.N[j]? = some x) (hl : ∀ s H C cl fp, Loc (BX X scope s H C cl fp).env.scope x ∧ ((BX X scope s H C cl fp).fn x = true ∨ (BX X scope s H C cl fp).env.scope.names.lookup x = some .local))
    (h : DI X W M wx δ (.Name x px) iter (fun ds => ds.length ≤ 16777216 ∧ ∃ R : D → Option D → Prop, (∀ d ∈ ds, LcC X W M δ scope [j] (.n j) elt c R d) ∧ ∀ l, Coll R ds l → O.nx (δ.set i (.im (.lst l)))) Ke) (hs : ∀ x, foldedSetIterable iter X.env x = pure x := by intro _; rfl) :
    DS X W M wx δ (.Assign [.Name y py] (.ListComp elt [⟨.Name x px, iter, [c], 0⟩] scope pos) spos) O Ke :=
  ds_setLcIf i [(x, j)] (.n j) hc nd hy hyl hsw (blkOk_by hb) hn (fun j hj => hj) (fun s H C cl fp => pg_name (X := BX X scope s H C cl fp) nd hN (hl s H C cl fp).1 (hl s H C cl fp).2) h hs
end
end Lay

/-! # DS26: enumerate over a tuple; bools as numbers; items of one's own list stored -/
namespace Lay
open PySem PySem.Spec PyProof.Rows L2
/-! ### enumerate over a tuple -/
theorem meets_enumerate_new1 {v : Value} {o : Obj} {H : Heap → Prop} (B : Begins v o H) :
    Meets (Builtin.«enumerate.__new__» ⟨[.type "enumerate", v], []⟩) (fun _ R s => H s.heap ∧
      R (.ok (.ret (.ref (s.heap.push o).objs.size))) { s with heap := (s.heap.push o).push { cls := .type "enumerate", data := .fields #[.none, .bool false, .ref s.heap.objs.size, rawInt 0, .none, .none] } }) :=
  .of_wp fun prog w A R s h => by
    obtain ⟨hp, g, d, tk, os⟩ := s; obtain ⟨h1, h⟩ := h
    have hsub := sub_enumerate
    have q1 : ∀ {A' : Around} {E : Value → Shared → Prop} {Q : Value → Shared → Prop}, Q (.ref hp.objs.size) ⟨hp.push o, g, d, tk, os⟩ → wpAny (model prog w) A' (pyIter v) Q E ⟨hp, g, d, tk, os⟩ :=
      fun q => B.iter prog w _ _ ⟨hp, g, d, tk, os⟩ _ h1 q
    wp_walk using q1
    refine wpAny_stack_any fun st => wpAny_pure ?_
    split
    · rename_i c _ _ _ _ _
      cases (c == Value.type "enumerate")
      · wp_walk using q1
        exact ⟨_, rfl, h⟩
      · wp_walk using q1
        exact ⟨_, rfl, h⟩
    · wp_walk using q1
      exact ⟨_, rfl, h⟩
theorem call_enumerate_B {prog : Program} {w : World} {A : Around} {E : Value → Shared → Prop} {s : Shared} {v : Value} {o : Obj} {H : Heap → Prop} {Q : Value → Shared → Prop} (B : Begins v o H) (h1 : H s.heap)
    (h : ∀ h', IsEnum h' (s.heap.objs.size + 1) s.heap.objs.size 0 .none → h'.get? s.heap.objs.size = some o → h'.objs.size = s.heap.objs.size + 2 →
      (∀ b o, s.heap.get? b = some o → h'.get? b = some o) → Q (.ref (s.heap.objs.size + 1)) { s with heap := h' }) :
    wpAny (model prog w) A (call (.type "enumerate") [v]) Q E s := by
  refine callType_new F.called_enumerate (by decide) (F.typeCall_enumerate_1 _) (F.newCall_enumerate_1 _) (fun obj => F.args_object_init_2 obj _) F.entry_enumerate_new
    (meets_enumerate_new1 B) ⟨h1, ?_⟩
  have hz : (s.heap.push o).objs.size = s.heap.objs.size + 1 := Heap.size_push ..
  show _ ∧ _
  rw [hz]
  have he : IsEnum ((s.heap.push o).push { cls := .type "enumerate", data := .fields #[.none, .bool false, .ref s.heap.objs.size, rawInt 0, .none, .none] }) (s.heap.objs.size + 1) s.heap.objs.size 0 .none := by
    have := Heap.get?_push_size (s.heap.push o) (o := { cls := .type "enumerate", data := .fields #[.none, .bool false, .ref s.heap.objs.size, rawInt 0, .none, .none] }) rfl
    rw [hz] at this; exact this
  refine ⟨⟨_, he, rfl⟩, h _ he (Heap.get?_push_of_some _ (Heap.get?_push_size _ B.free)) (by rw [Heap.size_push, hz]) fun b o x => Heap.get?_push_of_some _ (Heap.get?_push_of_some _ x)⟩
/-- the tuple at a, each item in a new pair -/
def IteT (K : PySem.W.Frag) (a : Addr) : It :=
  ⟨fun i H => ∃ (xs : List V) (x : V), SqT K H a xs ∧ xs[i]? = some x, fun i H v H' => ∃ T x, v = .ref T ∧ H T = none ∧ H' = upd H T (.tup [.int (i : Nat), x]) ∧ ∀ xs, SqT K H a xs → xs[i]? = some x, fun i H => ∃ xs : List V, SqT K H a xs ∧ xs.length = i⟩
theorem turn_enumT {P : Program} {w : World} {K : PySem.W.Frag} {elts : List Expr} {kk : Nat} {tpos : Pos} (a e it : Addr) :
    Turn P w K (.Tuple elts kk tpos) (IteT K a) [e, it] e (fun i h => (∃ old, IsEnum h e it ((i : Nat) : Int) old) ∧ h.IsTupleIter it a i ∧ e ≠ it ∧ a ≠ it ∧ a ≠ e) where
  mem := by simp
  obj := fun i h st b hb => by
    obtain ⟨⟨old, he⟩, ⟨o, ho, hc, hd⟩, _⟩ := st
    have e' : b = e ∨ b = it := by simpa using hb
    rcases e' with z | z
    · rw [z]; exact ⟨_, he, fun v q => nomatch q⟩
    · rw [z]; exact ⟨o, ho, fun v q => by rw [hd] at q; cases q⟩
  keep := fun i h h' st k => let ⟨⟨old, he⟩, hi, hne⟩ := st; ⟨⟨old, k e (by simp) _ he⟩, hi.at fun o q => k it (by simp) o q, hne⟩
  item := by
    intro X hP hw hK hc i pins s σ H E I hf st hg
    subst hP hw hK
    obtain ⟨⟨old, he⟩, hit, hne, hai, hae⟩ := st
    obtain ⟨xs, x, hq, hx⟩ := hg
    obtain ⟨its, rv, p, hz⟩ := I.tuple hq
    obtain ⟨u, hu, ru⟩ := rv.get hx
    have hl := rv.length
    have hlt : i < its.toArray.size := by
      have := (List.getElem?_eq_some_iff.mp hu).1
      simpa using this
    have hel : e < s.heap.objs.size := Heap.lt_size he
    have hil : it < s.heap.objs.size := by obtain ⟨_, q, _⟩ := hit; exact Heap.lt_size q
    have hd0 : X.A.in1.handled = none := I.ok.hd hc
    have hef : e ∉ [it, a] := by
      simp only [List.mem_cons, List.mem_nil_iff, or_false, not_or]
      exact ⟨hne, fun z => hae z.symm⟩
    refine wpAny_pyNext_enum_itemD (Draws.tuple hd0 it a hai its.toArray) he ⟨hit, p⟩ hlt hne hef fun y h' tk hP ho st' hT hsz hk => ?_
    have ey : y = u := by
      have hP' : its.toArray[i]? = some y := hP
      rw [List.getElem?_toArray, hu] at hP'
      exact (Option.some.inj hP').symm
    subst ey
    refine ⟨_, rfl, wpAny_letOwnedTupleGo_enum (s := { s with heap := h', toks := tk + 1 }) ho fun h'' he' sb => ?_⟩
    have hT2 : h''.get? s.heap.objs.size = some { cls := .type "tuple", data := .seq #[.int i tk, y] } := (sb.2 _ (Nat.ne_of_gt hel)).trans hT
    have new : ObjOk X.prog X.w (upd H s.heap.objs.size (.tup [.int (i : Nat), x])) h'' s.heap.objs.size (.tup [.int (i : Nat), x]) :=
      ⟨by show 2 ≤ sizeLine; decide, [.int i tk, y], .cons ⟨_, rfl⟩ (.cons ru .nil), ⟨_, hT2, rfl, _, rfl⟩⟩
    have I1 : Inv X pins σ (upd H s.heap.objs.size (.tup [.int (i : Nat), x])) { s with heap := h'', toks := tk + 1 } :=
      I.turnedNew (ch := [e, it]) (fun b ob hb q => (sb.2 b (fun z => hb (by simp [z]))).trans (hk b ob (fun z => hb (by simp [z])) (fun z => hb (by simp [z])) q)) hf (Nat.le_refl _) new
    refine ⟨.ref s.heap.objs.size, _, I1, rfl, ⟨_, x, rfl, I.hok.fresh (Nat.le_refl _), rfl, fun ys hy => by rw [I.tuple_inj hy hq]; exact hx⟩, ⟨⟨y, ?_⟩, st'.1.at fun o q => (sb.2 it (Ne.symm hne)).trans q, hne, hai, hae⟩, fun b hb => ?_⟩
    · have e1 : ((i + 1 : Nat) : Int) = (i : Int) + 1 := by omega
      rw [e1]; exact he'
    · have hb' : b < s.heap.objs.size := by
        have e' : b = e ∨ b = it := by simpa using hb
        rcases e' with z | z
        · rw [z]; exact hel
        · rw [z]; exact hil
      rw [upd_ne (Nat.ne_of_lt hb')]
      exact (hf b hb).1
  done := by
    intro X hP hw hK hc i pins s σ H E I hf st hg
    subst hP hw hK
    obtain ⟨⟨old, he⟩, hit, hne, hai, hae⟩ := st
    obtain ⟨xs, hq, hx⟩ := hg
    obtain ⟨its, rv, p, hz⟩ := I.tuple hq
    obtain ⟨f0, f1, f2, f3, f4, f5⟩ := hf it (by simp)
    have hl := rv.length
    have hd0 : X.A.in1.handled = none := I.ok.hd hc
    have hn : its.toArray.size = i := by simp; omega
    have st' : Heap.IsTupleIter s.heap it a its.toArray.size ∧ Heap.IsTuple s.heap a its.toArray := by rw [hn]; exact ⟨hit, p⟩
    exact wpAny_pyNext_enum_endD (Draws.tuple hd0 it a hai its.toArray) he st' fun h' eb => ⟨rfl, I.turned (t' := s.toks) (fun b o hb q => eb b o hb q) f0 f1 f3 f4 f5⟩
  self := fun A i s Q E st h => let ⟨⟨_, he⟩, _⟩ := st; wpAny_pyIter_enum he h
def iEnumT (K : PySem.W.Frag) (ta : TA) : TI := fun σ H R => ta σ H fun vs H1 => ∃ a xs, vs = [.ref a] ∧ SqT K H1 a xs ∧ R (IteT K a) H1
theorem pi_enumT {X : Cx} {e : Expr} {ta : TA} {p pos tpos : Pos} {elts : List Expr} {kk : Nat} (hg : Gl X "enumerate") (hm : X.mg "enumerate" = none) (ha : PA X [e] ta) (hs : starEach [e] X.env = [(false, eval e X.env)] := by rfl) :
    PI X (.Tuple elts kk tpos) (.Call (.Name "enumerate" p) [e] [] pos) (iEnumT X.K ta) := by
  refine ⟨fun pins s σ H R I h => ?_⟩
  refine Call_ (ld_blt I hg hm boot_enumerate (PyProof.Rows.callWith_type1 (thn (ha.run pos pins s σ H _ I h) fun us s1 ⟨vs, H1, I1, r1, q1⟩ => ?_) hs rfl))
  obtain ⟨a, xs, ex, hq, q⟩ := q1
  subst ex
  cases r1 with
  | cons r rr =>
    cases rr
    cases r
    obtain ⟨its, rv, p', hz⟩ := I1.tuple hq
    refine call_enumerate_B (begins_tuple a its.toArray) p' fun h' he hit hsz hk => wpAny_pyIter_enum he ?_
    have I2 : Inv X pins σ H1 { s1 with heap := h' } := I1.kept (t' := s1.toks) hk
    have hal : a < s1.heap.objs.size := by obtain ⟨_, q, _⟩ := p'; exact Heap.lt_size q
    refine ⟨s1.heap.objs.size + 1, [s1.heap.objs.size + 1, s1.heap.objs.size], _, _, H1, rfl, I2, turn_enumT a (s1.heap.objs.size + 1) s1.heap.objs.size, ⟨⟨.none, he⟩, ⟨_, hit, rfl, rfl⟩, Nat.succ_ne_self _, Nat.ne_of_lt hal, Nat.ne_of_lt (Nat.lt_succ_of_lt hal)⟩, fun b hb => ?_, q⟩
    have e' : b = s1.heap.objs.size + 1 ∨ b = s1.heap.objs.size := by simpa using hb
    have hle : s1.heap.objs.size ≤ b := by
      rcases e' with z | z
      · rw [z]; exact Nat.le_add_right _ _
      · rw [z]; exact Nat.le_refl _
    exact I1.fpOk hle (I1.hok.fresh hle)
theorem walk_enumT {K : PySem.W.Frag} {a : Addr} {xs : List V} : Walk (IteT K a) xs.length (fun H => SqT K H a xs) (YPair (fun i => some (.int (i : Nat))) (fun i => xs[i]?)) := by
  refine ⟨fun i _ hi q => ⟨xs, xs[i], q, by simp [hi]⟩, fun _ q => ⟨xs, q, rfl⟩, fun i H v H' _ q y => ?_⟩
  obtain ⟨T, x, h1, h2, h3, h4⟩ := y
  exact ⟨T, .int (i : Nat), x, h1, h2, h3, rfl, h4 xs q⟩
section
variable {X : Cx} {W : Wd} {M : List Addr} {wx : WX} {δ : De} {e : Expr} {KI : List D → Prop} {Ke : KX} {p pos tpos : Pos} {elts : List Expr} {kk : Nat}
theorem di_enumT (hg : Gl X "enumerate") (hm : X.mg "enumerate" = none) (h : DE X W M wx δ e (fun d => ∃ l, d = .tup l ∧ KI (enumD l)) Ke) (hs : starEach [e] X.env = (false, eval e X.env) :: starEach [] X.env := by rfl) :
    DI X W M wx δ (.Tuple elts kk tpos) (.Call (.Name "enumerate" p) [e] [] pos) KI Ke :=
  PI.imp (pi_enumT hg hm (pa_cons pe_any pa_nil hs) hs) fun σ H R ⟨env, q, qx⟩ => h.run env (fun x H1 d e1 r1 ⟨l, hl, k⟩ => by
    subst hl
    obtain ⟨a, xs, rfl, h1, h2⟩ := r1
    refine ⟨a, xs, rfl, hide_SqT h1, q _ H1 _ e1 ?_ k⟩
    have hl := h2.length
    refine walkD_pair (xs := intsV l.length) (G := fun H => SqT X.K H a xs) ?_ (fun S' H e => hide_SqT (ExN.seqT e h1)) (rep_intsD _) h2
    refine ⟨fun i H hi q => ?_, fun H q => ?_, fun i H v H' hi q y => ?_⟩
    · have hi2 : i < xs.length := Nat.lt_of_lt_of_le hi (Nat.min_le_right _ _)
      exact walk_enumT.goes i H hi2 q
    · have e : min (intsV l.length).length xs.length = xs.length := by simp [intsV, hl]
      rw [e]
      exact walk_enumT.stops H q
    · have hi2 : i < xs.length := Nat.lt_of_lt_of_le hi (Nat.min_le_right _ _)
      obtain ⟨T, x, y', h3, h4, h5, h6, h7⟩ := walk_enumT.yields i H v H' hi2 q y
      refine ⟨T, x, y', h3, h4, h5, ?_, h7⟩
      rw [← h6]
      have hi3 : i < l.length := by omega
      simp [intsV, hi3]) qx
end
/-! ### bools as numbers -/
section
variable {X : Cx}
theorem op_subB : OpR X (binaryOp .Sub) (fun x y H Q => ∃ p q, x = .bl p ∧ y = .bl q ∧ Q (.int (b2i p - b2i q)) H) := by
  intro pins s σ H x y v u Q I rx ry h
  obtain ⟨p, q, rfl, rfl, k⟩ := h
  cases rx
  cases ry
  exact sub_bool ⟨.int (b2i p - b2i q), H, I.tok _, ⟨_, rfl⟩, k⟩
def gSubB : D → D → KD → Prop
  | .bl p, .bl q, k => k (.int (b2i p - b2i q))
  | _, _, _ => False
theorem od_subB : OpD X (binaryOp .Sub) gSubB := by
  refine ⟨_, op_subB, fun W S H x y d e Kp Q am rx ry g q => ?_⟩
  cases d <;> cases e <;> first | exact g.elim | skip
  cases rx; cases ry
  exact ⟨_, _, rfl, rfl, q _ H (.int _) (Ext.refl am.w) rfl g⟩
def gIntB : List D → KD → Prop
  | [.bl b], k => k (.int (b2i b))
  | _, _ => False
theorem cd_intB : ClD X (.type "int") gIntB := by
  refine ⟨_, call_int1, fun W S H xs ds Kp Q am r g q => ?_⟩
  cases ds with
  | nil => exact g.elim
  | cons d ds =>
    cases ds with
    | cons _ _ => cases d <;> exact g.elim
    | nil =>
      obtain ⟨v, rfl, rv⟩ := r.one
      cases d <;> first | exact g.elim | skip
      cases rv
      exact .inr ⟨_, rfl, q _ H (.int _) (Ext.refl am.w) rfl g⟩
end
/-! ### items of one's own list are stored -/
section
variable {X : Cx} {W : Wd} {M : List Addr} {wx : WX} {δ : De} {e b ie je : Expr} {O : Out} {Ke : KX} {Kl : List D → Prop} {pos p1 p2 p3 p4 : Pos} {x y : Str} {l : List D}
/-- x[i] = e, x a list of one's own -/
theorem ds_setIt (i : Nat) (hi : X.N[i]? = some x) (hv : Vis X.env.scope x) (hd : δ[i]? = some (.ow l)) (h : DE X W M wx δ e (fun d => DE X W M wx δ ie (asI fun k => ∃ j, ixN l.length k = some j ∧ O.nx (δ.set i (.ow (l.set j d)))) Ke) Ke)
    (hdb : (x == ("__debug__" : Str)) = false := by decide) (hcd : (x == ("__classdict__" : Str)) = false := by decide) (hs : swapsWithSole [.Subscript (.Name x p1) ie p2] e pos.line X.env = pure false := by rfl) (hw : swappedStores [.Subscript (.Name x p1) ie p2] e X.env = pure none := by rfl)
    (h1 : (assignEach [.Subscript (.Name x p1) ie p2] X.env).map (·.2) = [assign (.Subscript (.Name x p1) ie p2) X.env] := by rfl) (ha : ∀ v, assign (.Subscript (.Name x p1) ie p2) X.env v = (do
      let ov ← holding [v] (eval (.Name x p1) X.env)
      let iv ← holding [v, ov] (eval ie X.env)
      standAt p2
      holding [v, ov, iv] (setItem ov iv v)
      release [v, ov, iv] []) := by intro _; rfl) :
    DS X W M wx δ (.Assign [.Subscript (.Name x p1) ie p2] e pos) O Ke := fun H0 N =>
  PS.imp (ps_asg pe_any (pg_sub (pe_var hi hv hdb hcd) pe_any set_list ha) hs hw h1) fun Dn σ H ⟨env, n, bb, c, r, xx⟩ => ex_run h env (fun v H1 d env1 e1 r1 k => by
    obtain ⟨a, xs, q1, hown, q2, q3⟩ := own_at env1.env hd
    refine ⟨_, q1, ex_run k env1 (fun w H2 dk env2 e2 r2 k2 => ?_) xx⟩
    obtain ⟨m, rfl, j, hj, k2⟩ := asI_ex k2
    cases r2
    obtain ⟨a', xs', q1', hown', q2', q3'⟩ := own_at env2.env hd
    rw [q1] at q1'; cases q1'
    have hl := q3'.length
    refine ⟨a, xs', m, j, rfl, rfl, q2', by rw [← hl]; exact hj, ?_⟩
    exact n _ _ _ (env2.write hd q1 q2' (RepL.set (r1.mono (env1.env.amb.hid e2)) j q3')) k2) xx
/-- [x] * n, a new list -/
theorem df_rep (h : DE X W M wx δ e (fun d => ∃ m, d = .lst m ∧ DE X W M wx δ b (asI fun j => j < 2 ^ 63 ∧ -(2 ^ 63) ≤ j ∧ m.length * j.toNat ≤ 16777216 ∧ Kl (List.replicate j.toNat m).flatten) Ke) Ke) : DF X W M wx δ (.BinOp e .Mult b pos) Kl Ke :=
  PE.imp (pe_op op_rep pe_any pe_any) fun σ H Q ⟨env, q, qx⟩ => h.run env (fun v H1 d e1 r1 ⟨m, hm, k⟩ => by
    subst hm
    obtain ⟨a, xs, rfl, h1, h2⟩ := r1
    refine k.run (env.ext e1) (fun w H2 dk e2 r2 k2 => ?_) fun x cls dd H' e => qx x cls dd H' (e1.trans e)
    obtain ⟨j, rfl, g1, g2, g3, k2⟩ := asI_ex k2
    cases r2
    have kk := (env.ext e1).amb.hid e2
    have h1' := hide_lst (kk _ _ h1 fun _ z => by cases z)
    have h2' := h2.mono kk
    exact ⟨a, j, xs, rfl, rfl, h1', g2, g1, by rw [sizeLine_eq, ← h2.length]; exact g3, fun p hp => q p H2 _ _ (e1.trans e2) hp (h2'.flatten _) k2⟩) qx
/-- x[i], x[j] = a pair, x a list of one's own -/
theorem ds_setIt2 (i : Nat) {pt : Pos} {kt} (hc : X.calm = true) (hi : X.N[i]? = some x) (hv : Vis X.env.scope x) (hd : δ[i]? = some (.ow l))
    (h : DE X W M wx δ e (fun d => ∃ d1 d2, d = .tup [d1, d2] ∧ DE X W M wx δ ie (asI fun k => ∃ j, ixN l.length k = some j ∧ DE X W M wx (δ.set i (.ow (l.set j d1))) je (asI fun k2 => ∃ j2, ixN l.length k2 = some j2 ∧ O.nx (δ.set i (.ow ((l.set j d1).set j2 d2)))) Ke) Ke) Ke)
    (hdb : (x == ("__debug__" : Str)) = false := by decide) (hcd : (x == ("__classdict__" : Str)) = false := by decide) (hs : swapsWithSole [.Tuple [.Subscript (.Name x p1) ie p2, .Subscript (.Name x p3) je p4] kt pt] e pos.line X.env = pure false := by rfl)
    (hw : swappedStores [.Tuple [.Subscript (.Name x p1) ie p2, .Subscript (.Name x p3) je p4] kt pt] e X.env = pure none := by rfl)
    (h1 : (assignEach [.Tuple [.Subscript (.Name x p1) ie p2, .Subscript (.Name x p3) je p4] kt pt] X.env).map (·.2) = [assign (.Tuple [.Subscript (.Name x p1) ie p2, .Subscript (.Name x p3) je p4] kt pt) X.env] := by rfl)
    (ha : ∀ v, assign (.Subscript (.Name x p1) ie p2) X.env v = (do
      let ov ← holding [v] (eval (.Name x p1) X.env)
      let iv ← holding [v, ov] (eval ie X.env)
      standAt p2
      holding [v, ov, iv] (setItem ov iv v)
      release [v, ov, iv] []) := by intro _; rfl) (hb : ∀ v, assign (.Subscript (.Name x p3) je p4) X.env v = (do
      let ov ← holding [v] (eval (.Name x p3) X.env)
      let iv ← holding [v, ov] (eval je X.env)
      standAt p4
      holding [v, ov, iv] (setItem ov iv v)
      release [v, ov, iv] []) := by intro _; rfl)
    (g1 : (assignEach [.Subscript (.Name x p1) ie p2, .Subscript (.Name x p3) je p4] X.env).map (·.2) = assign (.Subscript (.Name x p1) ie p2) X.env :: (assignEach [.Subscript (.Name x p3) je p4] X.env).map (·.2) := by rfl)
    (g2 : (assignEach [.Subscript (.Name x p3) je p4] X.env).map (·.2) = assign (.Subscript (.Name x p3) je p4) X.env :: (assignEach [] X.env).map (·.2) := by rfl)
    (g3 : (assignEach [.Subscript (.Name x p1) ie p2, .Subscript (.Name x p3) je p4] X.env).length = 2 := by rfl) (g4 : (assignEach [.Subscript (.Name x p1) ie p2, .Subscript (.Name x p3) je p4] X.env).findIdx? (·.1) = none := by rfl) :
    DS X W M wx δ (.Assign [.Tuple [.Subscript (.Name x p1) ie p2, .Subscript (.Name x p3) je p4] kt pt] e pos) O Ke := fun H0 N =>
  PS.imp (ps_asg pe_any (pg_tup hc (pgs_cons (pg_sub (pe_var hi hv hdb hcd) pe_any set_list ha) (pgs_cons (pg_sub (pe_var hi hv hdb hcd) pe_any set_list hb) pgs_nil g2) g1) g3 g4) hs hw h1) fun Dn σ H ⟨env, n, bb, c, r, xx⟩ => ex_run h env (fun v H1 d env1 e1 r1 ⟨d1, d2, ed, k⟩ => by
    subst ed
    obtain ⟨T, ws, rfl, hT, r1⟩ := r1
    obtain ⟨v1, v2, rfl, ra, rb⟩ := RepL.two r1
    obtain ⟨a, xs, q1, hown, q2, q3⟩ := own_at env1.env hd
    refine ⟨T, _, rfl, hide_SqT hT, rfl, v1, [v2], rfl, ?_⟩
    refine ⟨_, q1, ex_run k env1 (fun w H2 dk env2 e2 r2 k2 => ?_) xx⟩
    obtain ⟨m, rfl, j, hj, k2⟩ := asI_ex k2
    cases r2
    obtain ⟨a', xs', q1', hown', q2', q3'⟩ := own_at env2.env hd
    rw [q1] at q1'; cases q1'
    have hl := q3'.length
    refine ⟨a, xs', m, j, rfl, rfl, q2', by rw [← hl]; exact hj, v2, [], rfl, ?_⟩
    have s3 := env2.write hd q1 q2' (RepL.set (ra.mono (env1.env.amb.hid e2)) j q3')
    have hi' : i < δ.length := (List.getElem?_eq_some_iff.mp hd).1
    have hd3 : (δ.set i (.ow (l.set j d1)))[i]? = some (.ow (l.set j d1)) := List.getElem?_set_self hi'
    have rb3 : Rep X.K W.dr (hide (hidA W M (δ.set i (.ow (l.set j d1))) σ) (upd H2 a (.lst (xs'.set j v1)))) d2 v2 := by
      have z := rb.mono (env1.env.amb.hid e2)
      rw [show hidA W M (δ.set i (.ow (l.set j d1))) σ = hidA W M δ σ by rw [hidA, hidA, ownA_setOw hd], hide_write (by simp [hidA, hown'])]
      exact z
    refine ⟨_, q1, ex_run k2 s3 (fun w3 H4 dk3 env4 e4 r4 k4 => ?_) xx⟩
    obtain ⟨m2, rfl, j2, hj2, k4⟩ := asI_ex k4
    cases r4
    obtain ⟨a4, xs4, q14, hown4, q24, q34⟩ := own_at env4.env hd3
    rw [q1] at q14; cases q14
    have hl4 := q34.length
    rw [List.length_set] at hl4
    refine ⟨a, xs4, m2, j2, rfl, rfl, q24, by rw [← hl4]; exact hj2, ?_⟩
    have s5 := env4.write hd3 q1 q24 (RepL.set (rb3.mono (s3.env.amb.hid e4)) j2 q34)
    rw [List.set_set] at s5
    exact ⟨rfl, n _ _ _ s5 k4⟩) xx
/-- x, y = a datum, a new list of one's own -/
theorem ds_parIO (i j : Nat) {px py pt : Pos} {kt k2 pt2} {a b : Expr} (hc : X.calm = true) (hN : X.N.Nodup) (hi : X.N[i]? = some x) (hj : X.N[j]? = some y) (hij : i ≠ j) (hx : X.env.scope.names.lookup x = some .local) (hy : X.env.scope.names.lookup y = some .local)
    (hw : swappedStores [.Tuple [.Name x px, .Name y py] kt pt] (.Tuple [a, b] k2 pt2) X.env = pure (some [x, y])) (h : DE X W M wx δ a (fun d => DF X W M wx δ b (fun m => O.nx ((δ.set i (.im d)).set j (.ow m))) Ke) Ke)
    (hs : swapsWithSole [.Tuple [.Name x px, .Name y py] kt pt] (.Tuple [a, b] k2 pt2) pos.line X.env = pure false := by rfl) (h1 : starEach [a, b] X.env = (false, eval a X.env) :: starEach [b] X.env := by rfl) (h2 : starEach [b] X.env = (false, eval b X.env) :: starEach [] X.env := by rfl) :
    DS X W M wx δ (.Assign [.Tuple [.Name x px, .Name y py] kt pt] (.Tuple [a, b] k2 pt2) pos) O Ke := fun H0 N =>
  PS.imp (ps_par hc hN hi hj hij hx hy (pa_cons pe_any (pa_cons pe_any pa_nil h2) h1) hw hs) fun Dn σ H ⟨env, n, bb, c, r, xx⟩ => ex_run h env (fun v H1 d env1 e1 r1 k => by
    refine k.run env1.env (fun p H2 xs l e2 hp r2 k2 => ?_) fun y cls dd H' e r1 k => xx y cls dd σ H' (env1.go e).xe (r1.mono (hid_more (F := ⟨W, M, H0, N⟩)))  k
    have env2 := env1.go e2
    have r1' := r1.mono (env1.env.amb.hid e2)
    have s1 : SEnv X.K ⟨W, M, H0, N⟩ (δ.set i (.im d)) (σ.set i (some v)) H2 := ⟨env2.env.put r1', env2.ext, fun a ha => env2.own a (ownA_set rfl a ha)⟩
    exact ⟨v, .ref p, rfl, n _ _ _ (s1.setOw (i := j) hp (r2.mono hidA_set)) k2⟩) xx
/-- z = [.. for x, y in ..] -/
theorem ds_setLcP {iter elt : Expr} {scope : Scope} (l i j : Nat) {z : Str} {px py pz pt spos : Pos} {kt} (hc : X.calm = true) (nd : X.N.Nodup) (hy : X.N[l]? = some z) (hyl : X.env.scope.names.lookup z = some .local) (hsw : swapsWith (.ListComp elt [⟨.Tuple [.Name x px, .Name y py] kt pt, iter, [], 0⟩] scope pos) (some (.Name z pz)) spos.line X.env = pure true)
    (hb : blkC X.N X.env.scope scope [(x, i), (y, j)] = true) (hn : noOwn δ [i, j] = true) (hN : X.N[i]? = some x) (hN' : X.N[j]? = some y)
    (hl : ∀ s H C cl fp, (Loc (BX X scope s H C cl fp).env.scope x ∧ ((BX X scope s H C cl fp).fn x = true ∨ (BX X scope s H C cl fp).env.scope.names.lookup x = some .local)) ∧ (Loc (BX X scope s H C cl fp).env.scope y ∧ ((BX X scope s H C cl fp).fn y = true ∨ (BX X scope s H C cl fp).env.scope.names.lookup y = some .local)))
    (h : DI X W M wx δ (.Tuple [.Name x px, .Name y py] kt pt) iter (fun ds => ds.length ≤ 16777216 ∧ ∃ R : D → Option D → Prop, (∀ d ∈ ds, LcB X W M δ scope [i, j] (.t [i, j]) elt R d) ∧ ∀ m, Coll R ds m → O.nx (δ.set l (.im (.lst m)))) Ke) (hs : ∀ x, foldedSetIterable iter X.env x = pure x := by intro _; rfl) :
    DS X W M wx δ (.Assign [.Name z pz] (.ListComp elt [⟨.Tuple [.Name x px, .Name y py] kt pt, iter, [], 0⟩] scope pos) spos) O Ke :=
  ds_setLc l [(x, i), (y, j)] (.t [i, j]) hc nd hy hyl hsw (blkOk_by hb) hn (fun j hj => hj) (fun s H C cl fp => pg_tup (X := BX X scope s H C cl fp) hc (pgs_cons (pg_name (X := BX X scope s H C cl fp) nd hN (hl s H C cl fp).1.1 (hl s H C cl fp).1.2) (pgs_cons (pg_name (X := BX X scope s H C cl fp) nd hN' (hl s H C cl fp).2.1 (hl s H C cl fp).2.2) pgs_nil))) h hs
end
end Lay

/-! # DS27: items of one's own list are read -/
namespace Lay
open PySem PySem.Spec PyProof.Rows L2
section
variable {X : Cx} {W : Wd} {M : List Addr} {wx : WX} {δ : De} {b : Expr} {Ke : KX} {Kp : KD} {pos p1 : Pos} {x : Str} {l : List D}
theorem dx_ixOw (i : Nat) (hi : X.N[i]? = some x) (hv : Vis X.env.scope x) (hd : δ[i]? = some (.ow l)) (hs : PlainIx b) (h : DE X W M wx δ b (fun d2 => gIx (.lst l) d2 Kp) Ke) (hdb : (x == ("__debug__" : Str)) = false := by decide) (hcd : (x == ("__classdict__" : Str)) = false := by decide) :
    DE X W M wx δ (.Subscript (.Name x p1) b pos) Kp Ke := by
  refine PE.imp (pe_ix ix_list (pe_var hi hv hdb hcd) pe_any hs) fun σ H Q ⟨env, q, qx⟩ => ?_
  obtain ⟨a, xs, e1, hown, h2, h3⟩ := own_at env hd
  refine ⟨_, e1, h.run env (fun y H2 d2 e2 r2 hg => ?_) qx⟩
  obtain ⟨l', j, z, hl', rfl, h4, k⟩ := hg
  cases hl'
  cases r2
  obtain ⟨a', xs', e1', hown', q2, q3⟩ := own_at (env.ext e2) hd
  rw [e1] at e1'
  cases e1'
  obtain ⟨v, hv, rv⟩ := atI_rep q3 h4
  exact ⟨a, xs', j, v, rfl, rfl, SqL.of q2, hv, q v H2 z e2 rv k⟩
end
end Lay

/-! # HD1: what these Bools tell -/
namespace Lay
open PySem PySem.Spec PyProof.Rows L2 He
/-! ### facts as Bools -/
theorem propB_ok {K : PySem.W.Frag} {C m : Str} (h : propB K C m = true) : PropOf K (ga K C) m (propAt C m K) (getAt C m K) := by
  obtain ⟨h1, h⟩ := ba h
  obtain ⟨h2, h⟩ := ba h
  obtain ⟨h3, h4⟩ := ba h
  refine ⟨of_decide_eq_true h1, of_decide_eq_true h2, of_decide_eq_true h3, ?_⟩
  unfold getAt
  split at h4
  · rename_i g r q
    rw [q]
    exact ⟨r, rfl⟩
  · cases h4
theorem insB_ok {K : PySem.W.Frag} {C : Addr} (c : Cls K C) (h : insB K C = true) : InsF K C ∧ clsB K C = true ∧ PySem.W.kitOne K (.ref C) (.ref C) = some true := by
  obtain ⟨h1, h⟩ := ba h
  obtain ⟨h2, h⟩ := ba h
  obtain ⟨h3, h⟩ := ba h
  obtain ⟨h4, h⟩ := ba h
  obtain ⟨h5, h6⟩ := ba h
  exact ⟨⟨c, of_decide_eq_true h1, of_decide_eq_true h2, of_decide_eq_true h3, of_decide_eq_true h4⟩, h5, of_decide_eq_true h6⟩
theorem ownEB_ok {K : PySem.W.Frag} {C : Addr} (h : ownEB K C = true) : OwnE K C (ma K C "__eq__") := by
  obtain ⟨h1, h⟩ := ba h
  obtain ⟨h2, h⟩ := ba h
  obtain ⟨h3, h4⟩ := ba h
  exact ⟨of_decide_eq_true h1, of_decide_eq_true h2, h3, fun z => by rw [z] at h4; cases h4⟩
theorem excB_ok {K : PySem.W.Frag} {C : Addr} (h : excB K C = true) : ExcC K C ∧ clsB K C = true ∧ PySem.W.kitOne K (.ref C) (.ref C) = some true := by
  obtain ⟨h1, h⟩ := ba h
  obtain ⟨h2, h⟩ := ba h
  obtain ⟨h3, h⟩ := ba h
  obtain ⟨h4, h⟩ := ba h
  obtain ⟨h5, h⟩ := ba h
  obtain ⟨h6, h⟩ := ba h
  obtain ⟨h7, h⟩ := ba h
  obtain ⟨h8, h⟩ := ba h
  obtain ⟨h9, h10⟩ := ba h
  exact ⟨⟨of_decide_eq_true h1, of_decide_eq_true h2, of_decide_eq_true h3, h4, of_decide_eq_true h5, of_decide_eq_true h6, of_decide_eq_true h7, of_decide_eq_true h8⟩, h9, of_decide_eq_true h10⟩
theorem exF_ok {K : PySem.W.Frag} {mg : Str → Option Value} {x : Str} (g : mg x = some (.ref (ga K x))) (h : (Fa.exc x).ok K = true) : ExF K mg x (ga K x) := by
  obtain ⟨a, b, c, d⟩ := exc_ok h
  exact ⟨g, a, b, c, d⟩
end Lay

namespace KK
open PySem PySem.Spec PyProof.Rows L2 Lay
local macro_rules | `(tactic| walk_at "d") => `(tactic| first
  | (with_reducible show DE _ _ _ _ _ _ _ _); (first
    | (with_reducible show DE _ _ _ _ _ (.Compare (.Name "units" _) [.NotEq] _ _) _ _); refine dx_cmpW (od_neO (by assumption) (by assumption) (by assumption) (by assumption)) rfl ?_
    | (with_reducible show DE _ _ _ _ _ (.Compare (.Name "units" _) [.Eq] _ _) _ _); refine dx_cmpW (od_eqO (by assumption) (by assumption) (by assumption)) rfl ?_
    | (with_reducible show DE _ _ _ _ _ (.Name _ _) _ _); (first | refine dx_name 0 rfl (by first | exact Or.inl rfl | exact Or.inr (Or.inl rfl) | exact Or.inr (Or.inr rfl)) rfl ?_ | refine dx_name 1 rfl (by first | exact Or.inl rfl | exact Or.inr (Or.inl rfl) | exact Or.inr (Or.inr rfl)) rfl ?_ | refine dx_name 2 rfl (by first | exact Or.inl rfl | exact Or.inr (Or.inl rfl) | exact Or.inr (Or.inr rfl)) rfl ?_ | refine dx_name 3 rfl (by first | exact Or.inl rfl | exact Or.inr (Or.inl rfl) | exact Or.inr (Or.inr rfl)) rfl ?_ | refine dx_name 4 rfl (by first | exact Or.inl rfl | exact Or.inr (Or.inl rfl) | exact Or.inr (Or.inr rfl)) rfl ?_ | refine dx_name 5 rfl (by first | exact Or.inl rfl | exact Or.inr (Or.inl rfl) | exact Or.inr (Or.inr rfl)) rfl ?_ | refine dx_name 6 rfl (by first | exact Or.inl rfl | exact Or.inr (Or.inl rfl) | exact Or.inr (Or.inr rfl)) rfl ?_ | refine dx_name 7 rfl (by first | exact Or.inl rfl | exact Or.inr (Or.inl rfl) | exact Or.inr (Or.inr rfl)) rfl ?_ | refine dx_name 8 rfl (by first | exact Or.inl rfl | exact Or.inr (Or.inl rfl) | exact Or.inr (Or.inr rfl)) rfl ?_ | refine dx_name 9 rfl (by first | exact Or.inl rfl | exact Or.inr (Or.inl rfl) | exact Or.inr (Or.inr rfl)) rfl ?_ | refine dx_name 10 rfl (by first | exact Or.inl rfl | exact Or.inr (Or.inl rfl) | exact Or.inr (Or.inr rfl)) rfl ?_ | refine dx_name 11 rfl (by first | exact Or.inl rfl | exact Or.inr (Or.inl rfl) | exact Or.inr (Or.inr rfl)) rfl ?_ | refine dx_name 12 rfl (by first | exact Or.inl rfl | exact Or.inr (Or.inl rfl) | exact Or.inr (Or.inr rfl)) rfl ?_ | refine dx_name 13 rfl (by first | exact Or.inl rfl | exact Or.inr (Or.inl rfl) | exact Or.inr (Or.inr rfl)) rfl ?_ | refine dx_name 14 rfl (by first | exact Or.inl rfl | exact Or.inr (Or.inl rfl) | exact Or.inr (Or.inr rfl)) rfl ?_ | refine dx_name 15 rfl (by first | exact Or.inl rfl | exact Or.inr (Or.inl rfl) | exact Or.inr (Or.inr rfl)) rfl ?_ | refine dx_name 16 rfl (by first | exact Or.inl rfl | exact Or.inr (Or.inl rfl) | exact Or.inr (Or.inr rfl)) rfl ?_ | refine dx_name 17 rfl (by first | exact Or.inl rfl | exact Or.inr (Or.inl rfl) | exact Or.inr (Or.inr rfl)) rfl ?_ | refine dx_name 18 rfl (by first | exact Or.inl rfl | exact Or.inr (Or.inl rfl) | exact Or.inr (Or.inr rfl)) rfl ?_ | refine dx_name 19 rfl (by first | exact Or.inl rfl | exact Or.inr (Or.inl rfl) | exact Or.inr (Or.inr rfl)) rfl ?_ | refine dx_gint rfl (by assumption) ?_)
    | (with_reducible show DE _ _ _ _ _ (.Constant (.int _) _ _) _ _); refine dx_int ?_
    | (with_reducible show DE _ _ _ _ _ (.Constant (.bool _) _ _) _ _); refine dx_bl ?_
    | (with_reducible show DE _ _ _ _ _ (.Constant .none _ _) _ _); refine dx_non ?_
    | (with_reducible show DE _ _ _ _ _ (.Constant (.str _) _ _) _ _); refine dx_str ?_
    | (with_reducible show DE _ _ _ _ _ (.BinOp _ .Add _ _) _ _); refine dx_op od_add ?_
    | (with_reducible show DE _ _ _ _ _ (.BinOp _ .Sub _ _) _ _); refine dx_op od_sub ?_
    | (with_reducible show DE _ _ _ _ _ (.BinOp _ .Mult _ _) _ _); refine dx_op od_mul ?_
    | (with_reducible show DE _ _ _ _ _ (.BinOp _ .FloorDiv _ _) _ _); refine dx_op od_fdiv ?_
    | (with_reducible show DE _ _ _ _ _ (.BinOp _ .Mod _ _) _ _); refine dx_op od_mod ?_
    | (with_reducible show DE _ _ _ _ _ (.BinOp _ .Pow _ _) _ _); refine dx_op od_pow ?_
    | (with_reducible show DE _ _ _ _ _ (.Compare _ [.Eq] _ _) _ _); refine dx_cmp (od_eq (by assumption)) rfl ?_
    | (with_reducible show DE _ _ _ _ _ (.Compare _ [.NotEq] _ _) _ _); refine dx_cmp (od_ne (by assumption)) rfl ?_
    | (with_reducible show DE _ _ _ _ _ (.Compare _ [.Lt] _ _) _ _); refine dx_cmp od_lt rfl ?_
    | (with_reducible show DE _ _ _ _ _ (.Compare _ [.LtE] _ _) _ _); refine dx_cmp od_le rfl ?_
    | (with_reducible show DE _ _ _ _ _ (.Compare _ [.Gt] _ _) _ _); refine dx_cmp od_gt rfl ?_
    | (with_reducible show DE _ _ _ _ _ (.Compare _ [.GtE] _ _) _ _); refine dx_cmp od_ge rfl ?_
    | (with_reducible show DE _ _ _ _ _ (.Compare _ [.Is] _ _) _ _); refine dx_cmp od_is rfl ?_
    | (with_reducible show DE _ _ _ _ _ (.Compare _ [.IsNot] _ _) _ _); refine dx_cmp od_isnot rfl ?_
    | (with_reducible show DE _ _ _ _ _ (.Compare _ [.In] _ _) _ _); refine dx_cmp od_in rfl ?_
    | (with_reducible show DE _ _ _ _ _ (.Compare _ [.NotIn] _ _) _ _); refine dx_cmp od_notin rfl ?_
    | (with_reducible show DE _ _ _ _ _ (.Compare _ [.LtE, .LtE] _ _) _ _); refine dx_chain od_le od_le (by with_unfolding_all rfl) ?_
    | (with_reducible show DE _ _ _ _ _ (.Compare _ [.Lt, .Lt] _ _) _ _); refine dx_chain od_lt od_lt (by with_unfolding_all rfl) ?_
    | (with_reducible show DE _ _ _ _ _ (.Compare _ [.LtE, .Lt] _ _) _ _); refine dx_chain od_le od_lt (by with_unfolding_all rfl) ?_
    | (with_reducible show DE _ _ _ _ _ (.UnaryOp .Not _ _) _ _); refine dx_not ?_
    | (with_reducible show DE _ _ _ _ _ (.UnaryOp .USub _ _) _ _); refine dx_neg ?_
    | (with_reducible show DE _ _ _ _ _ (.BoolOp _ [_] _) _ _); refine dx_one ?_
    | (with_reducible show DE _ _ _ _ _ (.BoolOp .And _ _) _ _); refine dx_and ?_
    | (with_reducible show DE _ _ _ _ _ (.BoolOp .Or _ _) _ _); refine dx_or ?_
    | (with_reducible show DE _ _ _ _ _ (.IfExp _ _ _ _) _ _); refine dx_if ?_
    | (with_reducible show DE _ _ _ _ _ (.Tuple _ _ _) _ _); refine dx_tup ?_
    | (with_reducible show DE _ _ _ _ _ (.Dict [] [] _) _ _); refine dx_dic0 ?_
    | (with_reducible show DE _ _ _ _ _ (.List _ _) _ _); refine dx_lst ?_
    | (with_reducible show DE _ _ _ _ _ (.Call (.Name "isinstance" _) [_, .Name "int" _] _ _) _ _); refine dx_isi "int" rfl (Bt.isinstance (by assumption)) rfl (Bt.int (by assumption)) bb_int ty_int ?_
    | (with_reducible show DE _ _ _ _ _ (.Call (.Name "isinstance" _) [_, .Name "bool" _] _ _) _ _); refine dx_isi "bool" rfl (Bt.isinstance (by assumption)) rfl (Bt.bool (by assumption)) bb_bool ty_bool ?_
    | (with_reducible show DE _ _ _ _ _ (.Call (.Name "isinstance" _) [_, .Name "tuple" _] _ _) _ _); refine dx_isi "tuple" rfl (Bt.isinstance (by assumption)) rfl (Bt.tuple (by assumption)) bb_tuple ty_tuple ?_
    | (with_reducible show DE _ _ _ _ _ (.Call (.Name "isinstance" _) [_, .Name "list" _] _ _) _ _); refine dx_isi "list" rfl (Bt.isinstance (by assumption)) rfl (Bt.list (by assumption)) bb_list ty_list ?_
    | (with_reducible show DE _ _ _ _ _ (.Call (.Name "isinstance" _) [_, .Name "dict" _] _ _) _ _); refine dx_isi "dict" rfl (Bt.isinstance (by assumption)) rfl (Bt.dict (by assumption)) bb_dict ty_dict ?_
    | (with_reducible show DE _ _ _ _ _ (.Call (.Name "isinstance" _) [_, .Name "str" _] _ _) _ _); refine dx_isi "str" rfl (Bt.isinstance (by assumption)) rfl (Bt.str (by assumption)) bb_str ty_str ?_
    | (with_reducible show DE _ _ _ _ _ (.Call (.Name "isinstance" _) [_, .Tuple _ _ _] _ _) _ _); refine dx_isi2 "list" "tuple" rfl (Bt.isinstance (by assumption)) rfl (Bt.list (by assumption)) bb_list rfl (Bt.tuple (by assumption)) bb_tuple ty_list ty_tuple ?_
    | (with_reducible show DE _ _ _ _ _ (.Call (.Name "len" _) [.Call (.Name "set" _) _ _ _] _ _) _ _); refine dx_lenSet rfl rfl (Bt.len (by assumption)) rfl (Bt.set (by assumption)) ?_
    | (with_reducible show DE _ _ _ _ _ (.Call (.Name "int" _) [.UnaryOp .Not _ _] _ _) _ _); refine dx_ty cd_intB rfl (Bt.int (by assumption)) bb_int ?_
    | (with_reducible show DE _ _ _ _ _ (.Call (.Name "len" _) _ _ _) _ _); refine dx_blt cd_len rfl (Bt.len (by assumption)) bb_len ?_
    | (with_reducible show DE _ _ _ _ _ (.Call (.Name "abs" _) _ _ _) _ _); refine dx_blt cd_abs rfl (Bt.abs (by assumption)) bb_abs ?_
    | (with_reducible show DE _ _ _ _ _ (.Call (.Name "all" _) _ _ _) _ _); refine dx_blt (cd_all rfl) rfl (Bt.all (by assumption)) bb_all ?_
    | (with_reducible show DE _ _ _ _ _ (.Call (.Name "min" _) _ _ _) _ _); refine dx_blt (cd_min rfl) rfl (Bt.min (by assumption)) bb_min ?_
    | (with_reducible show DE _ _ _ _ _ (.Call (.Name "max" _) _ _ _) _ _); refine dx_blt (cd_max rfl) rfl (Bt.max (by assumption)) bb_max ?_
    | (with_reducible show DE _ _ _ _ _ (.Call (.Name "int" _) _ _ _) _ _); refine dx_ty cd_int rfl (Bt.int (by assumption)) bb_int ?_
    | (with_reducible show DE _ _ _ _ _ (.Call (.Name "list" _) _ _ _) _ _); refine dx_ty cd_list rfl (Bt.list (by assumption)) bb_list ?_
    | (with_reducible show DE _ _ _ _ _ (.Call (.Name "tuple" _) _ _ _) _ _); refine dx_ty cd_tuple rfl (Bt.tuple (by assumption)) bb_tuple ?_
    | (with_reducible show DE _ _ _ _ _ (.Call (.Name "dict" _) _ _ _) _ _); refine dx_ty (cd_dictP rfl) rfl (Bt.dict (by assumption)) bb_dict ?_
    | (with_reducible show DE _ _ _ _ _ (.Subscript (.Name _ _) (.Constant (.str _) _ _) _) _ _); refine dx_dget (j := 0) (by assumption) (by first | exact Or.inl rfl | exact Or.inr rfl) rfl (by first | exact Or.inl rfl | exact Or.inr (Or.inl rfl)) rfl (fun _ => ?_)
    | (with_reducible show DE _ _ _ _ _ (.Subscript _ (.Slice _ _ _ _) _) _ _); refine dx_slice ?_
    | (with_reducible show DE _ _ _ _ _ (.Subscript _ _ _) _ _); refine dx_ix (fun _ _ => rfl) ?_
    | (with_reducible show DE _ _ _ _ _ (.ListComp _ [⟨.Name _ _, _, [], _⟩] _ _) _ _); (first | refine dx_lcN 0 rfl (by assumption) rfl rfl rfl (fun _ _ _ _ _ => by first | exact ⟨Or.inl rfl, Or.inr rfl⟩ | exact ⟨Or.inr rfl, Or.inl rfl⟩ | exact ⟨Or.inl rfl, Or.inl rfl⟩) ?_ | refine dx_lcN 1 rfl (by assumption) rfl rfl rfl (fun _ _ _ _ _ => by first | exact ⟨Or.inl rfl, Or.inr rfl⟩ | exact ⟨Or.inr rfl, Or.inl rfl⟩ | exact ⟨Or.inl rfl, Or.inl rfl⟩) ?_ | refine dx_lcN 2 rfl (by assumption) rfl rfl rfl (fun _ _ _ _ _ => by first | exact ⟨Or.inl rfl, Or.inr rfl⟩ | exact ⟨Or.inr rfl, Or.inl rfl⟩ | exact ⟨Or.inl rfl, Or.inl rfl⟩) ?_ | refine dx_lcN 3 rfl (by assumption) rfl rfl rfl (fun _ _ _ _ _ => by first | exact ⟨Or.inl rfl, Or.inr rfl⟩ | exact ⟨Or.inr rfl, Or.inl rfl⟩ | exact ⟨Or.inl rfl, Or.inl rfl⟩) ?_ | refine dx_lcN 4 rfl (by assumption) rfl rfl rfl (fun _ _ _ _ _ => by first | exact ⟨Or.inl rfl, Or.inr rfl⟩ | exact ⟨Or.inr rfl, Or.inl rfl⟩ | exact ⟨Or.inl rfl, Or.inl rfl⟩) ?_ | refine dx_lcN 5 rfl (by assumption) rfl rfl rfl (fun _ _ _ _ _ => by first | exact ⟨Or.inl rfl, Or.inr rfl⟩ | exact ⟨Or.inr rfl, Or.inl rfl⟩ | exact ⟨Or.inl rfl, Or.inl rfl⟩) ?_ | refine dx_lcN 6 rfl (by assumption) rfl rfl rfl (fun _ _ _ _ _ => by first | exact ⟨Or.inl rfl, Or.inr rfl⟩ | exact ⟨Or.inr rfl, Or.inl rfl⟩ | exact ⟨Or.inl rfl, Or.inl rfl⟩) ?_ | refine dx_lcN 7 rfl (by assumption) rfl rfl rfl (fun _ _ _ _ _ => by first | exact ⟨Or.inl rfl, Or.inr rfl⟩ | exact ⟨Or.inr rfl, Or.inl rfl⟩ | exact ⟨Or.inl rfl, Or.inl rfl⟩) ?_ | refine dx_lcN 8 rfl (by assumption) rfl rfl rfl (fun _ _ _ _ _ => by first | exact ⟨Or.inl rfl, Or.inr rfl⟩ | exact ⟨Or.inr rfl, Or.inl rfl⟩ | exact ⟨Or.inl rfl, Or.inl rfl⟩) ?_ | refine dx_lcN 9 rfl (by assumption) rfl rfl rfl (fun _ _ _ _ _ => by first | exact ⟨Or.inl rfl, Or.inr rfl⟩ | exact ⟨Or.inr rfl, Or.inl rfl⟩ | exact ⟨Or.inl rfl, Or.inl rfl⟩) ?_)
    | (with_reducible show DE _ _ _ _ _ (.ListComp _ [⟨.Name _ _, _, [_], _⟩] _ _) _ _); (first | refine dx_lcNIf 0 rfl (by assumption) rfl rfl rfl (fun _ _ _ _ _ => by first | exact ⟨Or.inl rfl, Or.inr rfl⟩ | exact ⟨Or.inr rfl, Or.inl rfl⟩ | exact ⟨Or.inl rfl, Or.inl rfl⟩) ?_ | refine dx_lcNIf 1 rfl (by assumption) rfl rfl rfl (fun _ _ _ _ _ => by first | exact ⟨Or.inl rfl, Or.inr rfl⟩ | exact ⟨Or.inr rfl, Or.inl rfl⟩ | exact ⟨Or.inl rfl, Or.inl rfl⟩) ?_ | refine dx_lcNIf 2 rfl (by assumption) rfl rfl rfl (fun _ _ _ _ _ => by first | exact ⟨Or.inl rfl, Or.inr rfl⟩ | exact ⟨Or.inr rfl, Or.inl rfl⟩ | exact ⟨Or.inl rfl, Or.inl rfl⟩) ?_ | refine dx_lcNIf 3 rfl (by assumption) rfl rfl rfl (fun _ _ _ _ _ => by first | exact ⟨Or.inl rfl, Or.inr rfl⟩ | exact ⟨Or.inr rfl, Or.inl rfl⟩ | exact ⟨Or.inl rfl, Or.inl rfl⟩) ?_ | refine dx_lcNIf 4 rfl (by assumption) rfl rfl rfl (fun _ _ _ _ _ => by first | exact ⟨Or.inl rfl, Or.inr rfl⟩ | exact ⟨Or.inr rfl, Or.inl rfl⟩ | exact ⟨Or.inl rfl, Or.inl rfl⟩) ?_ | refine dx_lcNIf 5 rfl (by assumption) rfl rfl rfl (fun _ _ _ _ _ => by first | exact ⟨Or.inl rfl, Or.inr rfl⟩ | exact ⟨Or.inr rfl, Or.inl rfl⟩ | exact ⟨Or.inl rfl, Or.inl rfl⟩) ?_ | refine dx_lcNIf 6 rfl (by assumption) rfl rfl rfl (fun _ _ _ _ _ => by first | exact ⟨Or.inl rfl, Or.inr rfl⟩ | exact ⟨Or.inr rfl, Or.inl rfl⟩ | exact ⟨Or.inl rfl, Or.inl rfl⟩) ?_ | refine dx_lcNIf 7 rfl (by assumption) rfl rfl rfl (fun _ _ _ _ _ => by first | exact ⟨Or.inl rfl, Or.inr rfl⟩ | exact ⟨Or.inr rfl, Or.inl rfl⟩ | exact ⟨Or.inl rfl, Or.inl rfl⟩) ?_ | refine dx_lcNIf 8 rfl (by assumption) rfl rfl rfl (fun _ _ _ _ _ => by first | exact ⟨Or.inl rfl, Or.inr rfl⟩ | exact ⟨Or.inr rfl, Or.inl rfl⟩ | exact ⟨Or.inl rfl, Or.inl rfl⟩) ?_ | refine dx_lcNIf 9 rfl (by assumption) rfl rfl rfl (fun _ _ _ _ _ => by first | exact ⟨Or.inl rfl, Or.inr rfl⟩ | exact ⟨Or.inr rfl, Or.inl rfl⟩ | exact ⟨Or.inl rfl, Or.inl rfl⟩) ?_)
    | (with_reducible show DE _ _ _ _ _ (.ListComp _ [⟨.Tuple _ _ _, _, [], _⟩] _ _) _ _); (first | refine dx_lcP 0 1 rfl (by assumption) rfl rfl rfl rfl (fun _ _ _ _ _ => by first | exact ⟨⟨Or.inl rfl, Or.inr rfl⟩, ⟨Or.inl rfl, Or.inr rfl⟩⟩ | exact ⟨⟨Or.inr rfl, Or.inl rfl⟩, ⟨Or.inr rfl, Or.inl rfl⟩⟩ | exact ⟨⟨Or.inl rfl, Or.inl rfl⟩, ⟨Or.inl rfl, Or.inl rfl⟩⟩) ?_ | refine dx_lcP 1 2 rfl (by assumption) rfl rfl rfl rfl (fun _ _ _ _ _ => by first | exact ⟨⟨Or.inl rfl, Or.inr rfl⟩, ⟨Or.inl rfl, Or.inr rfl⟩⟩ | exact ⟨⟨Or.inr rfl, Or.inl rfl⟩, ⟨Or.inr rfl, Or.inl rfl⟩⟩ | exact ⟨⟨Or.inl rfl, Or.inl rfl⟩, ⟨Or.inl rfl, Or.inl rfl⟩⟩) ?_ | refine dx_lcP 1 0 rfl (by assumption) rfl rfl rfl rfl (fun _ _ _ _ _ => by first | exact ⟨⟨Or.inl rfl, Or.inr rfl⟩, ⟨Or.inl rfl, Or.inr rfl⟩⟩ | exact ⟨⟨Or.inr rfl, Or.inl rfl⟩, ⟨Or.inr rfl, Or.inl rfl⟩⟩ | exact ⟨⟨Or.inl rfl, Or.inl rfl⟩, ⟨Or.inl rfl, Or.inl rfl⟩⟩) ?_ | refine dx_lcP 2 3 rfl (by assumption) rfl rfl rfl rfl (fun _ _ _ _ _ => by first | exact ⟨⟨Or.inl rfl, Or.inr rfl⟩, ⟨Or.inl rfl, Or.inr rfl⟩⟩ | exact ⟨⟨Or.inr rfl, Or.inl rfl⟩, ⟨Or.inr rfl, Or.inl rfl⟩⟩ | exact ⟨⟨Or.inl rfl, Or.inl rfl⟩, ⟨Or.inl rfl, Or.inl rfl⟩⟩) ?_ | refine dx_lcP 2 1 rfl (by assumption) rfl rfl rfl rfl (fun _ _ _ _ _ => by first | exact ⟨⟨Or.inl rfl, Or.inr rfl⟩, ⟨Or.inl rfl, Or.inr rfl⟩⟩ | exact ⟨⟨Or.inr rfl, Or.inl rfl⟩, ⟨Or.inr rfl, Or.inl rfl⟩⟩ | exact ⟨⟨Or.inl rfl, Or.inl rfl⟩, ⟨Or.inl rfl, Or.inl rfl⟩⟩) ?_ | refine dx_lcP 3 4 rfl (by assumption) rfl rfl rfl rfl (fun _ _ _ _ _ => by first | exact ⟨⟨Or.inl rfl, Or.inr rfl⟩, ⟨Or.inl rfl, Or.inr rfl⟩⟩ | exact ⟨⟨Or.inr rfl, Or.inl rfl⟩, ⟨Or.inr rfl, Or.inl rfl⟩⟩ | exact ⟨⟨Or.inl rfl, Or.inl rfl⟩, ⟨Or.inl rfl, Or.inl rfl⟩⟩) ?_ | refine dx_lcP 3 2 rfl (by assumption) rfl rfl rfl rfl (fun _ _ _ _ _ => by first | exact ⟨⟨Or.inl rfl, Or.inr rfl⟩, ⟨Or.inl rfl, Or.inr rfl⟩⟩ | exact ⟨⟨Or.inr rfl, Or.inl rfl⟩, ⟨Or.inr rfl, Or.inl rfl⟩⟩ | exact ⟨⟨Or.inl rfl, Or.inl rfl⟩, ⟨Or.inl rfl, Or.inl rfl⟩⟩) ?_ | refine dx_lcP 4 5 rfl (by assumption) rfl rfl rfl rfl (fun _ _ _ _ _ => by first | exact ⟨⟨Or.inl rfl, Or.inr rfl⟩, ⟨Or.inl rfl, Or.inr rfl⟩⟩ | exact ⟨⟨Or.inr rfl, Or.inl rfl⟩, ⟨Or.inr rfl, Or.inl rfl⟩⟩ | exact ⟨⟨Or.inl rfl, Or.inl rfl⟩, ⟨Or.inl rfl, Or.inl rfl⟩⟩) ?_ | refine dx_lcP 4 3 rfl (by assumption) rfl rfl rfl rfl (fun _ _ _ _ _ => by first | exact ⟨⟨Or.inl rfl, Or.inr rfl⟩, ⟨Or.inl rfl, Or.inr rfl⟩⟩ | exact ⟨⟨Or.inr rfl, Or.inl rfl⟩, ⟨Or.inr rfl, Or.inl rfl⟩⟩ | exact ⟨⟨Or.inl rfl, Or.inl rfl⟩, ⟨Or.inl rfl, Or.inl rfl⟩⟩) ?_ | refine dx_lcP 5 6 rfl (by assumption) rfl rfl rfl rfl (fun _ _ _ _ _ => by first | exact ⟨⟨Or.inl rfl, Or.inr rfl⟩, ⟨Or.inl rfl, Or.inr rfl⟩⟩ | exact ⟨⟨Or.inr rfl, Or.inl rfl⟩, ⟨Or.inr rfl, Or.inl rfl⟩⟩ | exact ⟨⟨Or.inl rfl, Or.inl rfl⟩, ⟨Or.inl rfl, Or.inl rfl⟩⟩) ?_ | refine dx_lcP 5 4 rfl (by assumption) rfl rfl rfl rfl (fun _ _ _ _ _ => by first | exact ⟨⟨Or.inl rfl, Or.inr rfl⟩, ⟨Or.inl rfl, Or.inr rfl⟩⟩ | exact ⟨⟨Or.inr rfl, Or.inl rfl⟩, ⟨Or.inr rfl, Or.inl rfl⟩⟩ | exact ⟨⟨Or.inl rfl, Or.inl rfl⟩, ⟨Or.inl rfl, Or.inl rfl⟩⟩) ?_ | refine dx_lcP 6 7 rfl (by assumption) rfl rfl rfl rfl (fun _ _ _ _ _ => by first | exact ⟨⟨Or.inl rfl, Or.inr rfl⟩, ⟨Or.inl rfl, Or.inr rfl⟩⟩ | exact ⟨⟨Or.inr rfl, Or.inl rfl⟩, ⟨Or.inr rfl, Or.inl rfl⟩⟩ | exact ⟨⟨Or.inl rfl, Or.inl rfl⟩, ⟨Or.inl rfl, Or.inl rfl⟩⟩) ?_ | refine dx_lcP 6 5 rfl (by assumption) rfl rfl rfl rfl (fun _ _ _ _ _ => by first | exact ⟨⟨Or.inl rfl, Or.inr rfl⟩, ⟨Or.inl rfl, Or.inr rfl⟩⟩ | exact ⟨⟨Or.inr rfl, Or.inl rfl⟩, ⟨Or.inr rfl, Or.inl rfl⟩⟩ | exact ⟨⟨Or.inl rfl, Or.inl rfl⟩, ⟨Or.inl rfl, Or.inl rfl⟩⟩) ?_ | refine dx_lcP 7 8 rfl (by assumption) rfl rfl rfl rfl (fun _ _ _ _ _ => by first | exact ⟨⟨Or.inl rfl, Or.inr rfl⟩, ⟨Or.inl rfl, Or.inr rfl⟩⟩ | exact ⟨⟨Or.inr rfl, Or.inl rfl⟩, ⟨Or.inr rfl, Or.inl rfl⟩⟩ | exact ⟨⟨Or.inl rfl, Or.inl rfl⟩, ⟨Or.inl rfl, Or.inl rfl⟩⟩) ?_ | refine dx_lcP 7 6 rfl (by assumption) rfl rfl rfl rfl (fun _ _ _ _ _ => by first | exact ⟨⟨Or.inl rfl, Or.inr rfl⟩, ⟨Or.inl rfl, Or.inr rfl⟩⟩ | exact ⟨⟨Or.inr rfl, Or.inl rfl⟩, ⟨Or.inr rfl, Or.inl rfl⟩⟩ | exact ⟨⟨Or.inl rfl, Or.inl rfl⟩, ⟨Or.inl rfl, Or.inl rfl⟩⟩) ?_)
    | (with_reducible show DE _ _ _ _ _ (.Call (.Name "gcd" _) _ _ _) _ _); refine dx_bfun cd_gcd rfl (by assumption) ?_
    | (with_reducible show DE _ _ _ _ _ (.Call (.Name _ _) _ _ _) _ _); refine dx_call (by assumption) (by assumption) (by first | assumption | exact takes_wx0) rfl ?_)
  | (with_reducible show DT _ _ _ _ _ _ _ _); (first
    | (with_reducible show DT _ _ _ _ _ (.Compare (.Name "units" _) [.NotEq] _ _) _ _); refine dt_cmpW (od_neO (by assumption) (by assumption) (by assumption) (by assumption)) rfl ?_
    | (with_reducible show DT _ _ _ _ _ (.Compare (.Name "units" _) [.Eq] _ _) _ _); refine dt_cmpW (od_eqO (by assumption) (by assumption) (by assumption)) rfl ?_
    | (with_reducible show DT _ _ _ _ _ (.Compare _ [.Eq] _ _) _ _); refine dt_cmp (od_eq (by assumption)) rfl ?_
    | (with_reducible show DT _ _ _ _ _ (.Compare _ [.NotEq] _ _) _ _); refine dt_cmp (od_ne (by assumption)) rfl ?_
    | (with_reducible show DT _ _ _ _ _ (.Compare _ [.Lt] _ _) _ _); refine dt_cmp od_lt rfl ?_
    | (with_reducible show DT _ _ _ _ _ (.Compare _ [.LtE] _ _) _ _); refine dt_cmp od_le rfl ?_
    | (with_reducible show DT _ _ _ _ _ (.Compare _ [.Gt] _ _) _ _); refine dt_cmp od_gt rfl ?_
    | (with_reducible show DT _ _ _ _ _ (.Compare _ [.GtE] _ _) _ _); refine dt_cmp od_ge rfl ?_
    | (with_reducible show DT _ _ _ _ _ (.Compare _ [.Is] _ _) _ _); refine dt_cmp od_is rfl ?_
    | (with_reducible show DT _ _ _ _ _ (.Compare _ [.IsNot] _ _) _ _); refine dt_cmp od_isnot rfl ?_
    | (with_reducible show DT _ _ _ _ _ (.Compare _ [.In] _ _) _ _); refine dt_cmp od_in rfl ?_
    | (with_reducible show DT _ _ _ _ _ (.Compare _ [.NotIn] _ _) _ _); refine dt_cmp od_notin rfl ?_
    | (with_reducible show DT _ _ _ _ _ (.Compare _ [.LtE, .LtE] _ _) _ _); refine dt_chain od_le od_le (by with_unfolding_all rfl) ?_
    | (with_reducible show DT _ _ _ _ _ (.Compare _ [.Lt, .Lt] _ _) _ _); refine dt_chain od_lt od_lt (by with_unfolding_all rfl) ?_
    | (with_reducible show DT _ _ _ _ _ (.Compare _ [.LtE, .Lt] _ _) _ _); refine dt_chain od_le od_lt (by with_unfolding_all rfl) ?_
    | (with_reducible show DT _ _ _ _ _ (.UnaryOp .Not _ _) _ _); refine dt_not ?_
    | (with_reducible show DT _ _ _ _ _ (.BoolOp .And _ _) _ _); refine dt_w (dw_and ?_)
    | (with_reducible show DT _ _ _ _ _ (.BoolOp .Or _ _) _ _); refine dt_w (dw_or ?_)
    | (with_reducible show DT _ _ _ _ _ _ _ _); refine dt_val (fun _ => rfl) ?_)
  | (with_reducible show DW _ _ _ _ _ _ _ _); (first
    | (with_reducible show DW _ _ _ _ _ (.BoolOp .And [_] _) _ _); refine dw_and1 ?_
    | (with_reducible show DW _ _ _ _ _ (.BoolOp .Or [_] _) _ _); refine dw_or1 ?_
    | (with_reducible show DW _ _ _ _ _ (.BoolOp .And _ _) _ _); refine dw_and ?_
    | (with_reducible show DW _ _ _ _ _ (.BoolOp .Or _ _) _ _); refine dw_or ?_)
  | (with_reducible show DA _ _ _ _ _ _ _ _); (first
    | (with_reducible show DA _ _ _ _ _ [] _ _); refine da_nil ?_
    | (with_reducible show DA _ _ _ _ _ _ _ _); refine da_cons ?_)
  | (with_reducible show DP _ _ _ _ _ _ _ _); (first
    | (with_reducible show DP _ _ _ _ _ none _ _); refine dp_none ?_
    | (with_reducible show DP _ _ _ _ _ _ _ _); refine dp_some ?_)
  | (with_reducible show DI _ _ _ _ _ _ _ _ _); (first
    | (with_reducible show DI _ _ _ _ _ _ (.Call (.Name "range" _) [_] _ _) _ _); refine di_range1 rfl (Bt.range (by assumption)) ?_
    | (with_reducible show DI _ _ _ _ _ _ (.Call (.Name "range" _) _ _ _) _ _); refine di_range2 rfl (Bt.range (by assumption)) ?_
    | (with_reducible show DI _ _ _ _ _ _ (.Call (.Name "zip" _) _ _ _) _ _); refine di_zip rfl (Bt.zip (by assumption)) ?_
    | (with_reducible show DI _ _ _ _ _ _ (.Call (.Name "enumerate" _) _ _ _) _ _); refine di_enum rfl (Bt.enumerate (by assumption)) ?_
    | (with_reducible show DI _ _ _ _ _ _ _ _ _); refine di_seq ?_)
  | (with_reducible show DSs _ _ _ _ _ (.If (.Compare (.Name "errors" _) _ _ _) _ _ _ :: _) _ _); (first | refine dss_give 0 rfl ?_ | refine dss_give 1 rfl ?_ | refine dss_give 2 rfl ?_ | refine dss_give 3 rfl ?_ | refine dss_give 4 rfl ?_ | refine dss_give 5 rfl ?_ | refine dss_give 6 rfl ?_ | refine dss_give 7 rfl ?_ | refine dss_give 8 rfl ?_ | refine dss_give 9 rfl ?_ | refine dss_give 10 rfl ?_ | refine dss_give 11 rfl ?_ | refine dss_give 12 rfl ?_ | refine dss_give 13 rfl ?_ | refine dss_give 14 rfl ?_ | refine dss_give 15 rfl ?_ | refine dss_give 16 rfl ?_ | refine dss_give 17 rfl ?_)
  | (with_reducible show DSs _ _ _ _ _ (.Return (some (.Compare (.Name "errors" _) _ _ _)) _ :: _) _ _); (first | refine dss_give 0 rfl ?_ | refine dss_give 1 rfl ?_ | refine dss_give 2 rfl ?_ | refine dss_give 3 rfl ?_ | refine dss_give 4 rfl ?_ | refine dss_give 5 rfl ?_ | refine dss_give 6 rfl ?_ | refine dss_give 7 rfl ?_ | refine dss_give 8 rfl ?_ | refine dss_give 9 rfl ?_ | refine dss_give 10 rfl ?_ | refine dss_give 11 rfl ?_ | refine dss_give 12 rfl ?_ | refine dss_give 13 rfl ?_ | refine dss_give 14 rfl ?_ | refine dss_give 15 rfl ?_ | refine dss_give 16 rfl ?_ | refine dss_give 17 rfl ?_)
  | (with_reducible show DS _ _ _ _ _ (.Assign [.Name "errors" _] (.List _ _) _) _ _); (first | refine ds_setF 0 (by assumption) rfl (by first | exact Or.inl rfl | exact Or.inr rfl) (df_lst ?_) | refine ds_setF 1 (by assumption) rfl (by first | exact Or.inl rfl | exact Or.inr rfl) (df_lst ?_) | refine ds_setF 2 (by assumption) rfl (by first | exact Or.inl rfl | exact Or.inr rfl) (df_lst ?_) | refine ds_setF 3 (by assumption) rfl (by first | exact Or.inl rfl | exact Or.inr rfl) (df_lst ?_) | refine ds_setF 4 (by assumption) rfl (by first | exact Or.inl rfl | exact Or.inr rfl) (df_lst ?_) | refine ds_setF 5 (by assumption) rfl (by first | exact Or.inl rfl | exact Or.inr rfl) (df_lst ?_) | refine ds_setF 6 (by assumption) rfl (by first | exact Or.inl rfl | exact Or.inr rfl) (df_lst ?_) | refine ds_setF 7 (by assumption) rfl (by first | exact Or.inl rfl | exact Or.inr rfl) (df_lst ?_) | refine ds_setF 8 (by assumption) rfl (by first | exact Or.inl rfl | exact Or.inr rfl) (df_lst ?_) | refine ds_setF 9 (by assumption) rfl (by first | exact Or.inl rfl | exact Or.inr rfl) (df_lst ?_) | refine ds_setF 10 (by assumption) rfl (by first | exact Or.inl rfl | exact Or.inr rfl) (df_lst ?_) | refine ds_setF 11 (by assumption) rfl (by first | exact Or.inl rfl | exact Or.inr rfl) (df_lst ?_) | refine ds_setF 12 (by assumption) rfl (by first | exact Or.inl rfl | exact Or.inr rfl) (df_lst ?_) | refine ds_setF 13 (by assumption) rfl (by first | exact Or.inl rfl | exact Or.inr rfl) (df_lst ?_) | refine ds_setF 14 (by assumption) rfl (by first | exact Or.inl rfl | exact Or.inr rfl) (df_lst ?_) | refine ds_setF 15 (by assumption) rfl (by first | exact Or.inl rfl | exact Or.inr rfl) (df_lst ?_) | refine ds_setF 16 (by assumption) rfl (by first | exact Or.inl rfl | exact Or.inr rfl) (df_lst ?_) | refine ds_setF 17 (by assumption) rfl (by first | exact Or.inl rfl | exact Or.inr rfl) (df_lst ?_))
  | (with_reducible show DS _ _ _ _ _ (.Expr (.Call (.Attribute (.Name "errors" _) _ _) _ _ _) _) _ _); (first | refine ds_append 0 rfl (by first | exact Or.inl rfl | exact Or.inr (Or.inl rfl)) rfl (Nat.le_of_ble_eq_true rfl) ?_ | refine ds_append 1 rfl (by first | exact Or.inl rfl | exact Or.inr (Or.inl rfl)) rfl (Nat.le_of_ble_eq_true rfl) ?_ | refine ds_append 2 rfl (by first | exact Or.inl rfl | exact Or.inr (Or.inl rfl)) rfl (Nat.le_of_ble_eq_true rfl) ?_ | refine ds_append 3 rfl (by first | exact Or.inl rfl | exact Or.inr (Or.inl rfl)) rfl (Nat.le_of_ble_eq_true rfl) ?_ | refine ds_append 4 rfl (by first | exact Or.inl rfl | exact Or.inr (Or.inl rfl)) rfl (Nat.le_of_ble_eq_true rfl) ?_ | refine ds_append 5 rfl (by first | exact Or.inl rfl | exact Or.inr (Or.inl rfl)) rfl (Nat.le_of_ble_eq_true rfl) ?_ | refine ds_append 6 rfl (by first | exact Or.inl rfl | exact Or.inr (Or.inl rfl)) rfl (Nat.le_of_ble_eq_true rfl) ?_ | refine ds_append 7 rfl (by first | exact Or.inl rfl | exact Or.inr (Or.inl rfl)) rfl (Nat.le_of_ble_eq_true rfl) ?_ | refine ds_append 8 rfl (by first | exact Or.inl rfl | exact Or.inr (Or.inl rfl)) rfl (Nat.le_of_ble_eq_true rfl) ?_ | refine ds_append 9 rfl (by first | exact Or.inl rfl | exact Or.inr (Or.inl rfl)) rfl (Nat.le_of_ble_eq_true rfl) ?_ | refine ds_append 10 rfl (by first | exact Or.inl rfl | exact Or.inr (Or.inl rfl)) rfl (Nat.le_of_ble_eq_true rfl) ?_ | refine ds_append 11 rfl (by first | exact Or.inl rfl | exact Or.inr (Or.inl rfl)) rfl (Nat.le_of_ble_eq_true rfl) ?_ | refine ds_append 12 rfl (by first | exact Or.inl rfl | exact Or.inr (Or.inl rfl)) rfl (Nat.le_of_ble_eq_true rfl) ?_ | refine ds_append 13 rfl (by first | exact Or.inl rfl | exact Or.inr (Or.inl rfl)) rfl (Nat.le_of_ble_eq_true rfl) ?_ | refine ds_append 14 rfl (by first | exact Or.inl rfl | exact Or.inr (Or.inl rfl)) rfl (Nat.le_of_ble_eq_true rfl) ?_ | refine ds_append 15 rfl (by first | exact Or.inl rfl | exact Or.inr (Or.inl rfl)) rfl (Nat.le_of_ble_eq_true rfl) ?_ | refine ds_append 16 rfl (by first | exact Or.inl rfl | exact Or.inr (Or.inl rfl)) rfl (Nat.le_of_ble_eq_true rfl) ?_ | refine ds_append 17 rfl (by first | exact Or.inl rfl | exact Or.inr (Or.inl rfl)) rfl (Nat.le_of_ble_eq_true rfl) ?_)
  | (with_reducible show DSs _ _ _ _ _ [] _ _); refine ds_nil ?_
  | (with_reducible show DSs _ _ _ _ _ _ _ _); refine ds_cons ?_
  | (with_reducible show DS _ _ _ _ _ (.Return none _) _ _); refine ds_retN ?_
  | (with_reducible show DS _ _ _ _ _ (.Return _ _) _ _); refine ds_ret ?_
  | (with_reducible show DS _ _ _ _ _ (.If _ _ _ _) _ _); refine ds_if ?_
  | (with_reducible show DS _ _ _ _ _ (.Pass _) _ _); refine ds_pass ?_
  | (with_reducible show DS _ _ _ _ _ (.Expr (.Call (.Name _ _) _ _ _) _) _ _); refine ds_expr ?_
  | (with_reducible show DS _ _ _ _ _ (.Assign [.Name _ _] _ _) _ _); (first | refine ds_set 0 (by assumption) rfl (by first | exact Or.inl rfl | exact Or.inr rfl) ?_ | refine ds_set 1 (by assumption) rfl (by first | exact Or.inl rfl | exact Or.inr rfl) ?_ | refine ds_set 2 (by assumption) rfl (by first | exact Or.inl rfl | exact Or.inr rfl) ?_ | refine ds_set 3 (by assumption) rfl (by first | exact Or.inl rfl | exact Or.inr rfl) ?_ | refine ds_set 4 (by assumption) rfl (by first | exact Or.inl rfl | exact Or.inr rfl) ?_ | refine ds_set 5 (by assumption) rfl (by first | exact Or.inl rfl | exact Or.inr rfl) ?_ | refine ds_set 6 (by assumption) rfl (by first | exact Or.inl rfl | exact Or.inr rfl) ?_ | refine ds_set 7 (by assumption) rfl (by first | exact Or.inl rfl | exact Or.inr rfl) ?_ | refine ds_set 8 (by assumption) rfl (by first | exact Or.inl rfl | exact Or.inr rfl) ?_ | refine ds_set 9 (by assumption) rfl (by first | exact Or.inl rfl | exact Or.inr rfl) ?_ | refine ds_set 10 (by assumption) rfl (by first | exact Or.inl rfl | exact Or.inr rfl) ?_ | refine ds_set 11 (by assumption) rfl (by first | exact Or.inl rfl | exact Or.inr rfl) ?_ | refine ds_set 12 (by assumption) rfl (by first | exact Or.inl rfl | exact Or.inr rfl) ?_ | refine ds_set 13 (by assumption) rfl (by first | exact Or.inl rfl | exact Or.inr rfl) ?_ | refine ds_set 14 (by assumption) rfl (by first | exact Or.inl rfl | exact Or.inr rfl) ?_ | refine ds_set 15 (by assumption) rfl (by first | exact Or.inl rfl | exact Or.inr rfl) ?_ | refine ds_set 16 (by assumption) rfl (by first | exact Or.inl rfl | exact Or.inr rfl) ?_ | refine ds_set 17 (by assumption) rfl (by first | exact Or.inl rfl | exact Or.inr rfl) ?_)
  | (with_reducible show DS _ _ _ _ _ (.Assign [.Tuple [.Name _ _, .Name _ _] _ _] (.Tuple [_, _] _ _) _) _ _); (first | refine ds_par2 0 1 rfl (by assumption) rfl rfl (by decide) rfl rfl rfl ?_ | refine ds_par2 0 2 rfl (by assumption) rfl rfl (by decide) rfl rfl rfl ?_ | refine ds_par2 1 0 rfl (by assumption) rfl rfl (by decide) rfl rfl rfl ?_ | refine ds_par2 1 2 rfl (by assumption) rfl rfl (by decide) rfl rfl rfl ?_ | refine ds_par2 1 3 rfl (by assumption) rfl rfl (by decide) rfl rfl rfl ?_ | refine ds_par2 2 0 rfl (by assumption) rfl rfl (by decide) rfl rfl rfl ?_ | refine ds_par2 2 1 rfl (by assumption) rfl rfl (by decide) rfl rfl rfl ?_ | refine ds_par2 2 3 rfl (by assumption) rfl rfl (by decide) rfl rfl rfl ?_ | refine ds_par2 2 4 rfl (by assumption) rfl rfl (by decide) rfl rfl rfl ?_ | refine ds_par2 3 1 rfl (by assumption) rfl rfl (by decide) rfl rfl rfl ?_ | refine ds_par2 3 2 rfl (by assumption) rfl rfl (by decide) rfl rfl rfl ?_ | refine ds_par2 3 4 rfl (by assumption) rfl rfl (by decide) rfl rfl rfl ?_ | refine ds_par2 3 5 rfl (by assumption) rfl rfl (by decide) rfl rfl rfl ?_ | refine ds_par2 4 2 rfl (by assumption) rfl rfl (by decide) rfl rfl rfl ?_ | refine ds_par2 4 3 rfl (by assumption) rfl rfl (by decide) rfl rfl rfl ?_ | refine ds_par2 4 5 rfl (by assumption) rfl rfl (by decide) rfl rfl rfl ?_ | refine ds_par2 4 6 rfl (by assumption) rfl rfl (by decide) rfl rfl rfl ?_ | refine ds_par2 5 3 rfl (by assumption) rfl rfl (by decide) rfl rfl rfl ?_ | refine ds_par2 5 4 rfl (by assumption) rfl rfl (by decide) rfl rfl rfl ?_ | refine ds_par2 5 6 rfl (by assumption) rfl rfl (by decide) rfl rfl rfl ?_ | refine ds_par2 5 7 rfl (by assumption) rfl rfl (by decide) rfl rfl rfl ?_ | refine ds_par2 6 4 rfl (by assumption) rfl rfl (by decide) rfl rfl rfl ?_ | refine ds_par2 6 5 rfl (by assumption) rfl rfl (by decide) rfl rfl rfl ?_ | refine ds_par2 6 7 rfl (by assumption) rfl rfl (by decide) rfl rfl rfl ?_ | refine ds_par2 6 8 rfl (by assumption) rfl rfl (by decide) rfl rfl rfl ?_ | refine ds_par2 7 5 rfl (by assumption) rfl rfl (by decide) rfl rfl rfl ?_ | refine ds_par2 7 6 rfl (by assumption) rfl rfl (by decide) rfl rfl rfl ?_ | refine ds_par2 7 8 rfl (by assumption) rfl rfl (by decide) rfl rfl rfl ?_ | refine ds_par2 7 9 rfl (by assumption) rfl rfl (by decide) rfl rfl rfl ?_ | refine ds_par2 8 6 rfl (by assumption) rfl rfl (by decide) rfl rfl rfl ?_ | refine ds_par2 8 7 rfl (by assumption) rfl rfl (by decide) rfl rfl rfl ?_ | refine ds_par2 8 9 rfl (by assumption) rfl rfl (by decide) rfl rfl rfl ?_ | refine ds_par2 9 7 rfl (by assumption) rfl rfl (by decide) rfl rfl rfl ?_ | refine ds_par2 9 8 rfl (by assumption) rfl rfl (by decide) rfl rfl rfl ?_)
  | (with_reducible show DS _ _ _ _ _ (.Assign [.Tuple [.Name _ _, .Name _ _, .Name _ _] _ _] (.Tuple [_, _, _] _ _) _) _ _); (first | refine ds_par3 0 1 2 rfl (by assumption) rfl rfl rfl (by decide) (by decide) (by decide) rfl rfl rfl rfl ?_ | refine ds_par3 1 2 3 rfl (by assumption) rfl rfl rfl (by decide) (by decide) (by decide) rfl rfl rfl rfl ?_ | refine ds_par3 2 3 4 rfl (by assumption) rfl rfl rfl (by decide) (by decide) (by decide) rfl rfl rfl rfl ?_ | refine ds_par3 3 4 5 rfl (by assumption) rfl rfl rfl (by decide) (by decide) (by decide) rfl rfl rfl rfl ?_ | refine ds_par3 4 5 6 rfl (by assumption) rfl rfl rfl (by decide) (by decide) (by decide) rfl rfl rfl rfl ?_ | refine ds_par3 5 6 7 rfl (by assumption) rfl rfl rfl (by decide) (by decide) (by decide) rfl rfl rfl rfl ?_ | refine ds_par3 6 7 8 rfl (by assumption) rfl rfl rfl (by decide) (by decide) (by decide) rfl rfl rfl rfl ?_ | refine ds_par3 7 8 9 rfl (by assumption) rfl rfl rfl (by decide) (by decide) (by decide) rfl rfl rfl rfl ?_ | refine ds_par3 8 9 10 rfl (by assumption) rfl rfl rfl (by decide) (by decide) (by decide) rfl rfl rfl rfl ?_ | refine ds_par3 9 10 11 rfl (by assumption) rfl rfl rfl (by decide) (by decide) (by decide) rfl rfl rfl rfl ?_)
  | (with_reducible show DS _ _ _ _ _ (.Assign [.Subscript _ _ _] _ _) _ _); refine ds_dput 0 (by assumption) (by first | exact Or.inl rfl | exact Or.inr rfl) rfl (by first | exact Or.inl rfl | exact Or.inr (Or.inl rfl)) rfl ?_)
local macro_rules | `(tactic| walk_at "br") => `(tactic| first
  | (with_reducible show gIx _ _ _); refine Exists.intro _ (Exists.intro _ (Exists.intro _ (And.intro rfl (And.intro rfl (And.intro rfl ?_)))))
  | refine Exists.intro _ (And.intro (rfl : seqD _ = some _) ?_)
  | refine And.intro (rfl : List.length _ = List.length _) ?_
  | (with_reducible show tru _ _); refine Exists.intro _ (And.intro rfl ?_)
  | refine brT rfl ?_
  | refine brF rfl ?_
  | exact And.intro (by decide) (by assumption))
local macro_rules | `(tactic| walk_at "go") => `(tactic| first
  | repeat (first
  | walk_at "d"
  | (with_reducible show gIx _ _ _); refine Exists.intro _ (Exists.intro _ (Exists.intro _ (And.intro rfl (And.intro rfl (And.intro rfl ?_)))))
  | refine Exists.intro _ (And.intro (rfl : seqD _ = some _) ?_)
  | refine And.intro (rfl : List.length _ = List.length _) ?_
  | (with_reducible show tru _ _); refine Exists.intro _ (And.intro rfl ?_)
  | refine brT rfl ?_
  | refine brF rfl ?_
  | exact And.intro (by decide) (by assumption)
  | (fail_if_success first | (with_reducible show DE _ _ _ _ _ _ _ _) | (with_reducible show DSs _ _ _ _ _ _ _ _) | (with_reducible show DW _ _ _ _ _ _ _ _) | (with_reducible show DT _ _ _ _ _ _ _ _) | (with_reducible show DA _ _ _ _ _ _ _ _) | (with_reducible show DS _ _ _ _ _ _ _ _) | (with_reducible show DP _ _ _ _ _ _ _ _) | (with_reducible show DI _ _ _ _ _ _ _ _ _) | (with_reducible show tru _ _)); (first | show DE _ _ _ _ _ _ _ _ | show DSs _ _ _ _ _ _ _ _ | show DW _ _ _ _ _ _ _ _ | show DT _ _ _ _ _ _ _ _ | show DA _ _ _ _ _ _ _ _ | show DS _ _ _ _ _ _ _ _ | show DP _ _ _ _ _ _ _ _ | show DI _ _ _ _ _ _ _ _ _ | show tru _ _)))
local macro_rules | `(tactic| walk_at "lc") => `(tactic| first
  | exact (fun _ _ _ _ _ => by first | exact ⟨Or.inl rfl, Or.inr rfl⟩ | exact ⟨Or.inr rfl, Or.inl rfl⟩ | exact ⟨Or.inl rfl, Or.inl rfl⟩))
local macro_rules | `(tactic| walk_at "lcp") => `(tactic| first
  | exact (fun _ _ _ _ _ => by first | exact ⟨⟨Or.inl rfl, Or.inr rfl⟩, ⟨Or.inl rfl, Or.inr rfl⟩⟩ | exact ⟨⟨Or.inr rfl, Or.inl rfl⟩, ⟨Or.inr rfl, Or.inl rfl⟩⟩ | exact ⟨⟨Or.inl rfl, Or.inl rfl⟩, ⟨Or.inl rfl, Or.inl rfl⟩⟩))
local macro_rules | `(tactic| walk_at "gl") => `(tactic| first
  | repeat (first
  | walk_at "d"
  | refine And.intro (Nat.le_of_ble_eq_true rfl : List.length _ ≤ _) ?_
  | (with_reducible show gIx _ _ _); refine Exists.intro _ (Exists.intro _ (Exists.intro _ (And.intro rfl (And.intro rfl (And.intro rfl ?_)))))
  | refine Exists.intro _ (And.intro (rfl : seqD _ = some _) ?_)
  | refine And.intro (rfl : List.length _ = List.length _) ?_
  | (with_reducible show tru _ _); refine Exists.intro _ (And.intro rfl ?_)
  | refine brT rfl ?_
  | refine brF rfl ?_
  | exact And.intro (by decide) (by assumption)
  | (fail_if_success first | (with_reducible show DE _ _ _ _ _ _ _ _) | (with_reducible show DSs _ _ _ _ _ _ _ _) | (with_reducible show DW _ _ _ _ _ _ _ _) | (with_reducible show DT _ _ _ _ _ _ _ _) | (with_reducible show DA _ _ _ _ _ _ _ _) | (with_reducible show DS _ _ _ _ _ _ _ _) | (with_reducible show DP _ _ _ _ _ _ _ _) | (with_reducible show DI _ _ _ _ _ _ _ _ _) | (with_reducible show tru _ _)); (first | show DE _ _ _ _ _ _ _ _ | show DSs _ _ _ _ _ _ _ _ | show DW _ _ _ _ _ _ _ _ | show DT _ _ _ _ _ _ _ _ | show DA _ _ _ _ _ _ _ _ | show DS _ _ _ _ _ _ _ _ | show DP _ _ _ _ _ _ _ _ | show DI _ _ _ _ _ _ _ _ _ | show tru _ _)))
/-- what the top has left, beside the names that are the built-in ones -/
structure Tx (G : Pg) : Prop where
  b : Bt G.mg
  gcd : G.mg "gcd" = some (.builtin "math.gcd")
  most : GInt G.mg "MOST" (10 ^ 300)
  mostRoot : GInt G.mg "MOST_ROOT" 99
  mostRoots : GInt G.mg "MOST_ROOTS" 2
  mostAreas : GInt G.mg "MOST_AREAS" 400
/-- a def of the top stands -/
def At (G : Pg) (x : Str) (st : Stmt) : Prop := ∃ fa fd, FunD G.K x x (defArgs st) (defBody st) (defScope st) [] [] fa fd ∧ G.mg x = some (.ref fa)
mutual
/-- plain data: no objects -/
def pl : D → Bool
  | .tup l => plL l
  | .lst l => plL l
  | .dic _ ds => plL ds
  | .ins _ _ _ => false
  | .exc _ _ _ => false
  | .drw => false
  | .frz _ => false
  | _ => true
def plL : List D → Bool
  | [] => true
  | d :: ds => pl d && plL ds
end
theorem pl_prim {d : D} (h : pl d = true) : prim d = true := by cases d <;> first | rfl | (simp [pl] at h)
theorem plL_mem : ∀ {l : List D}, plL l = true → ∀ d ∈ l, pl d = true
  | [], _, _, h => by cases h
  | e :: l, h, d, hd => by
    simp only [plL, Bool.and_eq_true] at h
    rcases List.mem_cons.mp hd with rfl | hd
    · exact h.1
    · exact plL_mem h.2 d hd
/-! ### numbers, ratios -/
def isNum : D → Bool
  | .int _ => true
  | _ => false
theorem isNum_eq (d : D) : isNum d = (isP "int" d && !isP "bool" d) := by cases d <;> rfl
def f_is_number : FS := fun ds Kp _ => as1 (fun d => pl d = true ∧ Kp (.bl (isNum d))) ds
abbrev s_is_number : Stmt := top 12
theorem sc_is_number : FnScope ["thing"] ["thing"] (defScope s_is_number) := ⟨rfl, rfl, rfl, by decide +kernel, rfl, by decide +kernel, by decide +kernel⟩
theorem ok_is_number {G : Pg} {k : Nat} (T : Tx G) (h : At G "is_number" s_is_number) : Fn G "is_number" (k + 1) ["thing"] f_is_number := by
  obtain ⟨fa, fd, F, hm⟩ := h
  refine Fn.of F hm sc_is_number (fun _ _ _ _ _ _ us hl => match us, hl with | [_], _ => rfl) ?_
  intro cdv A outer s H E dr M ds Kp Ke tk po hr hl hf
  have tb := T.b
  have nd := sc_is_number.nd
  obtain ⟨d, rfl, hp, k⟩ := as1_ex hf
  have hp := pl_prim hp
  rw [isNum_eq] at k
  repeat (walk_at "d")
  refine ⟨hp, fun h => ?_, fun h => ?_⟩
  · rw [h] at k
    repeat (walk_at "d")
    exact ⟨hp, k⟩
  · rw [h] at k
    exact k
def isRat : D → Bool
  | .tup [.int a, .int b] => decide (0 < b) && (((Nat.gcd a.natAbs b.natAbs : Nat) : Int) == 1)
  | _ => false
def f_is_ratio : FS := fun ds Kp _ => as1 (fun d => pl d = true ∧ Kp (.bl (isRat d))) ds
abbrev s_is_ratio : Stmt := top 13
theorem sc_is_ratio : FnScope ["thing", "part"] ["thing"] (defScope s_is_ratio) := ⟨rfl, rfl, rfl, by decide +kernel, rfl, by decide +kernel, by decide +kernel⟩
theorem ok_is_ratio {G : Pg} {k : Nat} (T : Tx G) (h : At G "is_ratio" s_is_ratio) (c_is_number : Fn G "is_number" k ["thing"] f_is_number) : Fn G "is_ratio" (k + 1) ["thing"] f_is_ratio := by
  obtain ⟨fa, fd, F, hm⟩ := h
  refine Fn.of F hm sc_is_ratio (fun _ _ _ _ _ _ us hl => match us, hl with | [_], _ => rfl) ?_
  intro cdv A outer s H E dr M ds Kp Ke tk po hr hl hf
  have tb := T.b
  have nd := sc_is_ratio.nd
  have gg := T.gcd

  obtain ⟨d, rfl, hp', k⟩ := as1_ex hf
  have hp := pl_prim hp'
  repeat (walk_at "d")
  refine ⟨hp, ?_⟩
  by_cases ht : ∃ l, d = .tup l
  · obtain ⟨l, rfl⟩ := ht
    by_cases h2 : ∃ a b, l = [a, b]
    · obtain ⟨a, b, rfl⟩ := h2
      simp only [pl, plL, Bool.and_eq_true] at hp'
      obtain ⟨pa, pb, -⟩ := hp'
      walk_at "go"
      refine lc_map (fun d => .bl (isNum d)) (by simp) (fun _ _ => trivial) (fun d hd A s H C cl fp => ?_) ?_
      · walk_at "go"
        refine ⟨?_, rfl⟩
        rcases List.mem_cons.mp hd with rfl | hd
        · exact pa
        · rcases List.mem_cons.mp hd with rfl | hd
          · exact pb
          · cases hd
      walk_at "go"
      refine ⟨_, [isNum a, isNum b], rfl, rfl, ?_⟩
      by_cases hn : ∃ i j, a = .int i ∧ b = .int j
      · obtain ⟨i, j, rfl, rfl⟩ := hn
        walk_at "go"
        by_cases hj : (0 : Int) < j
        · refine brT (decide_eq_true hj) ?_
          walk_at "go"
          have e : isRat (.tup [.int i, .int j]) = (((Nat.gcd i.natAbs j.natAbs : Nat) : Int) == 1) := by
            show (decide (0 < j) && _) = _
            rw [decide_eq_true hj]; rfl
          rw [e] at k
          exact k
        · refine brF (decide_eq_false hj) ?_
          have e : isRat (.tup [.int i, .int j]) = false := by
            show (decide (0 < j) && _) = _
            rw [decide_eq_false hj]; rfl
          rw [e] at k
          exact k
      · have e : isRat (.tup [a, b]) = false := by
          cases a <;> first | rfl | (cases b <;> first | rfl | exact absurd ⟨_, _, rfl, rfl⟩ hn)
        have e2 : ([isNum a, isNum b].all id) = false := by
          cases a <;> first | rfl | (cases b <;> first | rfl | exact absurd ⟨_, _, rfl, rfl⟩ hn)
        rw [e] at k
        rw [e2]
        walk_at "go"
        exact k
    · have e : ((l.length : Int) == 2) = false := by
        match l, h2 with
        | [], _ => rfl
        | [_], _ => rfl
        | [a, b], h => exact absurd ⟨a, b, rfl⟩ h
        | _ :: _ :: _ :: r, _ => simp only [List.length_cons, beq_eq_false_iff_ne]; omega
      have e2 : isRat (.tup l) = false := by
        match l, h2 with
        | [], _ => rfl
        | [a], _ => cases a <;> rfl
        | [a, b], h => exact absurd ⟨a, b, rfl⟩ h
        | a :: b :: _ :: r, _ => cases a <;> first | rfl | (cases b <;> rfl)
      rw [e2] at k
      walk_at "go"
      refine brT (by rw [e]; rfl) ?_
      walk_at "go"
      exact k
  · have e : isP "tuple" d = false := by cases d <;> first | rfl | exact absurd ⟨_, rfl⟩ ht
    have e2 : isRat d = false := by cases d <;> first | rfl | exact absurd ⟨_, rfl⟩ ht
    rw [e2] at k
    rw [e]
    walk_at "go"
    exact k
def asRat : D → D
  | .tup l => .tup l
  | d => .tup [d, .int 1]
def f_as_ratio : FS := fun ds Kp _ => as1 (fun d => pl d = true ∧ Kp (asRat d)) ds
abbrev s_as_ratio : Stmt := top 14
theorem sc_as_ratio : FnScope ["number"] ["number"] (defScope s_as_ratio) := ⟨rfl, rfl, rfl, by decide +kernel, rfl, by decide +kernel, by decide +kernel⟩
theorem ok_as_ratio {G : Pg} {k : Nat} (T : Tx G) (h : At G "as_ratio" s_as_ratio) : Fn G "as_ratio" (k + 1) ["number"] f_as_ratio := by
  obtain ⟨fa, fd, F, hm⟩ := h
  refine Fn.of F hm sc_as_ratio (fun _ _ _ _ _ _ us hl => match us, hl with | [_], _ => rfl) ?_
  intro cdv A outer s H E dr M ds Kp Ke tk po hr hl hf
  have tb := T.b
  have nd := sc_as_ratio.nd
  obtain ⟨d, rfl, hp', k⟩ := as1_ex hf
  have hp := pl_prim hp'
  walk_at "go"
  refine ⟨hp, ?_⟩
  by_cases ht : ∃ l, d = .tup l
  · obtain ⟨l, rfl⟩ := ht
    walk_at "go"
    exact k
  · have e : isP "tuple" d = false := by cases d <;> first | rfl | exact absurd ⟨_, rfl⟩ ht
    have e2 : asRat d = .tup [d, .int 1] := by cases d <;> first | rfl | exact absurd ⟨_, rfl⟩ ht
    rw [e2] at k
    rw [e]
    walk_at "go"
    exact ⟨by simp, k⟩
abbrev rat (a b : Int) : D := .tup [.int a, .int b]
abbrev MOST : Int := 10 ^ 300
def few1 (a : Int) : Bool := decide (-MOST < a) && decide (a < MOST)
def few (a b : Int) : Bool := few1 a && few1 b
def f_has_few_digits : FS := fun ds Kp _ => ∃ a b, ds = [rat a b] ∧ Kp (.bl (few a b))
def few1D : D → D
  | .int a => .bl (few1 a)
  | d => d
abbrev s_has_few_digits : Stmt := top 15
theorem sc_has_few_digits : FnScope ["ratio", "part"] ["ratio"] (defScope s_has_few_digits) := ⟨rfl, rfl, rfl, by decide +kernel, rfl, by decide +kernel, by decide +kernel⟩
theorem ok_has_few_digits {G : Pg} {k : Nat} (T : Tx G) (h : At G "has_few_digits" s_has_few_digits) : Fn G "has_few_digits" (k + 1) ["ratio"] f_has_few_digits := by
  obtain ⟨fa, fd, F, hm⟩ := h
  refine Fn.of F hm sc_has_few_digits (fun _ _ _ _ _ _ us hl => match us, hl with | [_], _ => rfl) ?_
  intro cdv A outer s H E dr M ds Kp Ke tk po hr hl hf
  have tb := T.b
  have nd := sc_has_few_digits.nd
  obtain ⟨a, b, rfl, k⟩ := hf
  have hM := T.most
  walk_at "go"
  refine lc_map few1D (by simp) (fun _ _ => trivial) (fun d hd A s H C cl fp => ?_) ?_
  · have : ∃ i, d = .int i := by
      rcases List.mem_cons.mp hd with rfl | hd
      · exact ⟨_, rfl⟩
      · rcases List.mem_cons.mp hd with rfl | hd
        · exact ⟨_, rfl⟩
        · cases hd
    obtain ⟨i, rfl⟩ := this
    walk_at "go"
    refine ⟨fun (h : decide (-MOST < i) = true) => ?_, fun (h : decide (-MOST < i) = false) => ?_⟩
    · walk_at "go"
      show D.bl _ = D.bl (few1 i)
      rw [few1, h]; rfl
    · show D.bl _ = D.bl (few1 i)
      rw [few1, h]; rfl
  walk_at "go"
  refine ⟨_, [few1 a, few1 b], rfl, rfl, ?_⟩
  have e : ([few1 a, few1 b].all id) = few a b := by simp [few]
  rw [e]
  exact k
def isGiv : D → Bool
  | .int a => few1 a
  | .tup [.int a, .int b] => isRat (.tup [.int a, .int b]) && few a b
  | _ => false
def f_is_given_number : FS := fun ds Kp _ => as1 (fun d => pl d = true ∧ Kp (.bl (isGiv d))) ds
abbrev s_is_given_number : Stmt := top 16
theorem sc_is_given_number : FnScope ["thing"] ["thing"] (defScope s_is_given_number) := ⟨rfl, rfl, rfl, by decide +kernel, rfl, by decide +kernel, by decide +kernel⟩
theorem ok_is_given_number {G : Pg} {k : Nat} (T : Tx G) (h : At G "is_given_number" s_is_given_number) (c_is_number : Fn G "is_number" k ["thing"] f_is_number) (c_is_ratio : Fn G "is_ratio" k ["thing"] f_is_ratio) (c_as_ratio : Fn G "as_ratio" k ["number"] f_as_ratio) (c_has_few_digits : Fn G "has_few_digits" k ["ratio"] f_has_few_digits) : Fn G "is_given_number" (k + 1) ["thing"] f_is_given_number := by
  obtain ⟨fa, fd, F, hm⟩ := h
  refine Fn.of F hm sc_is_given_number (fun _ _ _ _ _ _ us hl => match us, hl with | [_], _ => rfl) ?_
  intro cdv A outer s H E dr M ds Kp Ke tk po hr hl hf
  have tb := T.b
  have nd := sc_is_given_number.nd
  obtain ⟨d, rfl, hp, k⟩ := as1_ex hf
  walk_at "go"
  refine ⟨hp, ?_⟩
  by_cases h : ∃ i, d = .int i
  · obtain ⟨i, rfl⟩ := h
    walk_at "go"
    refine ⟨hp, ?_⟩
    walk_at "go"
    refine ⟨i, 1, rfl, ?_⟩
    have e : isGiv (.int i) = few i 1 := by
      show few1 i = (few1 i && few1 1)
      rw [show few1 1 = true from by decide +kernel, Bool.and_true]
    rw [e] at k
    exact k
  · have e : isNum d = false := by cases d <;> first | rfl | exact absurd ⟨_, rfl⟩ h
    rw [e]
    walk_at "go"
    refine ⟨hp, ?_⟩
    by_cases h2 : ∃ i j, d = rat i j ∧ isRat (rat i j) = true
    · obtain ⟨i, j, rfl, hr2⟩ := h2
      rw [hr2]
      walk_at "go"
      refine ⟨hp, ?_⟩
      walk_at "go"
      refine ⟨i, j, rfl, ?_⟩
      have e : isGiv (rat i j) = few i j := by
        show (isRat (rat i j) && few i j) = _
        rw [hr2, Bool.true_and]
      rw [e] at k
      exact k
    · have e1 : isRat d = false := by
        cases hh : isRat d with
        | false => rfl
        | true =>
          refine absurd ?_ h2
          unfold isRat at hh
          split at hh
          · rename_i a b
            exact ⟨a, b, rfl, hh⟩
          · cases hh
      have e2 : isGiv d = false := by
        unfold isGiv
        split
        · exact absurd ⟨_, rfl⟩ h
        · rw [e1]; rfl
        · rfl
      rw [e2] at k
      rw [e1]
      walk_at "go"
      exact k
/-! sums of ratios -/
def sz (n : Nat) (i : Int) : Prop := i.natAbs < 2 ^ n
theorem sz.log {n : Nat} {i : Int} (h : sz n i) (hn : 0 < n) : i.natAbs.log2 < n := by
  by_cases c : i.natAbs = 0
  · rw [c]; exact hn
  · exact (Nat.log2_lt c).mpr h
theorem sz.mul {n m : Nat} {i j : Int} (h : sz n i) (g : sz m j) : sz (n + m) (i * j) := by
  unfold sz at *
  rw [Int.natAbs_mul, Nat.pow_add]
  exact Nat.mul_lt_mul'' h g
theorem sz.add {n : Nat} {i j : Int} (h : sz n i) (g : sz n j) : sz (n + 1) (i + j) := by
  unfold sz at *
  have := Int.natAbs_add_le i j
  omega
theorem sz.sub {n : Nat} {i j : Int} (h : sz n i) (g : sz n j) : sz (n + 1) (i - j) := by
  unfold sz at *
  have := Int.natAbs_sub_le i j
  omega
theorem sz.mono {n m : Nat} {i : Int} (h : sz n i) (g : n ≤ m) : sz m i := Nat.lt_of_lt_of_le h (Nat.pow_le_pow_right (by decide) g)
theorem sz.cmul {n m : Nat} {i j : Int} (h : sz n i) (g : sz m j) (hn : 0 < n) (hm : 0 < m) (hb : n + m ≤ 1000000) : CMulD i j := .inr (by
  have := h.log hn
  have := g.log hm
  show _ + _ < _
  omega)
abbrev gcdI (x y : Int) : Int := ((Nat.gcd x.natAbs y.natAbs : Nat) : Int)
theorem gcdI_pos {x y : Int} (h : 0 < y) : 0 < gcdI x y := by
  have : 0 < Nat.gcd x.natAbs y.natAbs := Nat.gcd_pos_of_pos_right _ (by omega)
  show (0 : Int) < (_ : Nat)
  omega
theorem gcdI_le {x y : Int} (h : 0 < y) : (gcdI x y).natAbs ≤ y.natAbs := by
  show ((_ : Nat) : Int).natAbs ≤ _
  rw [Int.natAbs_natCast]
  exact Nat.gcd_le_right _ (by omega)
/-- a pair as a ratio -/
abbrev rpair (x y : Int) : D := rat (x / gcdI x y) (y / gcdI x y)
def f_as_pair : FS := fun ds Kp _ => ∃ x y, ds = [.int x, .int y] ∧ 0 < y ∧ sz 9000 y ∧ Kp (rpair x y)
abbrev s_as_pair : Stmt := top 17
theorem sc_as_pair : FnScope ["above", "below", "least"] ["above", "below"] (defScope s_as_pair) := ⟨rfl, rfl, rfl, by decide +kernel, rfl, by decide +kernel, by decide +kernel⟩
theorem ok_as_pair {G : Pg} {k : Nat} (T : Tx G) (h : At G "as_pair" s_as_pair) : Fn G "as_pair" (k + 1) ["above", "below"] f_as_pair := by
  obtain ⟨fa, fd, F, hm⟩ := h
  refine Fn.of F hm sc_as_pair (fun _ _ _ _ _ _ us hl => match us, hl with | [_, _], _ => rfl) ?_
  intro cdv A outer s H E dr M ds Kp Ke tk po hr hl hf
  have tb := T.b
  have nd := sc_as_pair.nd
  obtain ⟨x, y, rfl, h0, hs, k⟩ := hf
  have gg := T.gcd
  have hg : CDivW 0 (gcdI x y) := ⟨gcdI_pos h0, (Nat.lt_of_le_of_lt (gcdI_le h0) hs |> fun z => sz.log (i := gcdI x y) z (by decide))⟩
  walk_at "go"
  refine brF (decide_eq_false (by omega)) ?_
  walk_at "go"
  refine ⟨hg, ?_⟩
  walk_at "go"
  refine ⟨hg, ?_⟩
  walk_at "go"
  exact ⟨by simp, k⟩
def f_plus : FS := fun ds Kp _ => ∃ a b c d, ds = [rat a b, rat c d] ∧ 0 < b ∧ 0 < d ∧ sz 4000 a ∧ sz 4000 b ∧ sz 4000 c ∧ sz 4000 d ∧ Kp (rpair (a * d + c * b) (b * d))
abbrev s_plus : Stmt := top 18
theorem sc_plus : FnScope ["one", "other"] ["one", "other"] (defScope s_plus) := ⟨rfl, rfl, rfl, by decide +kernel, rfl, by decide +kernel, by decide +kernel⟩
theorem ok_plus {G : Pg} {k : Nat} (T : Tx G) (h : At G "plus" s_plus) (c_as_pair : Fn G "as_pair" k ["above", "below"] f_as_pair) : Fn G "plus" (k + 1) ["one", "other"] f_plus := by
  obtain ⟨fa, fd, F, hm⟩ := h
  refine Fn.of F hm sc_plus (fun _ _ _ _ _ _ us hl => match us, hl with | [_, _], _ => rfl) ?_
  intro cdv A outer s H E dr M ds Kp Ke tk po hr hl hf
  have tb := T.b
  have nd := sc_plus.nd
  obtain ⟨a, b, c, d, rfl, hb, hd, s1, s2, s3, s4, k⟩ := hf
  walk_at "go"
  refine ⟨s1.cmul s4 (by decide) (by decide) (by decide), ?_⟩
  walk_at "go"
  refine ⟨s3.cmul s2 (by decide) (by decide) (by decide), ?_⟩
  walk_at "go"
  refine ⟨s2.cmul s4 (by decide) (by decide) (by decide), ?_⟩
  walk_at "go"
  exact ⟨_, _, rfl, Int.mul_pos hb hd, (s2.mul s4).mono (by decide), k⟩
def f_minus : FS := fun ds Kp _ => ∃ a b c d, ds = [rat a b, rat c d] ∧ 0 < b ∧ 0 < d ∧ sz 4000 a ∧ sz 4000 b ∧ sz 4000 c ∧ sz 4000 d ∧ Kp (rpair (a * d - c * b) (b * d))
abbrev s_minus : Stmt := top 19
theorem sc_minus : FnScope ["one", "other"] ["one", "other"] (defScope s_minus) := ⟨rfl, rfl, rfl, by decide +kernel, rfl, by decide +kernel, by decide +kernel⟩
theorem ok_minus {G : Pg} {k : Nat} (T : Tx G) (h : At G "minus" s_minus) (c_as_pair : Fn G "as_pair" k ["above", "below"] f_as_pair) : Fn G "minus" (k + 1) ["one", "other"] f_minus := by
  obtain ⟨fa, fd, F, hm⟩ := h
  refine Fn.of F hm sc_minus (fun _ _ _ _ _ _ us hl => match us, hl with | [_, _], _ => rfl) ?_
  intro cdv A outer s H E dr M ds Kp Ke tk po hr hl hf
  have tb := T.b
  have nd := sc_minus.nd
  obtain ⟨a, b, c, d, rfl, hb, hd, s1, s2, s3, s4, k⟩ := hf
  walk_at "go"
  refine ⟨s1.cmul s4 (by decide) (by decide) (by decide), ?_⟩
  walk_at "go"
  refine ⟨s3.cmul s2 (by decide) (by decide) (by decide), ?_⟩
  walk_at "go"
  refine ⟨s2.cmul s4 (by decide) (by decide) (by decide), ?_⟩
  walk_at "go"
  exact ⟨_, _, rfl, Int.mul_pos hb hd, (s2.mul s4).mono (by decide), k⟩
def f_times : FS := fun ds Kp _ => ∃ a b c d, ds = [rat a b, rat c d] ∧ 0 < b ∧ 0 < d ∧ sz 4000 a ∧ sz 4000 b ∧ sz 4000 c ∧ sz 4000 d ∧ Kp (rpair (a * c) (b * d))
abbrev s_times : Stmt := top 20
theorem sc_times : FnScope ["one", "other"] ["one", "other"] (defScope s_times) := ⟨rfl, rfl, rfl, by decide +kernel, rfl, by decide +kernel, by decide +kernel⟩
theorem ok_times {G : Pg} {k : Nat} (T : Tx G) (h : At G "times" s_times) (c_as_pair : Fn G "as_pair" k ["above", "below"] f_as_pair) : Fn G "times" (k + 1) ["one", "other"] f_times := by
  obtain ⟨fa, fd, F, hm⟩ := h
  refine Fn.of F hm sc_times (fun _ _ _ _ _ _ us hl => match us, hl with | [_, _], _ => rfl) ?_
  intro cdv A outer s H E dr M ds Kp Ke tk po hr hl hf
  have tb := T.b
  have nd := sc_times.nd
  obtain ⟨a, b, c, d, rfl, hb, hd, s1, s2, s3, s4, k⟩ := hf
  walk_at "go"
  refine ⟨s1.cmul s3 (by decide) (by decide) (by decide), ?_⟩
  walk_at "go"
  refine ⟨s2.cmul s4 (by decide) (by decide) (by decide), ?_⟩
  walk_at "go"
  exact ⟨_, _, rfl, Int.mul_pos hb hd, (s2.mul s4).mono (by decide), k⟩
/-! ### lengths: tuples of ratios -/
abbrev ratP (x : Int × Int) : D := rat x.1 x.2
def lenD (p : List (Int × Int)) : D := .tup (p.map ratP)
def pairP (x y : Int) : Int × Int := (x / gcdI x y, y / gcdI x y)
def plusP (x y : Int × Int) : Int × Int := pairP (x.1 * y.2 + y.1 * x.2) (x.2 * y.2)
def minusP (x y : Int × Int) : Int × Int := pairP (x.1 * y.2 - y.1 * x.2) (x.2 * y.2)
def timesP (x y : Int × Int) : Int × Int := pairP (x.1 * y.1) (x.2 * y.2)
/-- a ratio that is not too great -/
structure OkP (n : Nat) (x : Int × Int) : Prop where
  pos : 0 < x.2
  up : sz n x.1
  dn : sz n x.2
theorem OkP.mono {n m : Nat} {x : Int × Int} (h : OkP n x) (g : n ≤ m) : OkP m x := ⟨h.pos, h.up.mono g, h.dn.mono g⟩
/-- a map over pairs of ratios -/
def pairF (g : Int × Int → Int × Int → Int × Int) : D → D
  | .tup [.tup [.int a, .int b], .tup [.int c, .int d]] => ratP (g (a, b) (c, d))
  | d => d
theorem zip_mem {p q : List (Int × Int)} {d : D} (h : d ∈ zipD (p.map ratP) (q.map ratP)) : ∃ x ∈ p, ∃ y ∈ q, d = .tup [ratP x, ratP y] := by
  simp only [zipD, List.mem_map] at h
  obtain ⟨⟨u, v⟩, h, rfl⟩ := h
  obtain ⟨hu, hv⟩ := List.of_mem_zip h
  obtain ⟨x, hx, rfl⟩ := List.mem_map.mp hu
  obtain ⟨y, hy, rfl⟩ := List.mem_map.mp hv
  exact ⟨x, hx, y, hy, rfl⟩
theorem zip_map (g : Int × Int → Int × Int → Int × Int) : ∀ (p q : List (Int × Int)), (zipD (p.map ratP) (q.map ratP)).map (pairF g) = (List.zipWith g p q).map ratP
  | [], _ => rfl
  | _ :: _, [] => rfl
  | x :: p, y :: q => by
    have := zip_map g p q
    simp only [zipD, List.map_cons, List.zip_cons_cons, List.zipWith_cons_cons] at this ⊢
    rw [this]; rfl
theorem zip_len (p q : List (Int × Int)) (h : p.length ≤ 16777216) : (zipD (p.map ratP) (q.map ratP)).length ≤ 16777216 := by
  simp only [zipD, List.length_map, List.length_zip]; omega
def pl_item {l : List D} (h : plL l = true) {d : D} (hd : d ∈ l) : pl d = true := plL_mem h d hd
def f_as_length : FS := fun ds Kp _ => ∃ d l, ds = [d] ∧ seqD d = some l ∧ plL l = true ∧ l.length ≤ 16777216 ∧ Kp (.tup (l.map asRat))
abbrev s_as_length : Stmt := top 31
theorem sc_as_length : FnScope ["thing", "item"] ["thing"] (defScope s_as_length) := ⟨rfl, rfl, rfl, by decide +kernel, rfl, by decide +kernel, by decide +kernel⟩
theorem ok_as_length {G : Pg} {k : Nat} (T : Tx G) (h : At G "as_length" s_as_length) (c_as_ratio : Fn G "as_ratio" k ["number"] f_as_ratio) : Fn G "as_length" (k + 1) ["thing"] f_as_length := by
  obtain ⟨fa, fd, F, hm⟩ := h
  refine Fn.of F hm sc_as_length (fun _ _ _ _ _ _ us hl => match us, hl with | [_], _ => rfl) ?_
  intro cdv A outer s H E dr M ds Kp Ke tk po hr hl hf
  have tb := T.b
  have nd := sc_as_length.nd
  obtain ⟨d, l, rfl, hs, hp, hn, k⟩ := hf
  walk_at "go"
  refine ⟨l, hs, ?_⟩
  refine lc_map asRat hn (fun _ _ => trivial) (fun d hd A s H C cl fp => ?_) ?_
  · walk_at "go"
    exact ⟨plL_mem hp d hd, rfl⟩
  walk_at "go"
  exact k
def f_length_plus : FS := fun ds Kp _ => ∃ p q, ds = [lenD p, lenD q] ∧ p.length ≤ 16777216 ∧ (∀ x ∈ p, OkP 4000 x) ∧ (∀ x ∈ q, OkP 4000 x) ∧ Kp (lenD (List.zipWith plusP p q))
def f_length_minus : FS := fun ds Kp _ => ∃ p q, ds = [lenD p, lenD q] ∧ p.length ≤ 16777216 ∧ (∀ x ∈ p, OkP 4000 x) ∧ (∀ x ∈ q, OkP 4000 x) ∧ Kp (lenD (List.zipWith minusP p q))
/-- a map over ratios -/
def oneF (g : Int × Int → Int × Int) : D → D
  | .tup [.int a, .int b] => ratP (g (a, b))
  | d => d
theorem one_map (g : Int × Int → Int × Int) (p : List (Int × Int)) : (p.map ratP).map (oneF g) = (p.map g).map ratP := by
  rw [List.map_map, List.map_map]; rfl
def f_length_times : FS := fun ds Kp _ => ∃ p y, ds = [lenD p, ratP y] ∧ p.length ≤ 16777216 ∧ (∀ x ∈ p, OkP 4000 x) ∧ OkP 4000 y ∧ Kp (lenD (p.map fun x => timesP x y))
/-! ### the law's own numbers -/
mutual
theorem okd_pl : ∀ (n : Nat) (d : D), okd n d = true → pl d = true
  | _, .non, _ => rfl
  | _, .bl _, _ => rfl
  | _, .int _, _ => rfl
  | _, .str _, _ => rfl
  | 0, .tup l, h => by cases h
  | 0, .lst l, h => by cases h
  | n + 1, .tup l, h => okdL_pl n l h
  | n + 1, .lst l, h => okdL_pl n l h
  | 0, .dic _ _, h => by cases h
  | 0, .ins _ _ _, h => by cases h
  | 0, .exc _ _ _, h => by cases h
  | 0, .drw, h => by cases h
  | 0, .frz _, h => by cases h
  | n + 1, .dic _ _, h => by cases h
  | n + 1, .ins _ _ _, h => by cases h
  | n + 1, .exc _ _ _, h => by cases h
  | n + 1, .drw, h => by cases h
  | n + 1, .frz _, h => by cases h
theorem okdL_pl : ∀ (n : Nat) (l : List D), okdL n l = true → plL l = true
  | _, [], _ => rfl
  | n, d :: l, h => by
    simp only [okdL, Bool.and_eq_true] at h
    simp only [plL, Bool.and_eq_true]
    exact ⟨okd_pl n d h.1, okdL_pl n l h.2⟩
end
theorem okd_prim {n : Nat} {d : D} (h : okd n d = true) : prim d = true := pl_prim (okd_pl n d h)
def f__law_gcd : FS := fun ds Kp _ => ∃ x y, ds = [.int x, .int y] ∧ Kp (.int (gcdI x y))
def gcdInv (g : Int) (δ : De) : Prop := ∃ a b : Int, δ = [.im (.int a), .im (.int b)] ∧ 0 ≤ a ∧ 0 ≤ b ∧ gcdI a b = g
def slotM (i : Nat) (δ : De) : Nat := match δ[i]? with
  | some (.im (.int b)) => b.natAbs
  | _ => 0
theorem gcdI_step {a b : Int} (ha : 0 ≤ a) (hb : 0 < b) : gcdI b (a % b) = gcdI a b := by
  show ((Nat.gcd b.natAbs (a % b).natAbs : Nat) : Int) = ((Nat.gcd a.natAbs b.natAbs : Nat) : Int)
  have : (a % b).natAbs = a.natAbs % b.natAbs := by
    obtain ⟨m, rfl⟩ := Int.eq_ofNat_of_zero_le ha
    obtain ⟨n, rfl⟩ := Int.eq_ofNat_of_zero_le (Int.le_of_lt hb)
    rfl
  rw [this, Nat.gcd_comm b.natAbs, ← Nat.gcd_rec, Nat.gcd_comm]
theorem absI (x : Int) : (if x < 0 then -x else x) = ((x.natAbs : Nat) : Int) := by
  split <;> omega
abbrev s__law_gcd : Stmt := top 60
theorem sc__law_gcd : FnScope ["one", "other"] ["one", "other"] (defScope s__law_gcd) := ⟨rfl, rfl, rfl, by decide +kernel, rfl, by decide +kernel, by decide +kernel⟩
theorem ok__law_gcd {G : Pg} {k : Nat} (T : Tx G) (h : At G "_law_gcd" s__law_gcd) : Fn G "_law_gcd" (k + 1) ["one", "other"] f__law_gcd := by
  obtain ⟨fa, fd, F, hm⟩ := h
  refine Fn.of F hm sc__law_gcd (fun _ _ _ _ _ _ us hl => match us, hl with | [_, _], _ => rfl) ?_
  intro cdv A outer s H E dr M ds Kp Ke tk po hr hl hf
  have tb := T.b
  have nd := sc__law_gcd.nd
  obtain ⟨x, y, rfl, k⟩ := hf
  walk_at "go"
  refine ds_while (gcdInv (gcdI x y)) (slotM 1) (by assumption) ⟨_, _, rfl, by rw [absI]; omega, by rw [absI]; omega, by rw [absI, absI]; simp [gcdI]⟩ (fun δ' hI => ?_)
  obtain ⟨a, b, rfl, ha, hb, hg⟩ := hI
  walk_at "go"
  refine ⟨fun (h : (!(b == 0)) = true) => ?_, fun (h : (!(b == 0)) = false) => ?_⟩
  · have hb2 : 0 < b := by simp at h; omega
    walk_at "go"
    refine ⟨hb2, ?_⟩
    walk_at "go"
    refine ⟨⟨b, a % b, rfl, hb, Int.emod_nonneg _ (by omega), by rw [gcdI_step ha hb2]; exact hg⟩, ?_⟩
    show (a % b).natAbs < b.natAbs
    have := Int.emod_lt_of_pos a hb2
    have := Int.emod_nonneg a (by omega : b ≠ 0)
    omega
  · have hb2 : b = 0 := by simpa using h
    subst hb2
    walk_at "go"
    have e : gcdI x y = a := by
      rw [← hg]
      show ((Nat.gcd a.natAbs 0 : Nat) : Int) = a
      rw [Nat.gcd_zero_right]; omega
    rw [e] at k
    exact k
abbrev f__law_pair : FS := f_as_pair
abbrev s__law_pair : Stmt := top 61
theorem sc__law_pair : FnScope ["above", "bottom", "least"] ["above", "bottom"] (defScope s__law_pair) := ⟨rfl, rfl, rfl, by decide +kernel, rfl, by decide +kernel, by decide +kernel⟩
theorem ok__law_pair {G : Pg} {k : Nat} (T : Tx G) (h : At G "_law_pair" s__law_pair) (c__law_gcd : Fn G "_law_gcd" k ["one", "other"] f__law_gcd) : Fn G "_law_pair" (k + 1) ["above", "bottom"] f__law_pair := by
  obtain ⟨fa, fd, F, hm⟩ := h
  refine Fn.of F hm sc__law_pair (fun _ _ _ _ _ _ us hl => match us, hl with | [_, _], _ => rfl) ?_
  intro cdv A outer s H E dr M ds Kp Ke tk po hr hl hf
  have tb := T.b
  have nd := sc__law_pair.nd
  obtain ⟨x, y, rfl, h0, hs, k⟩ := hf
  have hg : CDivW 0 (gcdI x y) := ⟨gcdI_pos h0, (Nat.lt_of_le_of_lt (gcdI_le h0) hs |> fun z => sz.log (i := gcdI x y) z (by decide))⟩
  walk_at "go"
  refine ⟨x, y, rfl, ?_⟩
  walk_at "go"
  refine brT (decide_eq_true h0) ?_
  walk_at "go"
  refine ⟨hg, ?_⟩
  walk_at "go"
  refine ⟨hg, ?_⟩
  walk_at "go"
  exact ⟨by simp, k⟩
abbrev f__law_ratio : FS := f_as_ratio
abbrev s__law_ratio : Stmt := top 62
theorem sc__law_ratio : FnScope ["number"] ["number"] (defScope s__law_ratio) := ⟨rfl, rfl, rfl, by decide +kernel, rfl, by decide +kernel, by decide +kernel⟩
theorem ok__law_ratio {G : Pg} {k : Nat} (T : Tx G) (h : At G "_law_ratio" s__law_ratio) : Fn G "_law_ratio" (k + 1) ["number"] f__law_ratio := by
  obtain ⟨fa, fd, F, hm⟩ := h
  refine Fn.of F hm sc__law_ratio (fun _ _ _ _ _ _ us hl => match us, hl with | [_], _ => rfl) ?_
  intro cdv A outer s H E dr M ds Kp Ke tk po hr hl hf
  have tb := T.b
  have nd := sc__law_ratio.nd
  obtain ⟨d, rfl, hp', k⟩ := as1_ex hf
  have hp := pl_prim hp'
  walk_at "go"
  refine ⟨hp, ?_⟩
  by_cases ht : ∃ l, d = .tup l
  · obtain ⟨l, rfl⟩ := ht
    walk_at "go"
    exact k
  · have e : isP "tuple" d = false := by cases d <;> first | rfl | exact absurd ⟨_, rfl⟩ ht
    have e2 : asRat d = .tup [d, .int 1] := by cases d <;> first | rfl | exact absurd ⟨_, rfl⟩ ht
    rw [e2] at k
    rw [e]
    walk_at "go"
    exact ⟨by simp, k⟩

abbrev f__law_plus : FS := f_plus
abbrev s__law_plus : Stmt := top 63
theorem sc__law_plus : FnScope ["one", "other"] ["one", "other"] (defScope s__law_plus) := ⟨rfl, rfl, rfl, by decide +kernel, rfl, by decide +kernel, by decide +kernel⟩
theorem ok__law_plus {G : Pg} {k : Nat} (T : Tx G) (h : At G "_law_plus" s__law_plus) (c__law_pair : Fn G "_law_pair" k ["above", "bottom"] f__law_pair) : Fn G "_law_plus" (k + 1) ["one", "other"] f__law_plus := by
  obtain ⟨fa, fd, F, hm⟩ := h
  refine Fn.of F hm sc__law_plus (fun _ _ _ _ _ _ us hl => match us, hl with | [_, _], _ => rfl) ?_
  intro cdv A outer s H E dr M ds Kp Ke tk po hr hl hf
  have tb := T.b
  have nd := sc__law_plus.nd
  obtain ⟨a, b, c, d, rfl, hb, hd, s1, s2, s3, s4, k⟩ := hf
  walk_at "go"
  refine ⟨s1.cmul s4 (by decide) (by decide) (by decide), ?_⟩
  walk_at "go"
  refine ⟨s3.cmul s2 (by decide) (by decide) (by decide), ?_⟩
  walk_at "go"
  refine ⟨s2.cmul s4 (by decide) (by decide) (by decide), ?_⟩
  walk_at "go"
  exact ⟨_, _, rfl, Int.mul_pos hb hd, (s2.mul s4).mono (by decide), k⟩

abbrev f__law_minus : FS := f_minus
abbrev s__law_minus : Stmt := top 64
theorem sc__law_minus : FnScope ["one", "other"] ["one", "other"] (defScope s__law_minus) := ⟨rfl, rfl, rfl, by decide +kernel, rfl, by decide +kernel, by decide +kernel⟩
theorem ok__law_minus {G : Pg} {k : Nat} (T : Tx G) (h : At G "_law_minus" s__law_minus) (c__law_pair : Fn G "_law_pair" k ["above", "bottom"] f__law_pair) : Fn G "_law_minus" (k + 1) ["one", "other"] f__law_minus := by
  obtain ⟨fa, fd, F, hm⟩ := h
  refine Fn.of F hm sc__law_minus (fun _ _ _ _ _ _ us hl => match us, hl with | [_, _], _ => rfl) ?_
  intro cdv A outer s H E dr M ds Kp Ke tk po hr hl hf
  have tb := T.b
  have nd := sc__law_minus.nd
  obtain ⟨a, b, c, d, rfl, hb, hd, s1, s2, s3, s4, k⟩ := hf
  walk_at "go"
  refine ⟨s1.cmul s4 (by decide) (by decide) (by decide), ?_⟩
  walk_at "go"
  refine ⟨s3.cmul s2 (by decide) (by decide) (by decide), ?_⟩
  walk_at "go"
  refine ⟨s2.cmul s4 (by decide) (by decide) (by decide), ?_⟩
  walk_at "go"
  exact ⟨_, _, rfl, Int.mul_pos hb hd, (s2.mul s4).mono (by decide), k⟩

abbrev f__law_times : FS := f_times
abbrev s__law_times : Stmt := top 65
theorem sc__law_times : FnScope ["one", "other"] ["one", "other"] (defScope s__law_times) := ⟨rfl, rfl, rfl, by decide +kernel, rfl, by decide +kernel, by decide +kernel⟩
theorem ok__law_times {G : Pg} {k : Nat} (T : Tx G) (h : At G "_law_times" s__law_times) (c__law_pair : Fn G "_law_pair" k ["above", "bottom"] f__law_pair) : Fn G "_law_times" (k + 1) ["one", "other"] f__law_times := by
  obtain ⟨fa, fd, F, hm⟩ := h
  refine Fn.of F hm sc__law_times (fun _ _ _ _ _ _ us hl => match us, hl with | [_, _], _ => rfl) ?_
  intro cdv A outer s H E dr M ds Kp Ke tk po hr hl hf
  have tb := T.b
  have nd := sc__law_times.nd
  obtain ⟨a, b, c, d, rfl, hb, hd, s1, s2, s3, s4, k⟩ := hf
  walk_at "go"
  refine ⟨s1.cmul s3 (by decide) (by decide) (by decide), ?_⟩
  walk_at "go"
  refine ⟨s2.cmul s4 (by decide) (by decide) (by decide), ?_⟩
  walk_at "go"
  exact ⟨_, _, rfl, Int.mul_pos hb hd, (s2.mul s4).mono (by decide), k⟩

abbrev f__law_add : FS := f_length_plus
abbrev s__law_add : Stmt := top 69
theorem sc__law_add : FnScope ["one", "other", "own", "late"] ["one", "other"] (defScope s__law_add) := ⟨rfl, rfl, rfl, by decide +kernel, rfl, by decide +kernel, by decide +kernel⟩
theorem ok__law_add {G : Pg} {k : Nat} (T : Tx G) (h : At G "_law_add" s__law_add) (c__law_plus : Fn G "_law_plus" k ["one", "other"] f__law_plus) : Fn G "_law_add" (k + 1) ["one", "other"] f__law_add := by
  obtain ⟨fa, fd, F, hm⟩ := h
  refine Fn.of F hm sc__law_add (fun _ _ _ _ _ _ us hl => match us, hl with | [_, _], _ => rfl) ?_
  intro cdv A outer s H E dr M ds Kp Ke tk po hr hl hf
  have tb := T.b
  have nd := sc__law_add.nd
  obtain ⟨p, q, rfl, hn, h1, h2, k⟩ := hf
  walk_at "go"
  refine lc_map (pairF plusP) (zip_len p q hn) (fun d hd => ?_) (fun d hd A s H C cl fp => ?_) ?_
  · obtain ⟨x, hx, y, hy, rfl⟩ := zip_mem hd
    exact rfl
  · obtain ⟨x, hx, y, hy, rfl⟩ := zip_mem hd
    walk_at "go"
    exact ⟨x.1, x.2, y.1, y.2, rfl, (h1 x hx).pos, (h2 y hy).pos, (h1 x hx).up, (h1 x hx).dn, (h2 y hy).up, (h2 y hy).dn, rfl⟩
  rw [zip_map]
  walk_at "go"
  exact k

abbrev f__law_less : FS := f_length_minus
abbrev s__law_less : Stmt := top 70
theorem sc__law_less : FnScope ["one", "other", "own", "late"] ["one", "other"] (defScope s__law_less) := ⟨rfl, rfl, rfl, by decide +kernel, rfl, by decide +kernel, by decide +kernel⟩
theorem ok__law_less {G : Pg} {k : Nat} (T : Tx G) (h : At G "_law_less" s__law_less) (c__law_minus : Fn G "_law_minus" k ["one", "other"] f__law_minus) : Fn G "_law_less" (k + 1) ["one", "other"] f__law_less := by
  obtain ⟨fa, fd, F, hm⟩ := h
  refine Fn.of F hm sc__law_less (fun _ _ _ _ _ _ us hl => match us, hl with | [_, _], _ => rfl) ?_
  intro cdv A outer s H E dr M ds Kp Ke tk po hr hl hf
  have tb := T.b
  have nd := sc__law_less.nd
  obtain ⟨p, q, rfl, hn, h1, h2, k⟩ := hf
  walk_at "go"
  refine lc_map (pairF minusP) (zip_len p q hn) (fun d hd => ?_) (fun d hd A s H C cl fp => ?_) ?_
  · obtain ⟨x, hx, y, hy, rfl⟩ := zip_mem hd
    exact rfl
  · obtain ⟨x, hx, y, hy, rfl⟩ := zip_mem hd
    walk_at "go"
    exact ⟨x.1, x.2, y.1, y.2, rfl, (h1 x hx).pos, (h2 y hy).pos, (h1 x hx).up, (h1 x hx).dn, (h2 y hy).up, (h2 y hy).dn, rfl⟩
  rw [zip_map]
  walk_at "go"
  exact k

abbrev f__law_scaled : FS := f_length_times
abbrev s__law_scaled : Stmt := top 71
theorem sc__law_scaled : FnScope ["length", "ratio", "item"] ["length", "ratio"] (defScope s__law_scaled) := ⟨rfl, rfl, rfl, by decide +kernel, rfl, by decide +kernel, by decide +kernel⟩
theorem ok__law_scaled {G : Pg} {k : Nat} (T : Tx G) (h : At G "_law_scaled" s__law_scaled) (c__law_times : Fn G "_law_times" k ["one", "other"] f__law_times) : Fn G "_law_scaled" (k + 1) ["length", "ratio"] f__law_scaled := by
  obtain ⟨fa, fd, F, hm⟩ := h
  refine Fn.of F hm sc__law_scaled (fun _ _ _ _ _ _ us hl => match us, hl with | [_, _], _ => rfl) ?_
  intro cdv A outer s H E dr M ds Kp Ke tk po hr hl hf
  have tb := T.b
  have nd := sc__law_scaled.nd
  obtain ⟨p, y, rfl, hn, h1, h2, k⟩ := hf
  walk_at "go"
  refine lc_map (oneF fun x => timesP x y) (by rw [List.length_map]; exact hn) (fun _ _ => trivial) (fun d hd A s H C cl fp => ?_) ?_
  · obtain ⟨x, hx, rfl⟩ := List.mem_map.mp hd
    walk_at "go"
    exact ⟨x.1, x.2, y.1, y.2, rfl, (h1 x hx).pos, h2.pos, (h1 x hx).up, (h1 x hx).dn, h2.up, h2.dn, rfl⟩
  rw [one_map]
  walk_at "go"
  exact k

theorem num3 (d : D) : (isP "int" d = false ∧ isNum d = false) ∨ (isP "int" d = true ∧ isP "bool" d = true ∧ isNum d = false) ∨ (isP "int" d = true ∧ isP "bool" d = false ∧ isNum d = true) := by
  cases d <;> first | exact .inl ⟨rfl, rfl⟩ | exact .inr (.inl ⟨rfl, rfl, rfl⟩) | exact .inr (.inr ⟨rfl, rfl, rfl⟩)
theorem isRat_num {a b : D} (h : (isNum a && isNum b) = false) : isRat (.tup [a, b]) = false := by
  cases a <;> first | rfl | (cases b <;> first | rfl | cases h)
theorem isRat_len {l : List D} (h : ((l.length : Int) == 2) = false) : isRat (.tup l) = false := by
  match l, h with
  | [], _ => rfl
  | [a], _ => cases a <;> rfl
  | [a, b], h => cases h
  | a :: b :: _ :: r, _ => cases a <;> first | rfl | (cases b <;> rfl)
theorem isRat_tup {d : D} (h : isP "tuple" d = false) : isRat d = false := by cases d <;> first | rfl | cases h
def f__law_is_ratio : FS := fun ds Kp _ => as1 (fun d => okd 60 d = true ∧ Kp (.bl (isRat d))) ds
abbrev s__law_is_ratio : Stmt := top 66
theorem sc__law_is_ratio : FnScope ["thing", "part"] ["thing"] (defScope s__law_is_ratio) := ⟨rfl, rfl, rfl, by decide +kernel, rfl, by decide +kernel, by decide +kernel⟩
theorem ok__law_is_ratio {G : Pg} {k : Nat} (T : Tx G) (h : At G "_law_is_ratio" s__law_is_ratio) (c__law_gcd : Fn G "_law_gcd" k ["one", "other"] f__law_gcd) : Fn G "_law_is_ratio" (k + 1) ["thing"] f__law_is_ratio := by
  obtain ⟨fa, fd, F, hm⟩ := h
  refine Fn.of F hm sc__law_is_ratio (fun _ _ _ _ _ _ us hl => match us, hl with | [_], _ => rfl) ?_
  intro cdv A outer s H E dr M ds Kp Ke tk po hr hl hf
  have tb := T.b
  have nd := sc__law_is_ratio.nd
  obtain ⟨d, rfl, ho, k⟩ := as1_ex hf
  have hp := okd_prim ho
  walk_at "go"
  refine ⟨hp, ?_⟩
  by_cases ht : isP "tuple" d = true
  · obtain ⟨l, rfl⟩ : ∃ l, d = .tup l := by cases d <;> first | exact ⟨_, rfl⟩ | cases ht
    walk_at "go"
    by_cases h2 : ((l.length : Int) == 2) = true
    · refine brF (by rw [h2]; rfl) ?_
      obtain ⟨a, b, rfl⟩ : ∃ a b, l = [a, b] := by
        match l, h2 with
        | [], h => cases h
        | [_], h => cases h
        | [a, b], _ => exact ⟨a, b, rfl⟩
        | _ :: _ :: _ :: r, h => simp only [List.length_cons, beq_iff_eq] at h; omega
      have ho := okd_tup.mp ho
      walk_at "go"
      refine lc_filter (fun d => if isNum d then none else some d) (by simp) (fun _ _ => trivial) (fun d hd A s H C cl fp => ?_) ?_
      · have hp := okd_prim (ho d hd)
        walk_at "go"
        refine ⟨hp, ?_⟩
        rcases num3 d with ⟨e1, e2⟩ | ⟨e1, e2, e3⟩ | ⟨e1, e2, e3⟩
        · rw [e1]
          walk_at "go"
          intro s H C cl fp
          walk_at "go"
          show ite _ _ _ = some d
          rw [e2]; rfl
        · rw [e1]
          walk_at "go"
          refine ⟨hp, ?_⟩
          rw [e2]
          walk_at "go"
          intro s H C cl fp
          walk_at "go"
          show ite _ _ _ = some d
          rw [e3]; rfl
        · rw [e1]
          walk_at "go"
          refine ⟨hp, ?_⟩
          rw [e2]
          walk_at "go"
          show ite _ _ _ = none
          rw [e3]; rfl
      walk_at "go"
      refine ⟨by decide, gNe_nil (okd_lst.mpr fun x hx => ?_) ?_⟩
      · obtain ⟨y, hy, e⟩ := List.mem_filterMap.mp hx
        have e2 : y = x := by
          split at e
          · cases e
          · exact Option.some.inj e
        rw [← e2]
        exact okd_mono (ho y hy) (by decide)
      by_cases hn : (isNum a && isNum b) = true
      · obtain ⟨i, j, rfl, rfl⟩ : ∃ i j, a = .int i ∧ b = .int j := by
          cases a <;> first | (cases hn; done) | (cases b <;> first | exact ⟨_, _, rfl, rfl⟩ | cases hn)
        walk_at "go"
        by_cases hj : (0 : Int) < j
        · refine brT (decide_eq_true hj) ?_
          walk_at "go"
          refine ⟨i, j, rfl, ?_⟩
          walk_at "go"
          have e : isRat (.tup [.int i, .int j]) = (gcdI i j == 1) := by
            show (decide (0 < j) && _) = _
            rw [decide_eq_true hj]; rfl
          rw [e] at k
          exact k
        · refine brF (decide_eq_false hj) ?_
          have e : isRat (.tup [.int i, .int j]) = false := by
            show (decide (0 < j) && _) = _
            rw [decide_eq_false hj]; rfl
          rw [e] at k
          exact k
      · have hn : (isNum a && isNum b) = false := by simpa using hn
        rw [isRat_num hn] at k
        refine brT ?_ ?_
        · cases ea : isNum a <;> cases eb : isNum b <;> simp [ea, eb] at hn ⊢
        walk_at "go"
        exact k
    · have h2 : ((l.length : Int) == 2) = false := by simpa using h2
      rw [isRat_len h2] at k
      refine brT (by rw [h2]; rfl) ?_
      walk_at "go"
      exact k
  · have ht : isP "tuple" d = false := by simpa using ht
    rw [isRat_tup ht] at k
    rw [ht]
    walk_at "go"
    exact k
def f__law_is_given : FS := fun ds Kp _ => as1 (fun d => okd 60 d = true ∧ Kp (.bl (isGiv d))) ds
theorem fewAbs {i M : Int} : decide (((i.natAbs : Nat) : Int) ≥ M) = !(decide (-M < i) && decide (i < M)) := by
  by_cases h : -M < i
  · by_cases g : i < M
    · rw [decide_eq_true h, decide_eq_true g]
      exact decide_eq_false (by omega)
    · rw [decide_eq_true h, decide_eq_false g]
      exact decide_eq_true (by omega)
  · rw [decide_eq_false h]
    exact decide_eq_true (by omega)
theorem bigE : ((10 : Int) ^ (60 : Int).toNat) ^ (5 : Int).toNat = MOST := by decide +kernel
theorem big0 (m : Int) : decide ((((10 : Int) ^ (60 : Int).toNat) ^ (5 : Int).toNat) ≤ (if m < 0 then -m else m)) = !few1 m := by
  rw [bigE, absI]; exact fewAbs
theorem bigC (m : Int) : decide ((((10 : Int) ^ (60 : Int).toNat) ^ (5 : Int).toNat) ≤ (if m < 0 then -m else m)) = true ↔ few1 m = false := by
  rw [big0]; simp
theorem bigC' (m : Int) : decide ((((10 : Int) ^ (60 : Int).toNat) ^ (5 : Int).toNat) ≤ (if m < 0 then -m else m)) = false ↔ few1 m = true := by
  rw [big0]; simp
/-- the parts that are too great -/
def farF : D → Option D
  | .int i => if few1 i then none else some (.int i)
  | d => some d
theorem far_few (i j : Int) : (([D.int i, .int j].filterMap farF).isEmpty) = few i j := by
  simp only [List.filterMap_cons, List.filterMap_nil, farF, few]
  cases few1 i <;> cases few1 j <;> rfl
theorem isGiv_not {d : D} (h1 : isRat d = false) (h2 : isNum d = false) : isGiv d = false := by
  unfold isGiv
  split
  · cases h2
  · rw [h1]; rfl
  · rfl
abbrev s__law_is_given : Stmt := top 67
theorem sc__law_is_given : FnScope ["thing", "part"] ["thing"] (defScope s__law_is_given) := ⟨rfl, rfl, rfl, by decide +kernel, rfl, by decide +kernel, by decide +kernel⟩
theorem ok__law_is_given {G : Pg} {k : Nat} (T : Tx G) (h : At G "_law_is_given" s__law_is_given) (c__law_is_ratio : Fn G "_law_is_ratio" k ["thing"] f__law_is_ratio) (c__law_ratio : Fn G "_law_ratio" k ["number"] f__law_ratio) : Fn G "_law_is_given" (k + 1) ["thing"] f__law_is_given := by
  obtain ⟨fa, fd, F, hm⟩ := h
  refine Fn.of F hm sc__law_is_given (fun _ _ _ _ _ _ us hl => match us, hl with | [_], _ => rfl) ?_
  intro cdv A outer s H E dr M ds Kp Ke tk po hr hl hf
  have tb := T.b
  have nd := sc__law_is_given.nd
  obtain ⟨d, rfl, ho, k⟩ := as1_ex hf
  have hp := okd_prim ho
  walk_at "go"
  refine ⟨ho, ?_⟩
  walk_at "go"
  cases hr1 : isRat d with
  | true =>
    obtain ⟨i, j, rfl⟩ : ∃ i j, d = rat i j := by
      unfold isRat at hr1
      split at hr1
      · exact ⟨_, _, rfl⟩
      · cases hr1
    have e : isGiv (rat i j) = few i j := by
      show (isRat (rat i j) && few i j) = _
      rw [hr1, Bool.true_and]
    rw [e] at k
    walk_at "go"
    refine ⟨okd_pl _ _ ho, ?_⟩
    walk_at "go"
    refine lc_filter farF (by simp) (fun _ _ => trivial) (fun e hd A s H C cl fp => ?_) ?_
    · obtain ⟨m, rfl⟩ : ∃ m, e = .int m := by
        rcases List.mem_cons.mp hd with rfl | hd
        · exact ⟨_, rfl⟩
        · rcases List.mem_cons.mp hd with rfl | hd
          · exact ⟨_, rfl⟩
          · cases hd
      walk_at "go"
      refine ⟨⟨by decide, by decide +kernel⟩, ?_⟩
      walk_at "go"
      refine ⟨⟨by decide, by decide +kernel⟩, ?_⟩
      refine And.intro (fun h => ?_) (fun h => ?_)
      · have h : few1 m = false := (bigC m).mp h
        intro s H C cl fp
        walk_at "go"
        show ite _ _ _ = some _
        rw [h]; rfl
      · have h : few1 m = true := (bigC' m).mp h
        show ite _ _ _ = none
        rw [h]; rfl
    walk_at "go"
    refine ⟨by decide, gEq_nil (okd_lst.mpr fun x hx => ?_) ?_⟩
    · obtain ⟨y, hy, e⟩ := List.mem_filterMap.mp hx
      obtain ⟨m, rfl⟩ : ∃ m, y = .int m := by
        rcases List.mem_cons.mp hy with rfl | hd
        · exact ⟨_, rfl⟩
        · rcases List.mem_cons.mp hd with rfl | hd
          · exact ⟨_, rfl⟩
          · cases hd
      simp only [farF] at e
      split at e
      · cases e
      · cases e; rfl
    rw [far_few]
    exact k
  | false =>
    walk_at "go"
    refine ⟨hp, ?_⟩
    rcases num3 d with ⟨e1, e2⟩ | ⟨e1, e2, e3⟩ | ⟨e1, e2, e3⟩
    · rw [e1]
      rw [isGiv_not hr1 e2] at k
      walk_at "go"
      exact k
    · rw [e1]
      rw [isGiv_not hr1 e3] at k
      walk_at "go"
      refine ⟨hp, ?_⟩
      rw [e2]
      walk_at "go"
      exact k
    · obtain ⟨i, rfl⟩ : ∃ i, d = .int i := by cases d <;> first | exact ⟨_, rfl⟩ | cases e3
      have e : isGiv (.int i) = few i 1 := by
        show few1 i = (few1 i && few1 1)
        rw [show few1 1 = true from by decide +kernel, Bool.and_true]
      rw [e] at k
      walk_at "go"
      refine ⟨hp, ?_⟩
      walk_at "go"
      refine ⟨okd_pl _ _ ho, ?_⟩
      walk_at "go"
      refine lc_filter farF (by simp) (fun _ _ => trivial) (fun e hd A s H C cl fp => ?_) ?_
      · obtain ⟨m, rfl⟩ : ∃ m, e = .int m := by
          rcases List.mem_cons.mp hd with rfl | hd
          · exact ⟨_, rfl⟩
          · rcases List.mem_cons.mp hd with rfl | hd
            · exact ⟨_, rfl⟩
            · cases hd
        walk_at "go"
        refine ⟨⟨by decide, by decide +kernel⟩, ?_⟩
        walk_at "go"
        refine ⟨⟨by decide, by decide +kernel⟩, ?_⟩
        refine And.intro (fun h => ?_) (fun h => ?_)
        · have h : few1 m = false := (bigC m).mp h
          intro s H C cl fp
          walk_at "go"
          show ite _ _ _ = some _
          rw [h]; rfl
        · have h : few1 m = true := (bigC' m).mp h
          show ite _ _ _ = none
          rw [h]; rfl
      walk_at "go"
      refine ⟨by decide, gEq_nil (okd_lst.mpr fun x hx => ?_) ?_⟩
      · obtain ⟨y, hy, e⟩ := List.mem_filterMap.mp hx
        obtain ⟨m, rfl⟩ : ∃ m, y = .int m := by
          rcases List.mem_cons.mp hy with rfl | hd
          · exact ⟨_, rfl⟩
          · rcases List.mem_cons.mp hd with rfl | hd
            · exact ⟨_, rfl⟩
            · cases hd
        simp only [farF] at e
        split at e
        · cases e
        · cases e; rfl
      rw [far_few]
      exact k
/-! ### values of all kinds; roots -/
structure ThingOk (d : D) : Prop where
  pr : prim d = true
  it : ∀ l, seqD d = some l → ∀ x ∈ l, okd 60 x = true
def isLen (n : Nat) (d : D) : Bool := match seqD d with
  | some l => (l.length == n) && l.all isGiv
  | none => false
theorem notGiv_empty : ∀ l : List D, (l.filterMap fun d => if isGiv d then none else some d).isEmpty = l.all isGiv
  | [] => rfl
  | d :: l => by
    have := notGiv_empty l
    simp only [List.filterMap_cons, List.all_cons]
    cases h : isGiv d
    · simp
    · simpa [h] using this
theorem notGiv_mem {l : List D} {x : D} (h : x ∈ l.filterMap fun d => if isGiv d then none else some d) : x ∈ l := by
  obtain ⟨y, hy, e⟩ := List.mem_filterMap.mp h
  have e2 : y = x := by
    split at e
    · cases e
    · exact Option.some.inj e
  rw [← e2]; exact hy
theorem seq_isP {d : D} : (isP "list" d || isP "tuple" d) = (seqD d).isSome := by cases d <;> rfl
theorem gLen_seq {d : D} {l : List D} {k : KD} (h : seqD d = some l) (q : k (.int l.length)) : gLen [d] k := by
  cases d <;> cases h <;> exact q
def f__law_is_length : FS := fun ds Kp _ => ∃ rs d, ds = [.lst rs, d] ∧ rs.length ≤ 1000 ∧ ThingOk d ∧ Kp (.bl (isLen (rs.length + 1) d))
def f__law_nought : FS := fun ds Kp _ => ∃ rs, ds = [.lst rs] ∧ rs.length ≤ 900 ∧ Kp (lenD (List.replicate (rs.length + 1) (0, 1)))
theorem nought_rep (n : Nat) : (List.replicate n [rat 0 1]).flatten = (List.replicate n ((0 : Int), (1 : Int))).map ratP := by
  induction n with
  | zero => rfl
  | succ n ih => rw [List.replicate_succ, List.replicate_succ, List.flatten_cons, ih]; rfl
abbrev s__law_nought : Stmt := top 68
theorem sc__law_nought : FnScope ["roots"] ["roots"] (defScope s__law_nought) := ⟨rfl, rfl, rfl, by decide +kernel, rfl, by decide +kernel, by decide +kernel⟩
theorem ok__law_nought {G : Pg} {k : Nat} (T : Tx G) (h : At G "_law_nought" s__law_nought) : Fn G "_law_nought" (k + 1) ["roots"] f__law_nought := by
  obtain ⟨fa, fd, F, hm⟩ := h
  refine Fn.of F hm sc__law_nought (fun _ _ _ _ _ _ us hl => match us, hl with | [_], _ => rfl) ?_
  intro cdv A outer s H E dr M ds Kp Ke tk po hr hl hf
  have tb := T.b
  have nd := sc__law_nought.nd
  obtain ⟨rs, rfl, hn, k⟩ := hf
  walk_at "go"
  refine ⟨by decide, ?_⟩
  walk_at "go"
  refine ⟨by decide, ?_⟩
  walk_at "go"
  refine ⟨by simp, by omega, by omega, by simp, ?_⟩
  have e : ((rs.length : Int) + 1).toNat = rs.length + 1 := by omega
  rw [e, nought_rep]
  exact k
def isRoot (i : Int) : Bool := decide (2 ≤ i) && decide (i ≤ 99) && (List.range 8).all fun j => !(i % ((2 + (j : Int)) * (2 + (j : Int))) == 0)
def rootF (i : Int) : D → Option D
  | .int j => if i % (j * j) == 0 then some (.int j) else none
  | _ => none
theorem root_all (i : Int) : ((intsD 2 8).filterMap (rootF i)).isEmpty = (List.range 8).all fun j => !(i % ((2 + (j : Int)) * (2 + (j : Int))) == 0) := by
  unfold intsD
  generalize List.range 8 = l
  induction l with
  | nil => rfl
  | cons j l ih =>
    simp only [List.map_cons, List.filterMap_cons, List.all_cons, rootF]
    cases h : (i % ((2 + (j : Int)) * (2 + (j : Int))) == 0)
    · simpa [h] using ih
    · simp [h]
theorem ints_mem {lo : Int} {n : Nat} {d : D} (h : d ∈ intsD lo n) : ∃ j : Nat, j < n ∧ d = .int (lo + j) := by
  obtain ⟨j, hj, rfl⟩ := List.mem_map.mp h
  exact ⟨j, List.mem_range.mp hj, rfl⟩
def f__law_is_root : FS := fun ds Kp _ => ∃ i, ds = [.int i] ∧ Kp (.bl (isRoot i))
def isRootD : D → Bool
  | .int i => isRoot i
  | _ => false
def f_is_root : FS := fun ds Kp _ => as1 (fun d => pl d = true ∧ Kp (.bl (isRootD d))) ds
def rootG (i : Int) : D → D
  | .int j => .bl (!(i % (j * j) == 0))
  | d => d
abbrev s_is_root : Stmt := top 26
theorem sc_is_root : FnScope ["thing", "own"] ["thing"] (defScope s_is_root) := ⟨rfl, rfl, rfl, by decide +kernel, rfl, by decide +kernel, by decide +kernel⟩
theorem ok_is_root {G : Pg} {k : Nat} (T : Tx G) (h : At G "is_root" s_is_root) (c_is_number : Fn G "is_number" k ["thing"] f_is_number) : Fn G "is_root" (k + 1) ["thing"] f_is_root := by
  obtain ⟨fa, fd, F, hm⟩ := h
  refine Fn.of F hm sc_is_root (fun _ _ _ _ _ _ us hl => match us, hl with | [_], _ => rfl) ?_
  intro cdv A outer s H E dr M ds Kp Ke tk po hr hl hf
  have tb := T.b
  have nd := sc_is_root.nd
  obtain ⟨d, rfl, hp, k⟩ := as1_ex hf
  have hM := T.mostRoot
  walk_at "go"
  refine ⟨hp, ?_⟩
  by_cases hn : isNum d = true
  · obtain ⟨i, rfl⟩ : ∃ i, d = .int i := by cases d <;> first | exact ⟨_, rfl⟩ | cases hn
    walk_at "go"
    have e : isRootD (.int i) = (decide (2 ≤ i) && decide (i ≤ 99) && (List.range 8).all fun j => !(i % ((2 + (j : Int)) * (2 + (j : Int))) == 0)) := rfl
    rw [e] at k
    refine And.intro (fun (h : decide (2 ≤ i) = true) => ?_) (fun (h : decide (2 ≤ i) = false) => ?_)
    · walk_at "go"
      cases h3 : decide (i ≤ 99) with
      | false =>
        rw [h, h3] at k
        refine brT (by show (!decide (i ≤ 99)) = true; rw [h3]; rfl) ?_
        walk_at "go"
        exact k
      | true =>
        rw [h, h3] at k
        refine brF (by show (!decide (i ≤ 99)) = false; rw [h3]; rfl) ?_
        walk_at "go"
        refine ⟨⟨by decide, by decide, by decide, by decide⟩, ?_⟩
        refine lc_map (rootG i) (by simp [intsD]) (fun _ _ => trivial) (fun d hd A s H C cl fp => ?_) ?_
        · obtain ⟨j, hj, rfl⟩ := ints_mem hd
          walk_at "go"
          refine ⟨.inl (.inl ⟨by omega, by omega⟩), ?_⟩
          walk_at "go"
          refine ⟨Int.mul_pos (by omega) (by omega), ?_⟩
          walk_at "go"
          rfl
        walk_at "go"
        refine ⟨_, (List.range 8).map (fun (j : Nat) => !(i % ((2 + (j : Int)) * (2 + (j : Int))) == 0)), rfl, rfl, ?_⟩
        rw [List.all_map]
        exact k
    · rw [h] at k
      walk_at "go"
      exact k
  · have hn : isNum d = false := by simpa using hn
    have e : isRootD d = false := by cases d <;> first | rfl | cases hn
    rw [e] at k
    rw [hn]
    walk_at "go"
    exact k
/-! ### units -/
abbrev m_init : Stmt := meth 27 0
abbrev m_roots : Stmt := meth 27 1
abbrev m_many : Stmt := meth 27 2
abbrev m_eq : Stmt := meth 27 3
/-- addresses -/
structure Ua where
  (C fI pR gR pM gM fE : Addr)
  (ex : Str → Addr)
abbrev Ua.bRoots (u : Ua) : Addr := u.ex "BadRoots"
abbrev Ua.bUnits (u : Ua) : Addr := u.ex "BadUnits"
abbrev Ua.bLength (u : Ua) : Addr := u.ex "BadLength"
abbrev Ua.bLengths (u : Ua) : Addr := u.ex "BadLengths"
abbrev Ua.bOne (u : Ua) : Addr := u.ex "BadOne"
abbrev Ua.bOther (u : Ua) : Addr := u.ex "BadOther"
abbrev Ua.bRatio (u : Ua) : Addr := u.ex "BadRatio"
abbrev Ua.bArea (u : Ua) : Addr := u.ex "BadArea"
abbrev Ua.bAreas (u : Ua) : Addr := u.ex "BadAreas"
abbrev Ua.bTeller (u : Ua) : Addr := u.ex "BadTeller"
abbrev Ua.bTellers (u : Ua) : Addr := u.ex "BadTellers"
abbrev Ua.bBasis (u : Ua) : Addr := u.ex "BadBasis"
abbrev Ua.bTable (u : Ua) : Addr := u.ex "BadTable"
abbrev Ua.bWidths (u : Ua) : Addr := u.ex "BadWidths"
abbrev Ua.bHeights (u : Ua) : Addr := u.ex "BadHeights"
abbrev FunM (K : PySem.W.Frag) (x q : Str) (st : Stmt) (f : Addr) : Prop := ∃ fd, FunD K x q (defArgs st) (defBody st) (defScope st) [] [] f fd
/-- the class of units and the exceptions stand -/
structure UnF (G : Pg) (u : Ua) : Prop where
  nm : G.mg "Units" = some (.ref u.C)
  cls : L2.Cls G.K u.C
  clB : clsB G.K u.C = true
  insF : InsF G.K u.C
  self : PySem.W.kitOne G.K (.ref u.C) (.ref u.C) = some true
  na : NoAttr G.K u.C "u_roots"
  mkr : Mk G.K u.C u.fI
  fi : FunM G.K "__init__" "Units.__init__" m_init u.fI
  pr : PropOf G.K u.C "roots" u.pR u.gR
  fr : FunM G.K "roots" "Units.roots" m_roots u.gR
  pm : PropOf G.K u.C "many" u.pM u.gM
  fm : FunM G.K "many" "Units.many" m_many u.gM
  eq : OwnE G.K u.C u.fE
  fe : FunM G.K "__eq__" "Units.__eq__" m_eq u.fE
  x : ∀ e ∈ exs, ExF G.K G.mg e (u.ex e)
theorem UnF.xRoots {G : Pg} {u : Ua} (U : UnF G u) : ExF G.K G.mg "BadRoots" u.bRoots := U.x _ (by simp [exs])
theorem UnF.xUnits {G : Pg} {u : Ua} (U : UnF G u) : ExF G.K G.mg "BadUnits" u.bUnits := U.x _ (by simp [exs])
theorem UnF.xOne {G : Pg} {u : Ua} (U : UnF G u) : ExF G.K G.mg "BadOne" u.bOne := U.x _ (by simp [exs])
theorem UnF.xOther {G : Pg} {u : Ua} (U : UnF G u) : ExF G.K G.mg "BadOther" u.bOther := U.x _ (by simp [exs])
theorem UnF.xArea {G : Pg} {u : Ua} (U : UnF G u) : ExF G.K G.mg "BadArea" u.bArea := U.x _ (by simp [exs])
theorem UnF.xAreas {G : Pg} {u : Ua} (U : UnF G u) : ExF G.K G.mg "BadAreas" u.bAreas := U.x _ (by simp [exs])
/-- units of these roots -/
def unD (u : Ua) (ns : List Int) : D := .ins u.C ["u_roots"] [.tup (ns.map D.int)]
def intsOf : List D → Option (List Int)
  | [] => some []
  | .int i :: l => match intsOf l with
    | some ns => some (i :: ns)
    | none => none
  | _ => none
theorem intsOf_some : ∀ {l : List D} {ns : List Int}, intsOf l = some ns → l = ns.map D.int
  | [], _, h => by cases h; rfl
  | d :: l, ns, h => by
    cases d <;> first | (cases h; done) | skip
    unfold intsOf at h
    split at h
    · rename_i e
      cases h
      rw [intsOf_some e]; rfl
    · cases h
theorem intsOf_map : ∀ ns : List Int, intsOf (ns.map D.int) = some ns
  | [] => rfl
  | n :: ns => by
    rw [List.map_cons]
    unfold intsOf
    rw [intsOf_map ns]
/-- the roots that a value tells -/
def rootsOf (d : D) : Option (List Int) := match seqD d with
  | some l => if l.length ≤ 2 ∧ l.all isRootD = true then (match intsOf l with
    | some ns => if dup2 ns = ns.length then some ns else none
    | none => none) else none
  | none => none
theorem ints_root : ∀ {l : List D}, l.all isRootD = true → ∃ ns, intsOf l = some ns ∧ l = ns.map D.int
  | [], _ => ⟨[], rfl, rfl⟩
  | d :: l, h => by
    rw [List.all_cons, Bool.and_eq_true] at h
    obtain ⟨ns, e, e2⟩ := ints_root h.2
    cases d <;> first | (cases h.1; done) | skip
    rename_i i
    exact ⟨i :: ns, by unfold intsOf; rw [e], by rw [e2]; rfl⟩
theorem blL_fun (f : D → Bool) (l : List D) : blL (l.map fun d => .bl (f d)) = some (l.map f) := by
  have := blL_map (l.map f)
  rw [List.map_map] at this
  exact this
def f_init (u : Ua) : FI := fun ds Kf Ke => ∃ d, ds = [d] ∧ pl d = true ∧ (∀ ns : List Int, d = .tup (ns.map D.int) → ns.Nodup) ∧ (match rootsOf d with
  | some ns => Kf ["u_roots"] [.tup (ns.map D.int)]
  | none => Ke ⟨u.bRoots, [], []⟩)
theorem sc_init : FnScope ["self", "roots", "one"] ["self", "roots"] (defScope m_init) := ⟨rfl, rfl, rfl, by decide +kernel, rfl, by decide +kernel, by decide +kernel⟩
theorem ok_init {G : Pg} {u : Ua} {k : Nat} (T : Tx G) (U : UnF G u) (c_is_root : Fn G "is_root" k ["thing"] f_is_root) : FnI G u.C u.fI (k + 1) ["self", "roots"] (f_init u) := by
  obtain ⟨fd, F⟩ := U.fi
  refine FnI.of F sc_init (fun _ _ _ _ _ _ us hl => match us, hl with | [_, _], _ => rfl) ?_
  intro cdv A outer s H E dr M x ds Kf Ke tk po hr hl hf
  have tb := T.b
  have nd := sc_init.nd
  have hM := T.mostRoots
  obtain ⟨d, rfl, hp', hnd, k⟩ := hf
  have hp := pl_prim hp'
  have X := U.xRoots
  walk_at "go"
  refine ⟨hp, ?_⟩
  rw [seq_isP]
  cases hs : seqD d with
  | none =>
    have e : rootsOf d = none := by rw [rootsOf, hs]
    rw [e] at k
    walk_at "go"
    exact ds_raise rfl tk X rfl k
  | some l =>
    have e : rootsOf d = (if l.length ≤ 2 ∧ l.all isRootD = true then (match intsOf l with
      | some ns => if dup2 ns = ns.length then some ns else none
      | none => none) else none) := by rw [rootsOf, hs]
    rw [e] at k
    have hpl : plL l = true := by cases d <;> first | (cases hs; done) | (cases hs; exact hp')
    walk_at "go"
    refine gLen_seq hs ?_
    walk_at "go"
    by_cases h2 : l.length ≤ 2
    · refine brF (decide_eq_false (by omega)) ?_
      walk_at "go"
      refine ⟨l, hs, ?_⟩
      refine lc_map (fun d => .bl (isRootD d)) (by omega) (fun _ _ => trivial) (fun d hd A s H C cl fp => ?_) ?_
      · walk_at "go"
        exact ⟨plL_mem hpl d hd, rfl⟩
      walk_at "go"
      refine ⟨_, l.map isRootD, rfl, blL_fun isRootD l, ?_⟩
      rw [List.all_map]
      cases hr : l.all isRootD with
      | false =>
        rw [hr, if_neg (fun z => by cases z.2)] at k
        refine ⟨_, rfl, ?_⟩
        refine brT (by show (!(l.all (id ∘ isRootD))) = true; rw [show (id ∘ isRootD) = isRootD from rfl, hr]; rfl) ?_
        walk_at "go"
        exact ds_raise rfl tk X rfl k
      | true =>
        rw [hr, if_pos ⟨h2, rfl⟩] at k
        obtain ⟨ns, e1, rfl⟩ := ints_root hr
        rw [e1] at k
        refine ⟨_, rfl, ?_⟩
        refine brF (by show (!((ns.map D.int).all (id ∘ isRootD))) = false; rw [show (id ∘ isRootD) = isRootD from rfl, hr]; rfl) ?_
        walk_at "go"
        refine ⟨ns, ?_, by simpa using h2, ?_⟩
        · cases d <;> first | (cases hs; done) | skip
          · cases hs; exact .inr ⟨rfl, hnd ns rfl⟩
          · cases hs; exact .inl rfl
        walk_at "go"
        refine gLen_seq hs ?_
        walk_at "go"
        rw [List.length_map]
        by_cases h3 : dup2 ns = ns.length
        · simp only [if_pos h3] at k
          refine brF (by show (!(((dup2 ns : Nat) : Int) == ((ns.length : Nat) : Int))) = false; rw [h3]; simp) ?_
          walk_at "go"
          refine ds_fld 0 rfl (.inl rfl) rfl U.cls U.na (by simp) (by decide) ?_
          walk_at "go"
          refine ⟨_, hs, ?_⟩
          walk_at "go"
          exact ⟨_, _, rfl, k⟩
        · simp only [if_neg h3] at k
          refine brT (by show (!(((dup2 ns : Nat) : Int) == ((ns.length : Nat) : Int))) = true; simp; omega) ?_
          walk_at "go"
          exact ds_raise rfl tk X rfl k
    · rw [if_neg (fun z => h2 z.1)] at k
      refine brT (decide_eq_true (by omega)) ?_
      walk_at "go"
      exact ds_raise rfl tk X rfl k
def f_mroots (u : Ua) : FS := fun ds Kp _ => ∃ ns, ds = [unD u ns] ∧ Kp (.tup (ns.map D.int))
theorem sc_mroots : FnScope ["self"] ["self"] (defScope m_roots) := ⟨rfl, rfl, rfl, by decide +kernel, rfl, by decide +kernel, by decide +kernel⟩
theorem ok_mroots {G : Pg} {u : Ua} {k : Nat} (T : Tx G) (U : UnF G u) : FnA G u.gR (k + 1) ["self"] (f_mroots u) := by
  obtain ⟨fd, F⟩ := U.fr
  refine FnA.of F sc_mroots (fun _ _ _ _ _ _ us hl => match us, hl with | [_], _ => rfl) ?_
  intro cdv A outer s H E dr M ds Kp Ke tk po hr hl hf
  obtain ⟨ns, rfl, k⟩ := hf
  walk_at "go"
  refine dx_fld ?_
  walk_at "go"
  exact ⟨_, _, _, _, rfl, U.cls, U.na, rfl, k⟩
def f_mmany (u : Ua) : FS := fun ds Kp _ => ∃ ns, ds = [unD u ns] ∧ Kp (.int (ns.length + 1))
theorem sc_mmany : FnScope ["self"] ["self"] (defScope m_many) := ⟨rfl, rfl, rfl, by decide +kernel, rfl, by decide +kernel, by decide +kernel⟩
theorem ok_mmany {G : Pg} {u : Ua} {k : Nat} (T : Tx G) (U : UnF G u) : FnA G u.gM (k + 1) ["self"] (f_mmany u) := by
  obtain ⟨fd, F⟩ := U.fm
  refine FnA.of F sc_mmany (fun _ _ _ _ _ _ us hl => match us, hl with | [_], _ => rfl) ?_
  intro cdv A outer s H E dr M ds Kp Ke tk po hr hl hf
  have tb := T.b
  obtain ⟨ns, rfl, k⟩ := hf
  walk_at "go"
  refine dx_fld ?_
  walk_at "go"
  refine ⟨_, _, _, _, rfl, U.cls, U.na, rfl, ?_⟩
  walk_at "go"
  rw [List.length_map]
  exact k
theorem deq_ints (ns ms : List Int) : deq (.tup (ns.map D.int)) (.tup (ms.map D.int)) = decide (ns = ms) := by
  have py : ∀ ns : List Int, pyL (ns.map D.int) = some (ns.map PyData.int) := fun ns => by
    induction ns with
    | nil => rfl
    | cons n ns ih => simp [pyL, Lay.py, ih]
  have ev : ∀ ns ms : List Int, PyData.eqvAll (ns.map PyData.int) (ms.map PyData.int) = decide (ns = ms) := fun ns => by
    induction ns with
    | nil => intro ms; cases ms <;> simp [PyData.eqvAll]
    | cons n ns ih =>
      intro ms
      cases ms with
      | nil => simp [PyData.eqvAll]
      | cons m ms => simp [PyData.eqvAll, PyData.eqv, ih]; rfl
  simp [deq, Lay.py, py, PyData.eqv, ev]
theorem okd_ints (ns : List Int) : okd 1 (.tup (ns.map D.int)) = true := okd_tup.mpr fun d hd => by
  obtain ⟨n, _, rfl⟩ := List.mem_map.mp hd
  rfl
def f_meq (u : Ua) : FS := fun ds Kp _ => ∃ ns e, ds = [unD u ns, e] ∧ ((∃ ms, e = unD u ms ∧ Kp (.bl (decide (ns = ms)))) ∨ ∃ l, e = .tup l ∧ Kp (.bl false))
theorem sc_meq : FnScope ["self", "other"] ["self", "other"] (defScope m_eq) := ⟨rfl, rfl, rfl, by decide +kernel, rfl, by decide +kernel, by decide +kernel⟩
theorem ok_meq {G : Pg} {u : Ua} {k : Nat} (T : Tx G) (U : UnF G u) (c : FnA G u.gR k ["self"] (f_mroots u)) : FnA G u.fE (k + 2) ["self", "other"] (f_meq u) := by
  obtain ⟨fd, F⟩ := U.fe
  refine FnA.of F sc_meq (fun _ _ _ _ _ _ us hl => match us, hl with | [_, _], _ => rfl) ?_
  intro cdv A outer s H E dr M ds Kp Ke tk po hr hl hf
  have tb := T.b
  obtain ⟨ns, e, rfl, hc⟩ := hf
  walk_at "go"
  refine dx_isiO rfl (Bt.isinstance tb) rfl U.nm U.clB ?_
  walk_at "go"
  rcases hc with ⟨ms, rfl, k⟩ | ⟨l, rfl, k⟩
  · refine ⟨true, .ins U.insF U.self, ?_⟩
    walk_at "go"
    refine dx_prop U.cls U.pr c hr ?_
    walk_at "go"
    refine ⟨⟨_, _, rfl⟩, ns, rfl, ?_⟩
    refine dx_prop U.cls U.pr c hr ?_
    walk_at "go"
    refine ⟨⟨_, _, rfl⟩, ms, rfl, ?_⟩
    refine ⟨okd_dok (okd_mono (okd_ints ns) (by decide)), okd_dok (okd_mono (okd_ints ms) (by decide)), ?_⟩
    rw [deq_ints]
    exact k
  · refine ⟨false, .pr rfl, ?_⟩
    walk_at "go"
    exact k
def f_need_units (u : Ua) : FS := fun ds Kp Ke => as1 (fun d => (∃ ns, d = unD u ns ∧ Kp .non) ∨ (prim d = true ∧ Ke ⟨u.bUnits, [], []⟩)) ds
abbrev s_need_units : Stmt := top 28
theorem sc_need_units : FnScope ["units"] ["units"] (defScope s_need_units) := ⟨rfl, rfl, rfl, by decide +kernel, rfl, by decide +kernel, by decide +kernel⟩
theorem ok_need_units {G : Pg} {k : Nat} {u : Ua} (T : Tx G) (U : UnF G u) (h : At G "need_units" s_need_units) : Fn G "need_units" (k + 1) ["units"] (f_need_units u) := by
  obtain ⟨fa, fd, F, hm⟩ := h
  refine Fn.of F hm sc_need_units (fun _ _ _ _ _ _ us hl => match us, hl with | [_], _ => rfl) ?_
  intro cdv A outer s H E dr M ds Kp Ke tk po hr hl hf
  have tb := T.b
  have nd := sc_need_units.nd
  obtain ⟨d, rfl, hc⟩ := as1_ex hf
  walk_at "go"
  refine dx_isiO rfl (Bt.isinstance tb) rfl U.nm U.clB ?_
  walk_at "go"
  rcases hc with ⟨ns, rfl, k⟩ | ⟨hp, k⟩
  · refine ⟨true, .ins U.insF U.self, ?_⟩
    walk_at "go"
    exact k
  · obtain ⟨s, hs⟩ := Option.isSome_iff_exists.mp hp
    refine ⟨false, .pr hs, ?_⟩
    walk_at "go"
    exact ds_raise rfl tk U.xUnits rfl k
/-! ### what the package tells of lengths -/
theorem pl_items {d : D} {l : List D} (hp : pl d = true) (hs : seqD d = some l) : plL l = true := by
  cases d <;> first | (cases hs; done) | (cases hs; exact hp)
def f_is_length_of (u : Ua) : FS := fun ds Kp _ => ∃ ns d, ds = [unD u ns, d] ∧ ns.length ≤ 2 ∧ pl d = true ∧ Kp (.bl (isLen (ns.length + 1) d))
abbrev s_is_length_of : Stmt := top 30
theorem sc_is_length_of : FnScope ["units", "thing", "item"] ["units", "thing"] (defScope s_is_length_of) := ⟨rfl, rfl, rfl, by decide +kernel, rfl, by decide +kernel, by decide +kernel⟩
theorem ok_is_length_of {G : Pg} {k : Nat} {u : Ua} (T : Tx G) (U : UnF G u) (h : At G "is_length_of" s_is_length_of) (c_is_given_number : Fn G "is_given_number" k ["thing"] f_is_given_number) (cm : FnA G u.gM 1 ["self"] (f_mmany u)) (hk : 2 ≤ k) : Fn G "is_length_of" (k + 1) ["units", "thing"] (f_is_length_of u) := by
  obtain ⟨fa, fd, F, hm⟩ := h
  refine Fn.of F hm sc_is_length_of (fun _ _ _ _ _ _ us hl => match us, hl with | [_, _], _ => rfl) ?_
  intro cdv A outer s H E dr M ds Kp Ke tk po hr hl hf
  have tb := T.b
  have nd := sc_is_length_of.nd
  obtain ⟨ns, d, rfl, hn, hp', k⟩ := hf
  have hp := pl_prim hp'
  walk_at "go"
  refine ⟨hp, ?_⟩
  rw [seq_isP]
  cases hs : seqD d with
  | none =>
    walk_at "go"
    have e : isLen (ns.length + 1) d = false := by rw [isLen, hs]
    rw [e] at k
    exact k
  | some l =>
    have e : isLen (ns.length + 1) d = ((l.length == ns.length + 1) && l.all isGiv) := by rw [isLen, hs]
    rw [e] at k
    walk_at "go"
    refine gLen_seq hs ?_
    walk_at "go"
    refine dx_prop U.cls U.pm cm (hr.mono hk) ?_
    walk_at "go"
    refine ⟨⟨_, _, rfl⟩, ns, rfl, ?_⟩
    refine And.intro (fun (h : (!((l.length : Int) == (ns.length : Int) + 1)) = true) => ?_) (fun (h : (!((l.length : Int) == (ns.length : Int) + 1)) = false) => ?_)
    · have h2 : (l.length == ns.length + 1) = false := by
        simp only [Bool.not_eq_true', beq_eq_false_iff_ne] at h ⊢
        omega
      rw [h2] at k
      walk_at "go"
      exact k
    · have h2 : l.length = ns.length + 1 := by
        simp only [Bool.not_eq_false', beq_iff_eq] at h
        omega
      rw [h2, beq_self_eq_true, Bool.true_and] at k
      walk_at "go"
      refine ⟨l, hs, ?_⟩
      refine lc_map (fun d => .bl (isGiv d)) (by omega) (fun _ _ => trivial) (fun d hd A s H C cl fp => ?_) ?_
      · walk_at "go"
        exact ⟨plL_mem (pl_items hp' hs) d hd, rfl⟩
      walk_at "go"
      refine ⟨_, l.map isGiv, rfl, blL_fun isGiv l, ?_⟩
      rw [List.all_map]
      exact k
def areLen (n : Nat) (d : D) : Bool := match seqD d with
  | some l => decide (l.length ≤ 400) && l.all (isLen n)
  | none => false
def f_are_lengths (u : Ua) : FS := fun ds Kp _ => ∃ ns d, ds = [unD u ns, d] ∧ ns.length ≤ 2 ∧ pl d = true ∧ Kp (.bl (areLen (ns.length + 1) d))
/-- a tuple of numbers of the top -/
def GTup (K : PySem.W.Frag) (mg : Str → Option Value) (x : Str) (ns : List Int) : Prop := ∃ a, mg x = some (.ref a) ∧ ∀ H, SqT K H a (ns.map V.int)
theorem rep_ints {K : PySem.W.Frag} {dr : Option Dr} {H : Hp} : ∀ ns : List Int, RepL K dr H (ns.map D.int) (ns.map V.int)
  | [] => rfl
  | n :: ns => ⟨_, _, rfl, rfl, rep_ints ns⟩
theorem dx_gtup {X : Cx} {W : Wd} {M : List Addr} {wx : WX} {δ : De} {x : Str} {ns : List Int} {Kp : KD} {Ke : KX} {pos : Pos} (hg : Gl X x) (hm : GTup X.K X.mg x ns) (k : Kp (.tup (ns.map D.int))) (hdb : (x == ("__debug__" : Str)) = false := by decide) : DE X W M wx δ (.Name x pos) Kp Ke :=
  let ⟨a, h, hs⟩ := hm; dx_glob (v := .ref a) (d := .tup (ns.map D.int)) hg h rfl (fun H => ⟨a, _, rfl, hs H, rep_ints ns⟩) (fun dr H _ => ⟨a, _, rfl, hs H, rep_ints ns⟩) k hdb
def f_nought_length (u : Ua) : FS := fun ds Kp _ => ∃ ns, ds = [unD u ns] ∧ ns.length ≤ 2 ∧ Kp (lenD (List.replicate (ns.length + 1) (0, 1)))
/-- lengths added from the left -/
def sumL (n : Nat) (ls : List (List (Int × Int))) : List (Int × Int) := ls.foldl (List.zipWith plusP) (List.replicate n (0, 1))
theorem sumL_take {n : Nat} {ls : List (List (Int × Int))} {i : Nat} {p : List (Int × Int)} (h : ls[i]? = some p) : sumL n (ls.take (i + 1)) = List.zipWith plusP (sumL n (ls.take i)) p := by
  unfold sumL
  rw [List.take_succ, h, List.foldl_append]
  rfl
def f_length_sum (u : Ua) : FS := fun ds Kp _ => ∃ ns ls, ds = [unD u ns, .lst (ls.map lenD)] ∧ ns.length ≤ 2 ∧ (∀ p ∈ ls, ∀ x ∈ p, OkP 4000 x) ∧ (∀ i, ∀ x ∈ sumL (ns.length + 1) (ls.take i), OkP 4000 x) ∧ (∀ i, (sumL (ns.length + 1) (ls.take i)).length ≤ 3) ∧ Kp (lenD (sumL (ns.length + 1) ls))
def f_need_length (u : Ua) : FS := fun ds Kp Ke => ∃ du d, ds = [du, d] ∧ ((∃ ns, du = unD u ns ∧ ns.length ≤ 2 ∧ pl d = true ∧ (if isLen (ns.length + 1) d = true then Kp .non else Ke ⟨u.bLength, [], []⟩)) ∨ (prim du = true ∧ Ke ⟨u.bUnits, [], []⟩))
def f_need_lengths (u : Ua) : FS := fun ds Kp Ke => ∃ du d, ds = [du, d] ∧ ((∃ ns, du = unD u ns ∧ ns.length ≤ 2 ∧ pl d = true ∧ (if areLen (ns.length + 1) d = true then Kp .non else Ke ⟨u.bLengths, [], []⟩)) ∨ (prim du = true ∧ Ke ⟨u.bUnits, [], []⟩))
def f_need_two (u : Ua) : FS := fun ds Kp Ke => ∃ du d e, ds = [du, d, e] ∧ ((∃ ns, du = unD u ns ∧ ns.length ≤ 2 ∧ pl d = true ∧ (if isLen (ns.length + 1) d = true then (pl e = true ∧ (if isLen (ns.length + 1) e = true then Kp .non else Ke ⟨u.bOther, [], []⟩)) else Ke ⟨u.bOne, [], []⟩)) ∨ (prim du = true ∧ Ke ⟨u.bUnits, [], []⟩))
abbrev s_need_two : Stmt := top 32
theorem sc_need_two : FnScope ["units", "one", "other"] ["units", "one", "other"] (defScope s_need_two) := ⟨rfl, rfl, rfl, by decide +kernel, rfl, by decide +kernel, by decide +kernel⟩
theorem ok_need_two {G : Pg} {k : Nat} {u : Ua} (T : Tx G) (U : UnF G u) (h : At G "need_two" s_need_two) (c_need_units : Fn G "need_units" k ["units"] (f_need_units u)) (c_is_length_of : Fn G "is_length_of" k ["units", "thing"] (f_is_length_of u)) : Fn G "need_two" (k + 1) ["units", "one", "other"] (f_need_two u) := by
  obtain ⟨fa, fd, F, hm⟩ := h
  refine Fn.of F hm sc_need_two (fun _ _ _ _ _ _ us hl => match us, hl with | [_, _, _], _ => rfl) ?_
  intro cdv A outer s H E dr M ds Kp Ke tk po hr hl hf
  have tb := T.b
  have nd := sc_need_two.nd
  obtain ⟨du, d, e, rfl, hc⟩ := hf
  walk_at "go"
  rcases hc with ⟨ns, rfl, hn, hp, k⟩ | ⟨hp, k⟩
  rotate_left
  · exact .inr ⟨hp, k⟩
  refine .inl ⟨ns, rfl, ?_⟩
  walk_at "go"
  refine ⟨ns, d, rfl, hn, hp, ?_⟩
  cases he : isLen (ns.length + 1) d with
  | true =>
    rw [he, if_pos rfl] at k
    obtain ⟨hp2, k⟩ := k
    walk_at "go"
    refine ⟨ns, e, rfl, hn, hp2, ?_⟩
    cases he : isLen (ns.length + 1) e with
    | true =>
      rw [he, if_pos rfl] at k
      walk_at "go"
      exact k
    | false =>
      rw [he, if_neg Bool.false_ne_true] at k
      walk_at "go"
      exact ds_raise rfl tk U.xOther rfl k
  | false =>
    rw [he, if_neg Bool.false_ne_true] at k
    walk_at "go"
    exact ds_raise rfl tk U.xOne rfl k
def f_is_given : FS := f_is_given_number
def f_is_length (u : Ua) : FS := fun ds Kp Ke => ∃ du d, ds = [du, d] ∧ ((∃ ns, du = unD u ns ∧ ns.length ≤ 2 ∧ pl d = true ∧ Kp (.bl (isLen (ns.length + 1) d))) ∨ (prim du = true ∧ Ke ⟨u.bUnits, [], []⟩))
theorem isLen_seq {n : Nat} {d : D} (h : isLen n d = true) : ∃ l, seqD d = some l ∧ l.length = n := by
  unfold isLen at h
  cases e : seqD d with
  | none => rw [e] at h; cases h
  | some l =>
    rw [e] at h
    simp only [Bool.and_eq_true, beq_iff_eq] at h
    exact ⟨l, rfl, h.1⟩
/-- a length's ratios -/
def lenOf (d : D) : D := match seqD d with
  | some l => .tup (l.map asRat)
  | none => d
theorem lenOf_seq {d : D} {l : List D} (h : seqD d = some l) : lenOf d = .tup (l.map asRat) := by rw [lenOf, h]
def f_plain (u : Ua) : FS := fun ds Kp Ke => ∃ du d, ds = [du, d] ∧ ((∃ ns, du = unD u ns ∧ ns.length ≤ 2 ∧ pl d = true ∧ (if isLen (ns.length + 1) d = true then Kp (lenOf d) else Ke ⟨u.bLength, [], []⟩)) ∨ (prim du = true ∧ Ke ⟨u.bUnits, [], []⟩))
theorem areLen_seq {n : Nat} {d : D} (h : areLen n d = true) : ∃ l, seqD d = some l ∧ l.length ≤ 400 ∧ ∀ x ∈ l, isLen n x = true := by
  unfold areLen at h
  cases e : seqD d with
  | none => rw [e] at h; cases h
  | some l =>
    rw [e] at h
    simp only [Bool.and_eq_true, decide_eq_true_eq, List.all_eq_true] at h
    exact ⟨l, rfl, h.1, h.2⟩
/-- lists of ratios that can be added -/
structure SumOk (n : Nat) (ls : List (List (Int × Int))) : Prop where
  it : ∀ p ∈ ls, ∀ x ∈ p, OkP 4000 x
  pre : ∀ i, ∀ x ∈ sumL n (ls.take i), OkP 4000 x
  len : ∀ i, (sumL n (ls.take i)).length ≤ 3
def f_total (u : Ua) : FS := fun ds Kp Ke => ∃ du d, ds = [du, d] ∧ ∃ ns, du = unD u ns ∧ ns.length ≤ 2 ∧ pl d = true ∧ (if areLen (ns.length + 1) d = true then ∃ l ls, seqD d = some l ∧ l.map lenOf = ls.map lenD ∧ SumOk (ns.length + 1) ls ∧ Kp (lenD (sumL (ns.length + 1) ls)) else Ke ⟨u.bLengths, [], []⟩)
def f_difference (u : Ua) : FS := fun ds Kp Ke => ∃ du d e, ds = [du, d, e] ∧ ∃ ns, du = unD u ns ∧ ns.length ≤ 2 ∧ pl d = true ∧ (if isLen (ns.length + 1) d = true then (pl e = true ∧ (if isLen (ns.length + 1) e = true then ∃ p q, lenOf d = lenD p ∧ lenOf e = lenD q ∧ p.length ≤ 3 ∧ (∀ x ∈ p, OkP 4000 x) ∧ (∀ x ∈ q, OkP 4000 x) ∧ Kp (lenD (List.zipWith minusP p q)) else Ke ⟨u.bOther, [], []⟩)) else Ke ⟨u.bOne, [], []⟩)
def f_multiple (u : Ua) : FS := fun ds Kp Ke => ∃ du d r, ds = [du, d, r] ∧ ∃ ns, du = unD u ns ∧ ns.length ≤ 2 ∧ pl d = true ∧ (if isLen (ns.length + 1) d = true then (pl r = true ∧ (if isGiv r = true then ∃ p y, lenOf d = lenD p ∧ asRat r = ratP y ∧ p.length ≤ 3 ∧ (∀ x ∈ p, OkP 4000 x) ∧ OkP 4000 y ∧ Kp (lenD (p.map fun x => timesP x y)) else Ke ⟨u.bRatio, [], []⟩)) else Ke ⟨u.bLength, [], []⟩)
/-! ### the law's kinds -/
def kindS : D → Str
  | .tup _ => "tuple"
  | .lst _ => "list"
  | .dic _ _ => "dict"
  | .bl _ => "bool"
  | _ => "other"
def kids (d : D) : List D := match seqD d with
  | some l => l
  | none => []
mutual
def sizeD : D → Nat
  | .tup l => 1 + sizeL l
  | .lst l => 1 + sizeL l
  | .dic _ l => 1 + sizeL l
  | .ins _ _ l => 1 + sizeL l
  | .exc _ _ l => 1 + sizeL l
  | _ => 1
def sizeL : List D → Nat
  | [] => 0
  | d :: l => sizeD d + sizeL l
end
theorem sizeL_append : ∀ l m : List D, sizeL (l ++ m) = sizeL l + sizeL m
  | [], m => by simp [sizeL]
  | d :: l, m => by
    rw [List.cons_append, sizeL, sizeL, sizeL_append l m]; omega
theorem sizeD_pos (d : D) : 1 ≤ sizeD d := by cases d <;> simp [sizeD]
theorem sizeL_len : ∀ l : List D, l.length ≤ sizeL l
  | [] => Nat.zero_le _
  | d :: l => by
    have := sizeL_len l
    have := sizeD_pos d
    simp only [List.length_cons, sizeL]; omega
/-- the kinds, found from the line's end on -/
def kr : Nat → List D → List D → List D
  | 0, _, f => f
  | n + 1, line, f => match line.getLast? with
    | none => f
    | some h => kr n (line.dropLast ++ kids h) (f ++ [.str (kindS h)])
def kindsOf (d : D) : List D := kr (sizeD d) [d] []
theorem kr_step {l f : List D} {h : D} (hs : sizeD h = 1 + sizeL (kids h)) : kr (sizeL (l ++ [h])) (l ++ [h]) f = kr (sizeL (l ++ kids h)) (l ++ kids h) (f ++ [.str (kindS h)]) := by
  have e : sizeL (l ++ [h]) = sizeL (l ++ kids h) + 1 := by
    rw [sizeL_append, sizeL_append, sizeL, sizeL, hs]; omega
  rw [e]
  simp only [kr, List.getLast?_concat, List.dropLast_concat]
def kInv (t : D) (R : List D) (δ : De) : Prop := ∃ f l o1 o2 o3 o4 o5, δ = [.im t, .ow f, .ow l, o1, o2, o3, o4, o5] ∧ noOw o1 = true ∧ noOw o2 = true ∧ (∀ x ∈ l, okd 60 x = true) ∧ f.length + sizeL l ≤ 1000000 ∧ kr (sizeL l) l f = R
def slotL (i : Nat) (δ : De) : Nat := match δ[i]? with
  | some (.ow l) => sizeL l
  | _ => 0
def f__law_kinds : FS := fun ds Kp _ => as1 (fun d => okd 60 d = true ∧ sizeD d ≤ 1000000 ∧ Kp (.lst (kindsOf d))) ds
abbrev s__law_kinds : Stmt := top 57
theorem sc__law_kinds : FnScope ["thing", "found", "line", "here", "kind", "named", "key", "name"] ["thing"] (defScope s__law_kinds) := ⟨rfl, rfl, rfl, by decide +kernel, rfl, by decide +kernel, by decide +kernel⟩
theorem ok__law_kinds {G : Pg} {k : Nat} (T : Tx G) (h : At G "_law_kinds" s__law_kinds) : Fn G "_law_kinds" (k + 1) ["thing"] f__law_kinds := by
  obtain ⟨fa, fd, F, hm⟩ := h
  refine Fn.of F hm sc__law_kinds (fun _ _ _ _ _ _ us hl => match us, hl with | [_], _ => rfl) ?_
  intro cdv A outer s H E dr M ds Kp Ke tk po hr hl hf
  have tb := T.b
  have nd := sc__law_kinds.nd
  obtain ⟨d, rfl, ho, hz, k⟩ := as1_ex hf
  walk_at "d"
  refine ds_par2F 1 2 rfl nd rfl rfl (by decide) rfl rfl rfl (df_lst (da_nil ⟨by decide, fun p => df_lst ?_⟩))
  walk_at "go"
  refine ⟨by simp, ?_⟩
  walk_at "go"
  refine ds_while (kInv d (kindsOf d)) (slotL 2) po ⟨[], [d], _, _, _, _, _, rfl, rfl, rfl, fun x hx => by rw [List.mem_singleton.mp hx]; exact ho, by simp [sizeL]; omega, by simp [kindsOf, sizeL]⟩ (fun δ' hI => ?_)
  obtain ⟨f, l, o1, o2, o3, o4, o5, rfl, n1, n2, hl, hb, hR⟩ := hI
  refine dt_owNe 2 hr rfl (.inl rfl) rfl (okd_lst.mpr fun x hx => okd_mono (hl x hx) (by decide)) ?_
  refine And.intro (fun h => ?_) (fun h => ?_)
  · obtain ⟨l, h0, rfl⟩ : ∃ l' h0, l = l' ++ [h0] := by
      have hne : l ≠ [] := by intro z; subst z; cases h
      exact ⟨l.dropLast, l.getLast hne, (List.dropLast_concat_getLast hne).symm⟩
    have oh := hl h0 (by simp)
    have ph := okd_prim oh
    refine ds_cons (ds_popS (l := l) (d := h0) 3 2 nd rfl (.inr rfl) rfl (.inl rfl) rfl ?_)
    cases h0 with
    | tup c =>
      walk_at "go"
      refine ⟨rfl, ?_⟩
      walk_at "go"
      refine ds_append 1 rfl (.inl rfl) rfl (by have := sizeL_len l; omega) ?_
      walk_at "go"
      refine ⟨by decide, _, _, _, rfl, rfl, rfl, ?_⟩
      refine brT (by decide +kernel) ?_
      refine ds_cons (ds_setF 2 nd rfl (.inl rfl) (df_addOw 2 rfl (.inl rfl) rfl ?_))
      walk_at "go"
      refine ⟨c, rfl, by have := sizeL_len c; simp only [sizeL_append, sizeL, sizeD] at hb; have := sizeL_len l; omega, ?_⟩
      walk_at "go"
      refine ⟨by decide +kernel, by decide +kernel, ?_⟩
      refine brF (by decide +kernel) ?_
      walk_at "go"
      refine ⟨⟨f ++ [.str (kindS (.tup c))], l ++ c, _, _, _, _, _, rfl, rfl, rfl, fun x hx => ?_, ?_, ?_⟩, ?_⟩
      · rcases List.mem_append.mp hx with hx | hx
        · exact hl x (List.mem_append_left _ hx)
        · exact okd_mono (okd_tup.mp (hl _ (by simp)) x hx) (by decide)
      · simp only [sizeL_append, sizeL, sizeD, List.length_append, List.length_singleton] at hb ⊢; omega
      · rw [← hR, kr_step (by simp [sizeD, kids, seqD])]; rfl
      · show sizeL (l ++ c) < sizeL (l ++ [_])
        simp only [sizeL_append, sizeL, sizeD]; omega
    | lst c =>
      walk_at "go"
      refine ⟨rfl, ?_⟩
      walk_at "go"
      refine ⟨rfl, ?_⟩
      walk_at "go"
      refine ds_append 1 rfl (.inl rfl) rfl (by have := sizeL_len l; omega) ?_
      walk_at "go"
      refine ⟨by decide, _, _, _, rfl, rfl, rfl, ?_⟩
      refine brT (by decide +kernel) ?_
      refine ds_cons (ds_setF 2 nd rfl (.inl rfl) (df_addOw 2 rfl (.inl rfl) rfl ?_))
      walk_at "go"
      refine ⟨c, rfl, by have := sizeL_len c; simp only [sizeL_append, sizeL, sizeD] at hb; have := sizeL_len l; omega, ?_⟩
      walk_at "go"
      refine ⟨by decide +kernel, by decide +kernel, ?_⟩
      refine brF (by decide +kernel) ?_
      walk_at "go"
      refine ⟨⟨f ++ [.str (kindS (.lst c))], l ++ c, _, _, _, _, _, rfl, rfl, rfl, fun x hx => ?_, ?_, ?_⟩, ?_⟩
      · rcases List.mem_append.mp hx with hx | hx
        · exact hl x (List.mem_append_left _ hx)
        · exact okd_mono (okd_lst.mp (hl _ (by simp)) x hx) (by decide)
      · simp only [sizeL_append, sizeL, sizeD, List.length_append, List.length_singleton] at hb ⊢; omega
      · rw [← hR, kr_step (by simp [sizeD, kids, seqD])]; rfl
      · show sizeL (l ++ c) < sizeL (l ++ [_])
        simp only [sizeL_append, sizeL, sizeD]; omega
    | bl c =>
      walk_at "go"
      refine ⟨rfl, ?_⟩
      walk_at "go"
      refine ⟨rfl, ?_⟩
      walk_at "go"
      refine ⟨rfl, ?_⟩
      walk_at "go"
      refine ⟨rfl, ?_⟩
      walk_at "go"
      refine ds_append 1 rfl (.inl rfl) rfl (by have := sizeL_len l; omega) ?_
      walk_at "go"
      refine ⟨by decide, _, _, _, rfl, rfl, rfl, ?_⟩
      refine brF (by decide +kernel) ?_
      walk_at "go"
      refine ⟨by decide +kernel, by decide +kernel, ?_⟩
      refine brF (by decide +kernel) ?_
      walk_at "go"
      refine ⟨⟨f ++ [.str (kindS (.bl c))], l, _, _, _, _, _, rfl, rfl, rfl, fun x hx => hl x (List.mem_append_left _ hx), ?_, ?_⟩, ?_⟩
      · simp only [sizeL_append, sizeL, sizeD, List.length_append, List.length_singleton] at hb ⊢; omega
      · rw [← hR, kr_step (by simp [sizeD, kids, seqD, sizeL])]; simp [kids, seqD, kindS]
      · show sizeL l < sizeL (l ++ [_])
        simp only [sizeL_append, sizeL, sizeD]; omega
    | non =>
      walk_at "go"
      refine ⟨rfl, ?_⟩
      walk_at "go"
      refine ⟨rfl, ?_⟩
      walk_at "go"
      refine ⟨rfl, ?_⟩
      walk_at "go"
      refine ⟨rfl, ?_⟩
      walk_at "go"
      refine ds_append 1 rfl (.inl rfl) rfl (by have := sizeL_len l; omega) ?_
      walk_at "go"
      refine ⟨by decide, _, _, _, rfl, rfl, rfl, ?_⟩
      refine brF (by decide +kernel) ?_
      walk_at "go"
      refine ⟨by decide +kernel, by decide +kernel, ?_⟩
      refine brF (by decide +kernel) ?_
      walk_at "go"
      refine ⟨⟨f ++ [.str (kindS (.non))], l, _, _, _, _, _, rfl, rfl, rfl, fun x hx => hl x (List.mem_append_left _ hx), ?_, ?_⟩, ?_⟩
      · simp only [sizeL_append, sizeL, sizeD, List.length_append, List.length_singleton] at hb ⊢; omega
      · rw [← hR, kr_step (by simp [sizeD, kids, seqD, sizeL])]; simp [kids, seqD, kindS]
      · show sizeL l < sizeL (l ++ [_])
        simp only [sizeL_append, sizeL, sizeD]; omega
    | int c =>
      walk_at "go"
      refine ⟨rfl, ?_⟩
      walk_at "go"
      refine ⟨rfl, ?_⟩
      walk_at "go"
      refine ⟨rfl, ?_⟩
      walk_at "go"
      refine ⟨rfl, ?_⟩
      walk_at "go"
      refine ds_append 1 rfl (.inl rfl) rfl (by have := sizeL_len l; omega) ?_
      walk_at "go"
      refine ⟨by decide, _, _, _, rfl, rfl, rfl, ?_⟩
      refine brF (by decide +kernel) ?_
      walk_at "go"
      refine ⟨by decide +kernel, by decide +kernel, ?_⟩
      refine brF (by decide +kernel) ?_
      walk_at "go"
      refine ⟨⟨f ++ [.str (kindS (.int c))], l, _, _, _, _, _, rfl, rfl, rfl, fun x hx => hl x (List.mem_append_left _ hx), ?_, ?_⟩, ?_⟩
      · simp only [sizeL_append, sizeL, sizeD, List.length_append, List.length_singleton] at hb ⊢; omega
      · rw [← hR, kr_step (by simp [sizeD, kids, seqD, sizeL])]; simp [kids, seqD, kindS]
      · show sizeL l < sizeL (l ++ [_])
        simp only [sizeL_append, sizeL, sizeD]; omega
    | str c =>
      walk_at "go"
      refine ⟨rfl, ?_⟩
      walk_at "go"
      refine ⟨rfl, ?_⟩
      walk_at "go"
      refine ⟨rfl, ?_⟩
      walk_at "go"
      refine ⟨rfl, ?_⟩
      walk_at "go"
      refine ds_append 1 rfl (.inl rfl) rfl (by have := sizeL_len l; omega) ?_
      walk_at "go"
      refine ⟨by decide, _, _, _, rfl, rfl, rfl, ?_⟩
      refine brF (by decide +kernel) ?_
      walk_at "go"
      refine ⟨by decide +kernel, by decide +kernel, ?_⟩
      refine brF (by decide +kernel) ?_
      walk_at "go"
      refine ⟨⟨f ++ [.str (kindS (.str c))], l, _, _, _, _, _, rfl, rfl, rfl, fun x hx => hl x (List.mem_append_left _ hx), ?_, ?_⟩, ?_⟩
      · simp only [sizeL_append, sizeL, sizeD, List.length_append, List.length_singleton] at hb ⊢; omega
      · rw [← hR, kr_step (by simp [sizeD, kids, seqD, sizeL])]; simp [kids, seqD, kindS]
      · show sizeL l < sizeL (l ++ [_])
        simp only [sizeL_append, sizeL, sizeD]; omega
    | dic _ _ => cases oh
    | ins _ _ _ => cases oh
    | exc _ _ _ => cases oh
    | drw => cases oh
    | frz _ => cases oh
  · have hl0 : l = [] := by simpa using h
    subst hl0
    have e : f = kindsOf d := hR
    refine ds_cons (ds_retOw 1 rfl (.inl rfl) rfl ?_)
    rw [e]
    exact k
/-! ### draws -/
def f__law_mixed : FS := fun ds Kp _ => as1 (fun d => d = .drw ∧ ∀ i : Int, Kp (.int i)) ds
theorem emod_b {a g : Int} (h : 0 < g) : 0 ≤ a % g ∧ a % g < g := ⟨Int.emod_nonneg _ (by omega), Int.emod_lt_of_pos _ h⟩
theorem cpow5 {b g : Int} (h0 : 0 ≤ b) (h1 : b < g) (h2 : g < 2 ^ 31) : CPowD b 5 := ⟨by decide, PyProof.Rows.bits_mul_le (by omega) (by decide) (by decide)⟩
abbrev s__law_mixed : Stmt := top 53
theorem sc__law_mixed : FnScope ["draw", "turn", "found", "great", "blend", "cell"] ["draw"] (defScope s__law_mixed) := ⟨rfl, rfl, rfl, by decide +kernel, rfl, by decide +kernel, by decide +kernel⟩
theorem ok__law_mixed {G : Pg} {k : Nat} (T : Tx G) (h : At G "_law_mixed" s__law_mixed) : Fn G "_law_mixed" (k + 1) ["draw"] f__law_mixed := by
  obtain ⟨fa, fd, F, hm⟩ := h
  refine Fn.of F hm sc__law_mixed (fun _ _ _ _ _ _ us hl => match us, hl with | [_], _ => rfl) ?_
  intro cdv A outer s H E dr M ds Kp Ke tk po hr hl hf
  have tb := T.b
  have nd := sc__law_mixed.nd
  obtain ⟨d, rfl, rfl, k⟩ := as1_ex hf
  cases dr with
  | none => exact dss_nodr 0 rfl
  | some dd =>
    walk_at "go"
    rename_i t0 t
    refine ds_for (.n 3) po rfl (pg_name nd rfl (.inl rfl) (.inr rfl)) ?_
    walk_at "go"
    refine ⟨by decide, ?_⟩
    walk_at "go"
    refine ⟨fun i δ' => ∃ f o1 o2 o3, δ' = [.im .drw, .im (.int t), .im (.int f), o1, o2, o3], ⟨_, _, _, _, rfl⟩, ?_, ?_⟩
    · rintro i d δ' hd ⟨f, o1, o2, o3, rfl⟩
      obtain ⟨g, rfl, hg0, hg1⟩ : ∃ g : Int, d = .int g ∧ 0 < g ∧ g < 2 ^ 31 := by
        have := List.mem_of_getElem? hd
        simp only [List.mem_cons, List.mem_nil_iff, or_false] at this
        rcases this with rfl | rfl | rfl
        · exact ⟨_, rfl, by decide, by decide⟩
        · exact ⟨_, rfl, by decide, by decide⟩
        · exact ⟨_, rfl, by decide, by decide⟩
      refine ⟨trivial, ?_⟩
      walk_at "go"
      refine ⟨.inl (.inr ⟨by decide, by decide⟩), ?_⟩
      walk_at "go"
      refine ⟨⟨by decide, by decide +kernel⟩, ?_⟩
      walk_at "go"
      refine ⟨hg0, ?_⟩
      walk_at "go"
      refine ds_for (.n 5) po rfl (pg_name nd rfl (.inl rfl) (.inr rfl)) (di_cells (j := 0) hr rfl (.inl rfl) rfl ⟨fun _ δ' => ∃ b o, δ' = [.im .drw, .im (.int t), .im (.int f), .im (.int g), .im (.int b), o] ∧ 0 ≤ b ∧ b < g, ⟨_, _, rfl, emod_b hg0⟩, ?_, ?_⟩)
      · rintro i2 d2 δ' hd2 ⟨b, o, rfl, hb0, hb1⟩
        rw [List.getElem?_map] at hd2
        obtain ⟨c, _, rfl⟩ := Option.map_eq_some_iff.mp hd2
        refine ⟨trivial, ?_⟩
        walk_at "go"
        refine ⟨.inl (.inr ⟨by decide, by decide⟩), ?_⟩
        walk_at "go"
        refine ⟨hg0, ?_⟩
        walk_at "go"
        exact ⟨_, _, rfl, emod_b hg0⟩
      · rintro δ' ⟨b, o, rfl, hb0, hb1⟩
        walk_at "go"
        refine ⟨.inl (.inr ⟨by decide, by decide⟩), ?_⟩
        walk_at "go"
        refine ⟨cpow5 hb0 hb1 hg1, ?_⟩
        walk_at "go"
        refine ⟨hg0, ?_⟩
        walk_at "go"
        exact ⟨_, _, _, _, rfl⟩
    · rintro δ' ⟨f, o1, o2, o3, rfl⟩
      walk_at "go"
      exact k f
def f__law_take : FS := fun ds Kp _ => ∃ n : Int, ds = [.drw, .int n] ∧ 0 < n ∧ n < 2 ^ 62 ∧ ∀ i : Int, 0 ≤ i → i < n → Kp (.int i)
theorem cdivT {n r : Int} (h0 : 0 < n) (h1 : n < 2 ^ 62) : CDivW r n := ⟨h0, Nat.lt_trans ((Nat.log2_lt (by omega)).mpr (show n.natAbs < 2 ^ 62 by omega)) (by decide)⟩
abbrev s__law_take : Stmt := top 54
theorem sc__law_take : FnScope ["draw", "amount", "found"] ["draw", "amount"] (defScope s__law_take) := ⟨rfl, rfl, rfl, by decide +kernel, rfl, by decide +kernel, by decide +kernel⟩
theorem ok__law_take {G : Pg} {k : Nat} (T : Tx G) (h : At G "_law_take" s__law_take) (c__law_mixed : Fn G "_law_mixed" k ["draw"] f__law_mixed) : Fn G "_law_take" (k + 1) ["draw", "amount"] f__law_take := by
  obtain ⟨fa, fd, F, hm⟩ := h
  refine Fn.of F hm sc__law_take (fun _ _ _ _ _ _ us hl => match us, hl with | [_, _], _ => rfl) ?_
  intro cdv A outer s H E dr M ds Kp Ke tk po hr hl hf
  have tb := T.b
  have nd := sc__law_take.nd
  obtain ⟨n, rfl, h0, h1, k⟩ := hf
  cases dr with
  | none => exact dss_nodr 0 rfl
  | some dd =>
    walk_at "go"
    refine And.intro (fun _ => ?_) (fun _ => ?_)
    · refine ds_cons (ds_dput 0 hr (.inl rfl) rfl (.inl rfl) rfl (dx_draw (j := 0) hr tk rfl (.inl rfl) rfl c__law_mixed rfl rfl (fun i => ?_)))
      walk_at "go"
      refine ⟨h0, ?_⟩
      walk_at "go"
      refine ⟨cdivT h0 h1, ?_⟩
      walk_at "go"
      exact k _ (emod_b h0).1 (emod_b h0).2
    · walk_at "go"
      refine ⟨h0, ?_⟩
      walk_at "go"
      refine ⟨cdivT h0 h1, ?_⟩
      walk_at "go"
      exact k _ (emod_b h0).1 (emod_b h0).2
def f__law_pick : FS := fun ds Kp _ => ∃ l, ds = [.drw, .lst l] ∧ l ≠ [] ∧ l.length < 2 ^ 62 ∧ ∀ x ∈ l, Kp x
theorem atI_pos {l : List D} {i : Int} (h0 : 0 ≤ i) (h1 : i < l.length) : ∃ x ∈ l, atI l i = some x := by
  obtain ⟨n, rfl⟩ := Int.eq_ofNat_of_zero_le h0
  have hn : n < l.length := by omega
  exact ⟨l[n], List.getElem_mem hn, atI_nat (List.getElem?_eq_getElem hn)⟩
abbrev s__law_pick : Stmt := top 55
theorem sc__law_pick : FnScope ["draw", "some"] ["draw", "some"] (defScope s__law_pick) := ⟨rfl, rfl, rfl, by decide +kernel, rfl, by decide +kernel, by decide +kernel⟩
theorem ok__law_pick {G : Pg} {k : Nat} (T : Tx G) (h : At G "_law_pick" s__law_pick) (c__law_take : Fn G "_law_take" k ["draw", "amount"] f__law_take) : Fn G "_law_pick" (k + 1) ["draw", "some"] f__law_pick := by
  obtain ⟨fa, fd, F, hm⟩ := h
  refine Fn.of F hm sc__law_pick (fun _ _ _ _ _ _ us hl => match us, hl with | [_, _], _ => rfl) ?_
  intro cdv A outer s H E dr M ds Kp Ke tk po hr hl hf
  have tb := T.b
  have nd := sc__law_pick.nd
  obtain ⟨l, rfl, hne, hl, k⟩ := hf
  have hp : 0 < l.length := by
    cases l with
    | nil => exact absurd rfl hne
    | cons _ _ => simp
  walk_at "go"
  refine ⟨_, rfl, by omega, by omega, fun i h0 h1 => ?_⟩
  obtain ⟨x, hx, e⟩ := atI_pos h0 h1
  exact ⟨l, i, x, rfl, rfl, e, k x hx⟩
theorem gEq_of {d e : D} {k : KD} (h1 : dok d = true) (h2 : dok e = true) (q : k (.bl (deq d e))) : gEq d e k := by
  unfold gEq
  split
  · simpa [deq, Lay.py, PyData.eqv] using q
  · exact ⟨h1, h2, q⟩
theorem kr_str : ∀ (n : Nat) (line f : List D), (∀ x ∈ f, ∃ d, x = .str (kindS d)) → ∀ x ∈ kr n line f, ∃ d, x = .str (kindS d)
  | 0, _, f, h => h
  | n + 1, line, f, h => by
    simp only [kr]
    split
    · exact h
    · refine kr_str n _ _ fun x hx => ?_
      rcases List.mem_append.mp hx with hx | hx
      · exact h x hx
      · exact ⟨_, List.mem_singleton.mp hx⟩
theorem kinds_ok (d : D) : okd 64 (.lst (kindsOf d)) = true := okd_lst.mpr fun x hx => by
  obtain ⟨e, rfl⟩ := kr_str _ _ _ (fun x hx => by simp at hx) x hx
  unfold kindS
  split <;> decide +kernel
def f__law_says : FS := fun ds Kp _ => ∃ d, ds = [d, d] ∧ okd 60 d = true ∧ sizeD d ≤ 1000000 ∧ Kp (.bl true)
abbrev s__law_says : Stmt := top 58
theorem sc__law_says : FnScope ["told", "due"] ["told", "due"] (defScope s__law_says) := ⟨rfl, rfl, rfl, by decide +kernel, rfl, by decide +kernel, by decide +kernel⟩
theorem ok__law_says {G : Pg} {k : Nat} (T : Tx G) (h : At G "_law_says" s__law_says) (c__law_kinds : Fn G "_law_kinds" k ["thing"] f__law_kinds) : Fn G "_law_says" (k + 1) ["told", "due"] f__law_says := by
  obtain ⟨fa, fd, F, hm⟩ := h
  refine Fn.of F hm sc__law_says (fun _ _ _ _ _ _ us hl => match us, hl with | [_, _], _ => rfl) ?_
  intro cdv A outer s H E dr M ds Kp Ke tk po hr hl hf
  have tb := T.b
  have nd := sc__law_says.nd
  obtain ⟨d, rfl, ho, hz, k⟩ := hf
  have h64 := okd_dok (okd_mono ho (by decide : 60 ≤ 64))
  walk_at "go"
  refine gEq_of h64 h64 ?_
  rw [deq_refl h64]
  walk_at "go"
  refine ⟨ho, hz, ?_⟩
  walk_at "go"
  refine ⟨ho, hz, ?_⟩
  have hk := okd_dok (kinds_ok d)
  refine gEq_of hk hk ?_
  rw [deq_refl hk]
  exact k
/-! ### what is drawn -/
structure GoodR (ns : List Int) : Prop where
  len : ns.length ≤ 2
  root : ns.all isRoot = true
  nd : ns.Nodup
def menuR : List (List Int) := [[], [2], [2], [3], [5], [7], [2, 3], [3, 2], [2, 5], [2, 6], [6, 10], [94, 95]]
def f__law_roots : FS := fun ds Kp _ => as1 (fun d => d = .drw ∧ ∀ ns ∈ menuR, Kp (.lst (ns.map D.int))) ds
theorem menuR_good : ∀ ns ∈ menuR, GoodR ns := by
  intro ns h
  simp only [menuR, List.mem_cons, List.mem_nil_iff, or_false] at h
  rcases h with rfl | rfl | rfl | rfl | rfl | rfl | rfl | rfl | rfl | rfl | rfl | rfl <;> exact ⟨by decide, by decide +kernel, by decide⟩
abbrev s__law_roots : Stmt := top 78
theorem sc__law_roots : FnScope ["draw"] ["draw"] (defScope s__law_roots) := ⟨rfl, rfl, rfl, by decide +kernel, rfl, by decide +kernel, by decide +kernel⟩
theorem ok__law_roots {G : Pg} {k : Nat} (T : Tx G) (h : At G "_law_roots" s__law_roots) (c__law_pick : Fn G "_law_pick" k ["draw", "some"] f__law_pick) : Fn G "_law_roots" (k + 1) ["draw"] f__law_roots := by
  obtain ⟨fa, fd, F, hm⟩ := h
  refine Fn.of F hm sc__law_roots (fun _ _ _ _ _ _ us hl => match us, hl with | [_], _ => rfl) ?_
  intro cdv A outer s H E dr M ds Kp Ke tk po hr hl hf
  have tb := T.b
  have nd := sc__law_roots.nd
  obtain ⟨d, rfl, rfl, k⟩ := as1_ex hf
  walk_at "gl"
  refine ⟨menuR.map fun ns => .lst (ns.map D.int), rfl, by simp [menuR], by simp [menuR], fun x hx => ?_⟩
  obtain ⟨ns, hn, rfl⟩ := List.mem_map.mp hx
  exact k ns hn
/-- a good ratio of n bits -/
structure GoodP (n : Nat) (x : Int × Int) : Prop where
  ok : OkP n x
  rat : isRat (ratP x) = true
theorem rpair_isRat {x y : Int} (h : 0 < y) : isRat (rpair x y) = true := by
  have g0 := gcdI_pos (x := x) h
  have gy : gcdI x y ∣ y := by
    show ((_ : Nat) : Int) ∣ y
    exact Int.ofNat_dvd_left.mpr (Nat.gcd_dvd_right _ _)
  have gx : gcdI x y ∣ x := by
    show ((_ : Nat) : Int) ∣ x
    exact Int.ofNat_dvd_left.mpr (Nat.gcd_dvd_left _ _)
  have hy : 0 < y / gcdI x y := Int.ediv_pos_of_pos_of_dvd h (by omega) gy
  show (decide (0 < y / gcdI x y) && (((Nat.gcd (x / gcdI x y).natAbs (y / gcdI x y).natAbs : Nat) : Int) == 1)) = true
  rw [decide_eq_true hy, Bool.true_and]
  have e1 : (x / gcdI x y).natAbs = x.natAbs / Nat.gcd x.natAbs y.natAbs := by
    rw [Int.natAbs_ediv_of_dvd gx]; simp
  have e2 : (y / gcdI x y).natAbs = y.natAbs / Nat.gcd x.natAbs y.natAbs := by
    rw [Int.natAbs_ediv_of_dvd gy]; simp
  rw [e1, e2, Nat.gcd_div_gcd_div_gcd_of_pos_right (by omega)]
  rfl
theorem div_le {x y : Int} {n : Nat} (h : 0 < y) (hx : sz n x) : sz n (x / gcdI x y) ∧ (sz n y → sz n (y / gcdI x y)) := by
  have gy : gcdI x y ∣ y := Int.ofNat_dvd_left.mpr (Nat.gcd_dvd_right _ _)
  have gx : gcdI x y ∣ x := Int.ofNat_dvd_left.mpr (Nat.gcd_dvd_left _ _)
  unfold sz at *
  rw [Int.natAbs_ediv_of_dvd gx, Int.natAbs_ediv_of_dvd gy]
  exact ⟨Nat.lt_of_le_of_lt (Nat.div_le_self _ _) hx, fun hy => Nat.lt_of_le_of_lt (Nat.div_le_self _ _) hy⟩
theorem pairP_good {x y : Int} {n : Nat} (h : 0 < y) (hx : sz n x) (hy : sz n y) : GoodP n (pairP x y) := by
  have gy : gcdI x y ∣ y := Int.ofNat_dvd_left.mpr (Nat.gcd_dvd_right _ _)
  obtain ⟨a, b⟩ := div_le h hx
  exact ⟨⟨Int.ediv_pos_of_pos_of_dvd h (by have := gcdI_pos (x := x) h; omega) gy, a, b hy⟩, rpair_isRat h⟩
def f__law_item : FS := fun ds Kp _ => as1 (fun d => d = .drw ∧ ∀ x : Int × Int, GoodP 10 x → (x.1.natAbs ≤ 4 ∧ x.2 ≤ 3) → Kp (ratP x)) ds
def menuI : List (Int × Int) := [(0, 1), (0, 1), (1, 1), (1, 1), (2, 1), (3, 1), (-1, 1), (-2, 1)]
theorem menuI_good : ∀ x ∈ menuI, GoodP 10 x ∧ (x.1.natAbs ≤ 4 ∧ x.2 ≤ 3) := by
  intro x h
  simp only [menuI, List.mem_cons, List.mem_nil_iff, or_false] at h
  rcases h with rfl | rfl | rfl | rfl | rfl | rfl | rfl | rfl <;> exact ⟨⟨⟨by decide, by simp [sz], by simp [sz]⟩, by decide +kernel⟩, by decide, by decide⟩
theorem pairP_le {x y : Int} (h : 0 < y) : (pairP x y).1.natAbs ≤ x.natAbs ∧ (pairP x y).2 ≤ y := by
  have gy : gcdI x y ∣ y := Int.ofNat_dvd_left.mpr (Nat.gcd_dvd_right _ _)
  have gx : gcdI x y ∣ x := Int.ofNat_dvd_left.mpr (Nat.gcd_dvd_left _ _)
  refine ⟨?_, ?_⟩
  · show (x / gcdI x y).natAbs ≤ _
    rw [Int.natAbs_ediv_of_dvd gx]
    exact Nat.div_le_self _ _
  · have : (y / gcdI x y).natAbs ≤ y.natAbs := by
      rw [Int.natAbs_ediv_of_dvd gy]
      exact Nat.div_le_self _ _
    show y / gcdI x y ≤ y
    omega
abbrev s__law_item : Stmt := top 79
theorem sc__law_item : FnScope ["draw"] ["draw"] (defScope s__law_item) := ⟨rfl, rfl, rfl, by decide +kernel, rfl, by decide +kernel, by decide +kernel⟩
theorem ok__law_item {G : Pg} {k : Nat} (T : Tx G) (h : At G "_law_item" s__law_item) (c__law_pick : Fn G "_law_pick" k ["draw", "some"] f__law_pick) (c__law_take : Fn G "_law_take" k ["draw", "amount"] f__law_take) (c__law_pair : Fn G "_law_pair" k ["above", "bottom"] f__law_pair) : Fn G "_law_item" (k + 1) ["draw"] f__law_item := by
  obtain ⟨fa, fd, F, hm⟩ := h
  refine Fn.of F hm sc__law_item (fun _ _ _ _ _ _ us hl => match us, hl with | [_], _ => rfl) ?_
  intro cdv A outer s H E dr M ds Kp Ke tk po hr hl hf
  have tb := T.b
  have nd := sc__law_item.nd
  obtain ⟨d, rfl, rfl, k⟩ := as1_ex hf
  walk_at "gl"
  refine ⟨9, rfl, by decide, by decide, fun i h0 h1 => ?_⟩
  walk_at "gl"
  refine ⟨3, rfl, by decide, by decide, fun j g0 g1 => ?_⟩
  walk_at "gl"
  have hj : (0 : Int) < 1 + j := by omega
  refine ⟨i - 4, 1 + j, rfl, hj, (show (1 + j).natAbs < 2 ^ 9000 from Nat.lt_of_lt_of_le (show (1 + j).natAbs < 2 ^ 2 by omega) (Nat.pow_le_pow_right (by decide) (by decide))), ?_⟩
  walk_at "gl"
  refine ⟨menuI.map ratP ++ [ratP (pairP (i - 4) (1 + j))], rfl, by simp, by simp [menuI], fun x hx => ?_⟩
  rcases List.mem_append.mp hx with hx | hx
  · obtain ⟨y, hy, rfl⟩ := List.mem_map.mp hx
    exact k y (menuI_good y hy).1 (menuI_good y hy).2
  · rw [List.mem_singleton.mp hx]
    have pp := pairP_le (x := i - 4) hj
    exact k _ (pairP_good hj (show (i - 4).natAbs < 2 ^ 10 by omega) (show (1 + j).natAbs < 2 ^ 10 by omega)) ⟨by omega, by omega⟩
/-- a part of a length that is given -/
structure GivOk (x : D) : Prop where
  giv : isGiv x = true
  ok : okd 2 x = true
  rat : ∃ y, asRat x = ratP y ∧ GoodP 998 y
theorem few_of {n : Nat} {x : Int × Int} (h : OkP n x) (hn : n ≤ 900) : few x.1 x.2 = true := by
  have e : (2 : Nat) ^ n ≤ 10 ^ 300 := Nat.le_trans (Nat.pow_le_pow_right (by decide) hn) (by decide +kernel)
  have h1 := h.up
  have h2 := h.dn
  unfold sz at h1 h2
  have e1 : (x.1.natAbs : Int) < 10 ^ 300 := by exact_mod_cast Nat.lt_of_lt_of_le h1 e
  have e2 : (x.2.natAbs : Int) < 10 ^ 300 := by exact_mod_cast Nat.lt_of_lt_of_le h2 e
  simp only [few, few1, MOST, Bool.and_eq_true, decide_eq_true_eq]
  omega
theorem giv_rat {n : Nat} {x : Int × Int} (h : GoodP n x) (hn : n ≤ 900) : GivOk (ratP x) :=
  ⟨by show (isRat (ratP x) && few x.1 x.2) = true; rw [h.rat, few_of h.ok hn]; rfl, rfl, x, rfl, h.ok.mono (by omega), h.rat⟩
theorem giv_big {x : Int × Int} (h : GoodP 998 x) (hf : few x.1 x.2 = true) : GivOk (ratP x) :=
  ⟨by show (isRat (ratP x) && few x.1 x.2) = true; rw [h.rat, hf]; rfl, rfl, x, rfl, h⟩
theorem giv_int {i : Int} (h : few1 i = true) (hs : sz 998 i) : GivOk (.int i) := ⟨h, rfl, (i, 1), rfl, ⟨by show (0 : Int) < 1; decide, hs, by show (1 : Int).natAbs < 2 ^ 998; exact Nat.one_lt_two_pow (by decide)⟩, by
  show (decide ((0 : Int) < 1) && (((Nat.gcd i.natAbs 1 : Nat) : Int) == 1)) = true
  rw [Nat.gcd_one_right]; rfl⟩
theorem sz_dec {n : Nat} {i : Int} (h : Nat.blt i.natAbs (2 ^ n) = true) : sz n i := Nat.le_of_ble_eq_true h
def f__law_given : FS := fun ds Kp _ => ∃ ns : List Int, ds = [.drw, .lst (ns.map D.int)] ∧ ns.length ≤ 2 ∧ ∀ l : List D, l.length = ns.length + 1 → (∀ x ∈ l, GivOk x) → Kp (.tup l) ∧ Kp (.lst l)
/-- a value near to a length -/
structure NearOk (d : D) : Prop where
  pl : pl d = true
  th : ThingOk d
  sh : ∀ l, seqD d = some l → l.length ≤ 10
theorem cutD_mem {l : List D} {a b : Option Int} {x : D} (h : x ∈ Lay.cutD l a b) : x ∈ l := List.mem_of_mem_drop (List.mem_of_mem_take h)
theorem cutD_len {l : List D} {a b : Option Int} : (Lay.cutD l a b).length ≤ l.length := by
  unfold Lay.cutD
  rw [List.length_take, List.length_drop]; omega
def kvsOf (l : List D) : List (Key × D) := ((List.range l.length).map fun (i : Nat) => (Sum.inl (0 + (i : Int)) : Key)).zip l
theorem enum_kvs (l : List D) : enumD l = (kvsOf l).map fun kv => .tup [kD kv.1, kv.2] := by
  unfold enumD zipD intsD kvsOf
  rw [List.zip_map_left, List.zip_map_left, List.map_map, List.map_map]
  rfl
theorem kvs_keys (l : List D) : (kvsOf l).map (·.1) = (List.range l.length).map fun (i : Nat) => (Sum.inl (0 + (i : Int)) : Key) := List.map_fst_zip (by simp)
theorem kvs_vals (l : List D) : (kvsOf l).map (·.2) = l := List.map_snd_zip (by simp)
theorem kvs_nodup (l : List D) : ((kvsOf l).map (·.1)).Nodup := by
  rw [kvs_keys]
  unfold List.Nodup
  rw [List.pairwise_map]
  refine List.Pairwise.imp (fun {i j} h e => h ?_) List.nodup_range
  have : (0 : Int) + i = 0 + j := Sum.inl.inj e
  omega
theorem enum_pair {l : List D} {d : D} (h : d ∈ enumD l) : ∃ a b, d = .tup [a, b] := by
  obtain ⟨p, _, rfl⟩ := List.mem_map.mp h
  exact ⟨_, _, rfl⟩
theorem near_seq {d : D} {l : List D} (hs : seqD d = some l) (h : ∀ x ∈ l, okd 60 x = true) (hn : l.length ≤ 10) (hp : pl d = true) (hq : prim d = true) : NearOk d := ⟨hp, ⟨hq, fun m hm => by rw [hs] at hm; cases hm; exact h⟩, fun m hm => by rw [hs] at hm; cases hm; exact hn⟩
theorem near_lst {l : List D} (h : ∀ x ∈ l, okd 60 x = true) (hn : l.length ≤ 10) : NearOk (.lst l) := near_seq rfl h hn (okdL_pl 60 l (okdL_iff.mpr h)) rfl
theorem near_tup {l : List D} (h : ∀ x ∈ l, okd 60 x = true) (hn : l.length ≤ 10) : NearOk (.tup l) := near_seq rfl h hn (okdL_pl 60 l (okdL_iff.mpr h)) rfl
def f__law_near : FS := fun ds Kp _ => ∃ ns : List Int, ds = [.drw, .lst (ns.map D.int)] ∧ ns.length ≤ 2 ∧ ∀ d, NearOk d → Kp d
/-! ### odd values -/
theorem thing_of {d : D} (h : prim d = true) (g : (match seqD d with
  | some l => l.all (okd 60)
  | none => true) = true) : ThingOk d := ⟨h, fun l hl x hx => by
  rw [hl] at g
  exact List.all_eq_true.mp g x hx⟩
def f__law_odd : FS := fun ds Kp _ => as1 (fun d => d = .drw ∧ ∀ x : D, prim x = true → pl x = true → ThingOk x → Kp x) ds
abbrev s__law_odd : Stmt := top 59
theorem sc__law_odd : FnScope ["draw"] ["draw"] (defScope s__law_odd) := ⟨rfl, rfl, rfl, by decide +kernel, rfl, by decide +kernel, by decide +kernel⟩
theorem ok__law_odd {G : Pg} {k : Nat} (T : Tx G) (h : At G "_law_odd" s__law_odd) (c__law_pick : Fn G "_law_pick" k ["draw", "some"] f__law_pick) : Fn G "_law_odd" (k + 1) ["draw"] f__law_odd := by
  obtain ⟨fa, fd, F, hm⟩ := h
  refine Fn.of F hm sc__law_odd (fun _ _ _ _ _ _ us hl => match us, hl with | [_], _ => rfl) ?_
  intro cdv A outer s H E dr M ds Kp Ke tk po hr hl hf
  have tb := T.b
  have nd := sc__law_odd.nd
  obtain ⟨d, rfl, rfl, k⟩ := as1_ex hf
  walk_at "gl"
  refine dx_dic1 (key := .inr "a") (x := .int 1) (dd := .int 1) pe_str pe_int (fun _ => rfl) (fun _ => rfl) ?_
  walk_at "gl"
  refine ⟨_, rfl, by simp, by simp, fun z hz => ?_⟩
  simp only [List.mem_cons, List.mem_nil_iff, or_false] at hz
  rcases hz with rfl | rfl | rfl | rfl | rfl | rfl | rfl | rfl | rfl | rfl | rfl | rfl | rfl | rfl | rfl | rfl <;> exact k _ rfl rfl (thing_of rfl rfl)
/-! ### the draws begin -/
/-- the state is new, nothing else is changed -/
def spBeg (K : PySem.W.Frag) (T : List (Addr × Str)) : Sp := fun vs H Q _ => ∃ (a : Addr) (ns : List Int), vs = [.ref a] ∧ SqL K H a (ns.map V.int) ∧ ns.length ≤ 1000 ∧ LamX.Tabs T H ∧
  ∀ H' d, (∀ b o, H b = some o → (∀ ps, o ≠ .tbl ps) → H' b = some o) → LamX.Tabs T H' → (∀ b o, H b = some o → (∀ ps, o ≠ .tbl ps) → b ≠ d.dw ∧ b ≠ d.lg ∧ b ≠ d.cl) → DrOk d H' → Q (.ref d.dw) H'
abbrev s__law_begun : Stmt := top 52
theorem sc__law_begun : FnScope ["script", "large", "cell"] ["script"] (defScope s__law_begun) := ⟨rfl, rfl, rfl, by decide +kernel, rfl, by decide +kernel, by decide +kernel⟩
theorem setUn {K : PySem.W.Frag} {W : Wd} {M : List Addr} {H : Hp} {o1 o2 o3 p1 p2 : Option V} {d : D} (h : EnvOk K W M [.im d, .un, .un] [o1, o2, o3] H) : EnvOk K W M [.im d, .un, .un] [o1, p1, p2] H := by
  have e : ∀ q1 q2 : Option V, ownA [.im d, .un, .un] [o1, q1, q2] = [] := fun q1 q2 => by simp [ownA]
  exact ⟨h.w, h.m, by rw [e]; exact List.Pairwise.nil, fun a ha => by rw [e] at ha; simp at ha, ⟨by have := h.sl.1; rwa [hidA, e] at this ⊢, trivial, trivial, trivial⟩⟩
def bigF : D → Option D
  | .int i => if decide ((10 : Int) ^ (18 : Int).toNat ≤ (if i < 0 then -i else i)) = true then some (.int ((if i < 0 then -i else i) - (10 : Int) ^ (18 : Int).toNat)) else none
  | _ => none
def bigG (i : Int) : Option Int := if decide ((10 : Int) ^ (18 : Int).toNat ≤ (if i < 0 then -i else i)) = true then some ((if i < 0 then -i else i) - (10 : Int) ^ (18 : Int).toNat) else none
theorem bigF_map : ∀ ns : List Int, (ns.map D.int).filterMap bigF = (ns.filterMap bigG).map D.int
  | [] => rfl
  | n :: ns => by
    rw [List.map_cons, List.filterMap_cons, List.filterMap_cons, bigF_map ns]
    have e : bigF (.int n) = (bigG n).map D.int := by
      by_cases h : decide ((10 : Int) ^ (18 : Int).toNat ≤ (if n < 0 then -n else n)) = true
      · rw [bigG, if_pos h]; exact if_pos h
      · rw [bigG, if_neg h]; exact if_neg h
    rw [e]
    cases bigG n <;> rfl
def absF : D → D
  | .int i => .int (if i < 0 then -i else i)
  | d => d
theorem absF_map (ns : List Int) : (ns.map D.int).map absF = (ns.map fun i => if i < 0 then -i else i).map D.int := by
  rw [List.map_map, List.map_map]; rfl
theorem seq_asg {te : TE} {g : TG} {u : TS} {D : Ends} {σ : L2.St} {H : Hp} (h : te σ H (fun x H1 => g x σ H1 (u D))) : tSeq (tAsg te g) u D σ H := h
theorem disp4 {tl : TE} {D : Ends} {σ : L2.St} {H : Hp} (h : ∀ p, H p = none → ∃ v1, σ[1]? = some (some v1) ∧ tl σ (upd H p (.dK [])) fun v3 H2 => H2 p = some (.dK []) ∧ ∃ kvs : List (L2.Key × V), [(V.str "large", v1), (V.str "rest", V.int 0), (V.str "cells", v3), (V.str "turn", V.int 0)] = kvs.map (fun kv => (kV kv.1, kv.2)) ∧ kvs.length ≤ 15 ∧ D.rt (.ref p) (upd H2 p (.dK (mergeK [] kvs)))) :
    tRet (tDisp [(tC (.str "large"), tVar 1), (tC (.str "rest"), tC (.int 0)), (tC (.str "cells"), tl), (tC (.str "turn"), tC (.int 0))]) D σ H := fun p hp => by
  obtain ⟨v1, h1, h2⟩ := h p hp
  exact ⟨v1, h1, h2⟩
theorem ok_begun {G : Pg} {k : Nat} (T : Tx G) {fa : Addr} {fd : FuncData} (F : FunD G.K "_law_begun" "_law_begun" (defArgs s__law_begun) (defBody s__law_begun) (defScope s__law_begun) [] [] fa fd) : FnOk G.P G.w G.K G.mg G.base (L2.CX G.P G.w) (k + 1) fa fd ["script"] (spBeg G.K G.T) := by
  obtain ⟨oc, od, dV, kV, doc, pm, an, cdv, ct, osl, e0, lk, hcd, _, _⟩ := F.ex
  subst e0
  refine fn_of lk hcd sc__law_begun (fun vs H Q E h => by obtain ⟨a, ns, rfl, _⟩ := h; rfl) fun A outer s H vs Q E hr h => ?_
  obtain ⟨a, ns, rfl, ha, hn, hT, q⟩ := h
  have tb := T.b
  have nd := sc__law_begun.nd
  have w0 : WOk ⟨G.T, none⟩ H := ⟨hT, fun d hd => by cases hd⟩
  have env0 : EnvOk G.K ⟨G.T, none⟩ [] [.im (.frz ns), .un, .un] (L2.start ["script", "large", "cell"] [.ref a]) H :=
    ⟨w0, fun a ha => by simp at ha, List.Pairwise.nil, fun a ha => by simp [ownA, L2.start] at ha, ⟨⟨.ref a, rfl, a, rfl, ExN.seqL (fun b o hb _ => hide_of (by simp [hidA, Wd.rg, ownA, L2.start]) hb) ha⟩, trivial, trivial, trivial⟩⟩
  refine ⟨_, pss_cons (ps_setLc (i := 1) (own := [("cell", 2)]) rfl nd rfl rfl rfl pi_any (blkOk_by rfl) (fun s H C cl fp => pg_name (i := 2) (X := BX _ _ s H C cl fp) nd rfl (.inl rfl) (.inr rfl)) (fun s H C cl fp => pts_one (pt_anyB s H C cl fp)) pe_anyB) (pss_one (ps_ret (pe_disp (pps_cons pe_str (pe_var (i := 1) rfl (.inl rfl)) (pps_cons pe_str pe_int (pps_cons pe_str (pe_lc (own := [("cell", 2)]) rfl nd pi_any (blkOk_by rfl) (fun s H C cl fp => pg_name (i := 2) (X := BX _ _ s H C cl fp) nd rfl (.inl rfl) (.inr rfl)) (fun _ _ _ _ _ => pts_nil) pe_anyB) (pps_cons pe_str pe_int pps_nil)))) rfl rfl (by simp) (by simp)))), ?_⟩
  refine seq_asg (lcIf_fresh (X := FX G ["script", "large", "cell"] "_law_begun" s__law_begun fa cdv A outer s H E) (δ := [.im (.frz ns), .un, .un]) (W := ⟨G.T, none⟩) (M := []) (wx := fun _ _ _ _ => False) (Ke := kx0) (t := .n 2) (own := [("cell", 2)]) (Kl := fun l => ∃ ms : List Int, l = ms.map D.int) env0 rfl (fun j hj => hj) ?_ (fun A1 H1 l e1 fr1 r1 k1 => ?_) (fun _ _ _ _ _ _ z => z.elim))
  · refine di_frz ?_
    walk_at "gl"
    refine ⟨ns, rfl, ?_⟩
    refine lc_filter bigF (by rw [List.length_map]; omega) (fun _ _ => trivial) (fun d hd A s H C cl fp => ?_) ⟨ns.filterMap bigG, bigF_map ns⟩
    obtain ⟨i, _, rfl⟩ := List.mem_map.mp hd
    walk_at "gl"
    refine ⟨⟨by decide, by decide +kernel⟩, ?_⟩
    refine And.intro (fun h => ?_) (fun h => ?_)
    · intro s H C cl fp
      walk_at "gl"
      refine ⟨⟨by decide, by decide +kernel⟩, ?_⟩
      walk_at "gl"
      exact if_pos h
    · exact if_neg (fun z => by
        have h' : decide ((10 : Int) ^ (18 : Int).toNat ≤ (if i < 0 then -i else i)) = false := h
        rw [h'] at z; cases z)
  · obtain ⟨ms, rfl⟩ := k1
    obtain ⟨A1', xs1, eA, hA1, r1'⟩ := r1
    cases eA
    cases ints_rep r1'
    have hA1 := (hide_some hA1).2
    refine disp4 fun p hp => ?_
    have e2 : Ext ⟨G.T, none⟩ H1 (upd H1 p (.dK [])) := Ext.new e1.ok hp
    refine ⟨.ref A1, rfl, ?_⟩
    refine lc_fresh (X := FX G ["script", "large", "cell"] "_law_begun" s__law_begun fa cdv A outer s H E) (δ := [.im (.frz ns), .un, .un]) (W := ⟨G.T, none⟩) (M := []) (wx := fun _ _ _ _ => False) (Ke := kx0) (t := .n 2) (own := [("cell", 2)]) (Kl := fun l => ∃ ms : List Int, l = ms.map D.int) (setUn (env0.ext (e1.trans e2))) rfl (fun j hj => hj) ?_ (fun A2 H2 l e3 fr3 r3 k3 => ?_) (fun _ _ _ _ _ _ z => z.elim)
    · refine di_frz ?_
      walk_at "gl"
      refine ⟨ns, rfl, ?_⟩
      refine lc_map absF (by rw [List.length_map]; omega) (fun _ _ => trivial) (fun d hd A s H C cl fp => ?_) ⟨ns.map fun i => if i < 0 then -i else i, absF_map ns⟩
      obtain ⟨i, _, rfl⟩ := List.mem_map.mp hd
      walk_at "gl"
      rfl
    · obtain ⟨ms2, rfl⟩ := k3
      obtain ⟨A2', xs2, eA, hA2, r3'⟩ := r3
      cases eA
      cases ints_rep r3'
      have hA2 := (hide_some hA2).2
      have h2p : H2 p = some (.dK []) := e3.keep p _ (by simp [Wd.rg]) upd_same fun _ z => by cases z
      have n1p : A1 ≠ p := fun z => by rw [z, hp] at hA1; cases hA1
      have n2p : A2 ≠ p := fun z => by rw [z, h2p] at hA2; cases hA2
      have hA1' : H2 A1 = some (.lst (ms.map V.int)) := e3.keep A1 _ (by simp [Wd.rg]) (by rw [upd_ne n1p]; exact hA1) fun _ z => by cases z
      have n12 : A1 ≠ A2 := fr3 A1 _ (by rw [upd_ne n1p]; exact hA1) fun _ z => by cases z
      have keep1 : ∀ b o, H b = some o → (∀ ps, o ≠ .tbl ps) → b ≠ p ∧ (upd H1 p (.dK [])) b = some o := fun b o hb nt => by
        have h1 := e1.keep b o (by simp [Wd.rg]) hb nt
        have np : b ≠ p := fun z => by rw [z, hp] at h1; cases h1
        exact ⟨np, by rw [upd_ne np]; exact h1⟩
      refine ⟨h2p, [(.inr "large", .ref A1), (.inr "rest", .int 0), (.inr "cells", .ref A2), (.inr "turn", .int 0)], rfl, by simp, ?_⟩
      rw [mergeK_new (by simp; decide) (fun _ _ => rfl), List.nil_append]
      refine q _ ⟨p, A1, A2, ms2⟩ (fun b o hb nt => ?_) (e3.ok.write h2p trivial (fun _ z => by cases z) (by simp [Wd.rg])).tabs (fun b o hb nt => ⟨(keep1 b o hb nt).1, fr1 b o hb nt, fr3 b o (keep1 b o hb nt).2 nt⟩) ⟨0, 0, ms, upd_same, by rw [upd_ne n1p]; exact hA1', by rw [upd_ne n2p]; exact hA2, n12⟩
      obtain ⟨np, h1⟩ := keep1 b o hb nt
      rw [upd_ne np]
      exact e3.keep b o (by simp [Wd.rg]) h1 nt
/-! ### _law_caught -/
abbrev s__law_caught : Stmt := top 56
theorem sc__law_caught : FnScope ["work", "caught", "error"] ["work"] (defScope s__law_caught) := ⟨rfl, rfl, rfl, by decide +kernel, rfl, by decide +kernel, by decide +kernel⟩
theorem caught_ok {X : Cx} {g CP : Addr} (hme : X.mg "PlateError" = some (.ref CP)) : ∀ (cdg : Value) (q : Str), LamX.GivesTo X ["work", "caught", "error"] "_law_caught" (defScope s__law_caught) g cdg (defBody s__law_caught) "work" q (TTc X.K CP) := fun cdg q =>
  caught_gives rfl (by decide) rfl rfl rfl hme (by decide) (by decide) (by decide) (by decide) (by decide) (fun _ => rfl) (fun _ => rfl) (fun _ => rfl)
structure CauF (K : PySem.W.Frag) (mg : Str → Option Value) (CP : Addr) : Prop where
  fn : ∃ g fd, mg "_law_caught" = some (.ref g) ∧ FunD K "_law_caught" "_law_caught" (defArgs s__law_caught) (defBody s__law_caught) (defScope s__law_caught) [] [] g fd
  pe : mg "PlateError" = some (.ref CP)
/-- what a def that writes lambdas needs: its code object, its table of code objects -/
structure LamF (G : Pg) (q : Str) (fd : FuncData) (c P : Addr) : Prop where
  code : fd.code = .ref c
  tab : LamX.TabB G.base G.mg c P
  mem : (P, (q ++ ".<locals>.") ++ "<lambda>") ∈ G.T
  only : ∀ p ∈ G.T, p.1 = P → p.2 = (q ++ ".<locals>.") ++ "<lambda>"
theorem dx_cau {X : Cx} {W : Wd} {M : List Addr} {wx : WX} {δ : De} {body : Expr} {Kp : KD} {Ke : KX} {pos p lpos : Pos} {k : Nat} {scope : Scope} {params : Arguments} {c P CP : Addr} (hC : CauF X.K X.mg CP) (TB : LamX.TabB X.base X.mg c P) (hcode : X.env.code = .ref c)
    (hmT : (P, X.env.qual ++ "<lambda>") ∈ W.T) (hu : ∀ p ∈ W.T, p.1 = P → p.2 = X.env.qual ++ "<lambda>") (hr : Room (k + 2) X.A) (hg : Gl X "_law_caught")
    (h : ∀ (A : Around) (outer : List Env) (s : Shared) (H : Hp) (E : XK) (f c' : Addr), Takes (LamX.lamCx X A outer s H E scope f c') (wxE E) → Room k (A.deeper (LamX.lamEnv X scope s.heap.objs.size f c')) →
      DE (LamX.lamCx X A outer s H E scope f c') W M (wxE E) δ body (fun _ => Kp .non) (fun y => y.fs = [] ∧ PySem.W.exmOne X.K (.ref y.C) (.ref CP) = some true ∧ Kp (.exc y.C [] [])))
    (L : LamX.lamSB X.env.scope scope = true) (hdef : defaultsOf params X.env = ([], [])) (hbind : ∀ (q : Str) (cl : List (Str × Addr)) (pm cv ctv : Value), bindArgs (PySem.W.kla_fn "<lambda>" q params body scope cl pm cv ctv) ⟨[], []⟩ = pure []) : DE X W M wx δ (.Call (.Name "_law_caught" p) [.Lambda params body scope lpos] [] pos) Kp Ke := by
  obtain ⟨g, fd, hm, F⟩ := hC.fn
  exact dx_caught (Ng := ["work", "caught", "error"]) (a := "work") hg hm F sc__law_caught rfl (.inl rfl) (fun _ _ _ _ _ _ us hl => match us, hl with | [_], _ => rfl) (caught_ok hC.pe) TB hcode hmT hu hr L hdef hbind fun A outer s H E f c' hr' => h A outer s H E f c' (takes_of rfl rfl rfl rfl) hr'
/-! ### the law of units -/
/-- what the laws' walks need of the making of units -/
structure UnW (G : Pg) (u : Ua) (k : Nat) : Prop where
  ini : FnI G u.C u.fI k ["self", "roots"] (f_init u)
  rts : FnA G u.gR 1 ["self"] (f_mroots u)
  mny : FnA G u.gM 1 ["self"] (f_mmany u)
  eql : FnA G u.fE k ["self", "other"] (f_meq u)
theorem roots_good {ns : List Int} (h : GoodR ns) (d : D) (hd : seqD d = some (ns.map D.int)) : rootsOf d = some ns := by
  have e1 : (ns.map D.int).all isRootD = true := by rw [List.all_map]; exact h.root
  rw [rootsOf, hd]
  show (if (ns.map D.int).length ≤ 2 ∧ (ns.map D.int).all isRootD = true then (match intsOf (ns.map D.int) with
    | some ns => if dup2 ns = ns.length then some ns else none
    | none => none) else none) = _
  rw [if_pos ⟨by rw [List.length_map]; exact h.len, e1⟩, intsOf_map]
  exact if_pos (dup2_nodup h.nd)
theorem init_good {u : Ua} {ns : List Int} (h : GoodR ns) {d : D} (hd : d = .lst (ns.map D.int) ∨ d = .tup (ns.map D.int)) {Kf : List Str → List D → Prop} {Ke : KX} (k : Kf ["u_roots"] [.tup (ns.map D.int)]) : f_init u [d] Kf Ke := by
  have pl_i : plL (ns.map D.int) = true := okdL_pl 60 _ (okdL_iff.mpr fun d hd => by
    obtain ⟨n, _, rfl⟩ := List.mem_map.mp hd
    rfl)
  rcases hd with rfl | rfl
  · refine ⟨_, rfl, pl_i, (fun ms e => by cases e), ?_⟩
    rw [roots_good h _ rfl]; exact k
  · refine ⟨_, rfl, pl_i, (fun ms e => ?_), ?_⟩
    · have e2 : ns.map D.int = ms.map D.int := by injection e
      have e3 : ns = ms := by
        have := congrArg intsOf e2
        rw [intsOf_map, intsOf_map] at this
        exact Option.some.inj this
      rw [← e3]; exact h.nd
    · rw [roots_good h _ rfl]; exact k
theorem kw_init {G : Pg} {u : Ua} (U : UnF G u) : ∀ fd, (∃ x q st, FunD G.K x q (defArgs st) (defBody st) (defScope st) [] [] u.fI fd) → ∀ (s : Shared) (self : Value) (ws : List Value), G.K.In s.heap → ws.length = (["roots"] : List Str).length → BindsTo s fd ⟨[self], (["roots"] : List Str).zip ws⟩ ((["self", "roots"] : List Str).zip (self :: ws)) := by
  intro fd ⟨x, q, st, F⟩ s self ws hk hl
  obtain ⟨fd', F'⟩ := U.fi
  obtain ⟨oc, od, dV, kV, doc, pm, an, cdv, ct, osl, e, lk, _⟩ := F.ex
  obtain ⟨oc', od', dV', kV', doc', pm', an', cdv', ct', osl', e', lk', hcd', hD', hK'⟩ := F'.ex
  rw [lk] at lk'
  cases lk'
  rw [e']
  rcases hD' with ⟨_, rfl⟩ | ⟨z, _⟩
  · match ws, hl with
    | [w], _ => exact .of_eq rfl
  · exact absurd rfl z
theorem size_ints : ∀ ns : List Int, sizeL (ns.map D.int) = ns.length
  | [] => rfl
  | n :: ns => by
    rw [List.map_cons, sizeL, size_ints ns, List.length_cons]
    simp only [sizeD]; omega
theorem deq_intsL (ns ms : List Int) : deq (.lst (ns.map D.int)) (.lst (ms.map D.int)) = decide (ns = ms) := by
  have := deq_ints ns ms
  rw [← this]
  simp only [deq, Lay.py]
  cases pyL (ns.map D.int) <;> cases pyL (ms.map D.int) <;> simp [PyData.eqv]
theorem okd_intsL (ns : List Int) : okd 1 (.lst (ns.map D.int)) = true := okd_ints ns
theorem deq_bl (a b : Bool) : deq (.bl a) (.bl b) = decide (a = b) := by cases a <;> cases b <;> decide +kernel
theorem dok_bl (a : Bool) : dok (.bl a) = true := by cases a <;> decide +kernel
theorem rootsOf_one (n : Int) : rootsOf (.lst [.int n]) = if isRoot n = true then some [n] else none := by
  show (if ([D.int n] : List D).length ≤ 2 ∧ [D.int n].all isRootD = true then (if dup2 [n] = [n].length then some [n] else none) else none) = _
  have e : [D.int n].all isRootD = isRoot n := by simp [isRootD]
  have e2 : dup2 [n] = [n].length := dup2_nodup (by simp)
  rw [e, if_pos e2]
  by_cases h : isRoot n = true
  · rw [if_pos ⟨by simp, h⟩, if_pos h]
  · rw [if_neg (fun z => h z.2), if_neg h]
/-- none of these roots can be drawn -/
structure BadD (x : D) : Prop where
  pl : pl x = true
  no : rootsOf x = none
  nt : ∀ l, x ≠ .tup l
def menuU : List (List Int) := [[], [2], [3], [2, 3], [3, 2], [2, 5]]
theorem menuU_good : ∀ ns ∈ menuU, GoodR ns := by
  intro ns h
  simp only [menuU, List.mem_cons, List.mem_nil_iff, or_false] at h
  rcases h with rfl | rfl | rfl | rfl | rfl | rfl <;> exact ⟨by decide, by decide +kernel, by decide⟩
/-- an exception class: raised, caught, asked of -/
structure XF (G : Pg) (CP C : Addr) : Prop where
  c : ExcC G.K C
  k : PySem.W.kitOne G.K (.ref C) (.ref C) = some true
  m : PySem.W.exmOne G.K (.ref C) (.ref CP) = some true
  b : clsB G.K C = true
def f__law_units_right (u : Ua) : FS := fun ds Kp _ => as1 (fun d => d = .drw ∧ Kp (.bl true)) ds
/-! ### sums: plain laws -/
theorem gcdI_scale {c x y : Int} (hc : 0 < c) : gcdI (c * x) (c * y) = c * gcdI x y := by
  show ((Nat.gcd (c * x).natAbs (c * y).natAbs : Nat) : Int) = c * ((Nat.gcd x.natAbs y.natAbs : Nat) : Int)
  rw [Int.natAbs_mul, Int.natAbs_mul, Nat.gcd_mul_left, Int.natCast_mul]
  have : ((c.natAbs : Nat) : Int) = c := by omega
  rw [this]
theorem pairP_scale {c x y : Int} (hc : 0 < c) : pairP (c * x) (c * y) = pairP x y := by
  unfold pairP
  rw [gcdI_scale hc, Int.mul_ediv_mul_of_pos _ _ hc, Int.mul_ediv_mul_of_pos _ _ hc]
theorem pairP_self {n : Nat} {x : Int × Int} (h : GoodP n x) : pairP x.1 x.2 = x := by
  have hr := h.rat
  have : gcdI x.1 x.2 = 1 := by
    have h2 : (decide (0 < x.2) && (gcdI x.1 x.2 == 1)) = true := hr
    simp only [Bool.and_eq_true, beq_iff_eq] at h2
    exact h2.2
  unfold pairP
  rw [this, Int.ediv_one, Int.ediv_one]
theorem plusP_nought {n : Nat} {x : Int × Int} (h : GoodP n x) : plusP (0, 1) x = x := by
  show pairP (0 * x.2 + x.1 * 1) (1 * x.2) = x
  rw [Int.zero_mul, Int.zero_add, Int.mul_one, Int.one_mul]
  exact pairP_self h
theorem pairP_dvd {u b : Int} : ∃ g u' b', u = g * u' ∧ b = g * b' ∧ g = gcdI u b := by
  obtain ⟨u', hu⟩ : gcdI u b ∣ u := Int.ofNat_dvd_left.mpr (Nat.gcd_dvd_left _ _)
  obtain ⟨b', hb⟩ : gcdI u b ∣ b := Int.ofNat_dvd_left.mpr (Nat.gcd_dvd_right _ _)
  exact ⟨gcdI u b, u', b', hu, hb, rfl⟩
theorem plusP_step {u a b : Int} (hb : 0 < b) : plusP (pairP u b) (a, b) = pairP (u + a) b := by
  have hg := gcdI_pos (x := u) hb
  obtain ⟨u', hu⟩ : gcdI u b ∣ u := Int.ofNat_dvd_left.mpr (Nat.gcd_dvd_left _ _)
  obtain ⟨b', hb'⟩ : gcdI u b ∣ b := Int.ofNat_dvd_left.mpr (Nat.gcd_dvd_right _ _)
  have e1 : u / gcdI u b = u' := by
    conv => lhs; rw [show u / gcdI u b = (gcdI u b * u') / gcdI u b from by rw [← hu]]
    exact Int.mul_ediv_cancel_left _ (by omega)
  have e2 : b / gcdI u b = b' := by
    conv => lhs; rw [show b / gcdI u b = (gcdI u b * b') / gcdI u b from by rw [← hb']]
    exact Int.mul_ediv_cancel_left _ (by omega)
  have hb0 : 0 < b' := by
    rw [hb'] at hb
    exact Int.pos_of_mul_pos_right hb (by omega)
  show pairP ((u / gcdI u b) * b + a * (b / gcdI u b)) ((b / gcdI u b) * b) = _
  rw [e1, e2]
  have e3 : u' * b + a * b' = b' * (u + a) := by
    conv => lhs; rw [hb']
    conv => rhs; rw [hu]
    generalize gcdI u b = g
    rw [Int.mul_add, Int.mul_comm a b', Int.mul_left_comm u' g b', Int.mul_left_comm b' g u', Int.mul_comm u' b']
  rw [e3]
  exact pairP_scale hb0
theorem pairP_zero {b : Int} (hb : 0 < b) : pairP 0 b = (0, 1) := by
  have : gcdI 0 b = b := by
    show ((Nat.gcd 0 b.natAbs : Nat) : Int) = b
    rw [Nat.gcd_zero_left]; omega
  unfold pairP
  rw [this, Int.zero_ediv, Int.ediv_self (by omega)]
theorem zw_map {α β : Type} (f : α → α → α) (g : α → α) : ∀ l : List α, List.zipWith f (l.map g) l = l.map fun x => f (g x) x
  | [] => rfl
  | x :: l => by rw [List.map_cons, List.zipWith_cons_cons, zw_map (β := β) f g l, List.map_cons]
theorem rep_map {α β : Type} (c : β) : ∀ l : List α, List.replicate l.length c = l.map fun _ => c
  | [] => rfl
  | x :: l => by rw [List.length_cons, List.replicate_succ, rep_map c l, List.map_cons]
theorem sumL_succ {n : Nat} {ls : List (List (Int × Int))} {p : List (Int × Int)} : sumL n (ls ++ [p]) = List.zipWith plusP (sumL n ls) p := by
  unfold sumL
  rw [List.foldl_append]; rfl
theorem sumL_rep {p : List (Int × Int)} (h : ∀ x ∈ p, 0 < x.2) : ∀ k : Nat, sumL p.length (List.replicate k p) = p.map fun x => pairP (k * x.1) x.2
  | 0 => by
    show List.replicate p.length ((0 : Int), (1 : Int)) = _
    rw [rep_map]
    refine List.map_congr_left fun x hx => ?_
    rw [show ((0 : Nat) : Int) * x.1 = 0 by simp, pairP_zero (h x hx)]
  | k + 1 => by
    rw [List.replicate_succ', sumL_succ, sumL_rep h k, zw_map (β := Int × Int)]
    refine List.map_congr_left fun x hx => ?_
    show plusP (pairP (k * x.1) x.2) (x.1, x.2) = _
    rw [plusP_step (h x hx)]
    congr 1
    rw [Int.natCast_succ, Int.add_mul, Int.one_mul]
theorem rep_take {α : Type} {p : α} (k i : Nat) : (List.replicate k p).take i = List.replicate (min i k) p := by
  rw [List.take_replicate]
theorem sumOk_rep {p : List (Int × Int)} (hn : p.length ≤ 3) (h : ∀ x ∈ p, GoodP 998 x) : SumOk p.length (List.replicate 400 p) := by
  have h0 : ∀ x ∈ p, 0 < x.2 := fun x hx => (h x hx).ok.pos
  refine ⟨fun q hq x hx => ?_, fun i x hx => ?_, fun i => ?_⟩
  · rw [(List.mem_replicate.mp hq).2] at hx
    exact (h x hx).ok.mono (by decide)
  · rw [rep_take, sumL_rep h0] at hx
    obtain ⟨y, hy, rfl⟩ := List.mem_map.mp hx
    have hy2 := (h y hy).ok
    have hi : min i 400 ≤ 400 := Nat.min_le_right _ _
    have s1 : sz 1007 (((min i 400 : Nat) : Int) * y.1) := by
      have : sz 9 (((min i 400 : Nat) : Int)) := by
        show (((min i 400 : Nat) : Int)).natAbs < 2 ^ 9
        omega
      exact (sz.mul this hy2.up).mono (by decide)
    exact (pairP_good hy2.pos s1 (hy2.dn.mono (by decide))).ok.mono (by decide)
  · rw [rep_take, sumL_rep h0, List.length_map]; exact hn
theorem times400 {p : List (Int × Int)} : (p.map fun x => timesP x (400, 1)) = p.map fun x => pairP (((400 : Nat) : Int) * x.1) x.2 := by
  refine List.map_congr_left fun x _ => ?_
  show pairP (x.1 * 400) (x.2 * 1) = _
  rw [Int.mul_one, Int.mul_comm]
  rfl
theorem sum400 {p : List (Int × Int)} (h : ∀ x ∈ p, GoodP 998 x) : sumL p.length (List.replicate 400 p) = p.map fun x => timesP x (400, 1) := by
  rw [times400]
  exact sumL_rep (fun x hx => (h x hx).ok.pos) 400
theorem plusP_good {n : Nat} {x y : Int × Int} (h : OkP n x) (g : OkP n y) : GoodP (n + n + 1) (plusP x y) :=
  pairP_good (Int.mul_pos h.pos g.pos) ((h.up.mul g.dn).add (g.up.mul h.dn)) ((h.dn.mul g.dn).mono (by omega))
theorem minusP_good {n : Nat} {x y : Int × Int} (h : OkP n x) (g : OkP n y) : GoodP (n + n + 1) (minusP x y) :=
  pairP_good (Int.mul_pos h.pos g.pos) ((h.up.mul g.dn).sub (g.up.mul h.dn)) ((h.dn.mul g.dn).mono (by omega))
theorem timesP_good {n : Nat} {x y : Int × Int} (h : OkP n x) (g : OkP n y) : GoodP (n + n) (timesP x y) :=
  pairP_good (Int.mul_pos h.pos g.pos) (h.up.mul g.up) (h.dn.mul g.dn)
theorem zw_mem {α : Type} {f : α → α → α} : ∀ {l m : List α} {z : α}, z ∈ List.zipWith f l m → ∃ x ∈ l, ∃ y ∈ m, z = f x y
  | [], _, z, h => by simp at h
  | _ :: _, [], z, h => by simp at h
  | x :: l, y :: m, z, h => by
    rw [List.zipWith_cons_cons] at h
    rcases List.mem_cons.mp h with rfl | h
    · exact ⟨x, by simp, y, by simp, rfl⟩
    · obtain ⟨a, ha, b, hb, e⟩ := zw_mem h
      exact ⟨a, List.mem_cons_of_mem _ ha, b, List.mem_cons_of_mem _ hb, e⟩
theorem zw_ok {n : Nat} {p q : List (Int × Int)} (h : ∀ x ∈ p, OkP n x) (g : ∀ x ∈ q, OkP n x) : ∀ x ∈ List.zipWith plusP p q, OkP (n + n + 1) x := fun z hz => by
  obtain ⟨x, hx, y, hy, rfl⟩ := zw_mem hz
  exact (plusP_good (h x hx) (g y hy)).ok
theorem zw_nought : ∀ {p : List (Int × Int)}, (∀ x ∈ p, GoodP 998 x) → List.zipWith plusP (List.replicate p.length (0, 1)) p = p
  | [], _ => rfl
  | x :: p, h => by
    rw [List.length_cons, List.replicate_succ, List.zipWith_cons_cons, zw_nought fun y hy => h y (List.mem_cons_of_mem _ hy), plusP_nought (h x List.mem_cons_self)]
theorem sum3 {n : Nat} {p q r : List (Int × Int)} (hp : p.length = n) (h : ∀ x ∈ p, GoodP 998 x) : sumL n [p, q, r] = List.zipWith plusP (List.zipWith plusP p q) r := by
  subst hp
  show List.zipWith plusP (List.zipWith plusP (List.zipWith plusP (List.replicate p.length (0, 1)) p) q) r = _
  rw [zw_nought h]
theorem ok01 : OkP 4000 ((0 : Int), (1 : Int)) := ⟨by decide, Nat.pow_pos (by decide), Nat.one_lt_two_pow (by decide)⟩
theorem sumOk0 {n : Nat} (hn : n ≤ 3) : SumOk n [] := ⟨fun _ h => by simp at h, fun i x hx => by
  rw [List.take_nil] at hx
  have hx : x ∈ List.replicate n ((0 : Int), (1 : Int)) := hx
  rw [(List.mem_replicate.mp hx).2]
  exact ok01, fun i => by
  rw [List.take_nil]
  show (List.replicate n ((0 : Int), (1 : Int))).length ≤ 3
  rw [List.length_replicate]; exact hn⟩
theorem sumOk3 {n : Nat} {p q r : List (Int × Int)} (hn : n ≤ 3) (hp : p.length = n) (h : ∀ x ∈ p, GoodP 998 x) (g : ∀ x ∈ q, GoodP 998 x) (f : ∀ x ∈ r, GoodP 998 x) : SumOk n [p, q, r] := by
  have a0 : ∀ x ∈ List.replicate n ((0 : Int), (1 : Int)), OkP 4000 x := fun x hx => by
    rw [(List.mem_replicate.mp hx).2]
    exact ok01
  have e1 : List.zipWith plusP (List.replicate n (0, 1)) p = p := by rw [← hp]; exact zw_nought h
  have hp' : ∀ x ∈ p, OkP 998 x := fun x hx => (h x hx).ok
  have hq' : ∀ x ∈ q, OkP 998 x := fun x hx => (g x hx).ok
  have a2 := zw_ok hp' hq'
  have a3 := zw_ok (n := 1997) a2 (fun x hx => (f x hx).ok.mono (by decide))
  have t : ∀ i, sumL n ([p, q, r].take i) = List.replicate n (0, 1) ∨ sumL n ([p, q, r].take i) = p ∨ sumL n ([p, q, r].take i) = List.zipWith plusP p q ∨ sumL n ([p, q, r].take i) = List.zipWith plusP (List.zipWith plusP p q) r := fun i => by
    match i with
    | 0 => exact .inl rfl
    | 1 => exact .inr (.inl e1)
    | 2 => exact .inr (.inr (.inl (by show List.zipWith plusP (List.zipWith plusP (List.replicate n (0, 1)) p) q = _; rw [e1])))
    | i + 3 =>
      rw [show [p, q, r].take (i + 3) = [p, q, r] from List.take_of_length_le (by simp)]
      exact .inr (.inr (.inr (by show List.zipWith plusP (List.zipWith plusP (List.zipWith plusP (List.replicate n (0, 1)) p) q) (r) = _; rw [e1])))
  refine ⟨fun l hl x hx => ?_, fun i x hx => ?_, fun i => ?_⟩
  · simp only [List.mem_cons, List.mem_nil_iff, or_false] at hl
    rcases hl with rfl | rfl | rfl
    · exact (h x hx).ok.mono (by decide)
    · exact (g x hx).ok.mono (by decide)
    · exact (f x hx).ok.mono (by decide)
  · rcases t i with e | e | e | e <;> rw [e] at hx
    · exact a0 x hx
    · exact (h x hx).ok.mono (by decide)
    · exact (a2 x hx).mono (by decide)
    · exact (a3 x hx).mono (by decide)
  · rcases t i with e | e | e | e <;> rw [e]
    · rw [List.length_replicate]; exact hn
    · omega
    · rw [List.length_zipWith]; omega
    · rw [List.length_zipWith, List.length_zipWith]; omega
/-- a given length -/
def GivenD (n : Nat) (d : D) : Prop := ∃ l, seqD d = some l ∧ l.length = n ∧ ∀ x ∈ l, GivOk x
theorem givs {l : List D} (h : ∀ x ∈ l, GivOk x) : ∃ p : List (Int × Int), l.map asRat = p.map ratP ∧ p.length = l.length ∧ ∀ x ∈ p, GoodP 998 x ∧ isGiv (ratP x) = true := by
  induction l with
  | nil => exact ⟨[], rfl, rfl, fun x hx => by simp at hx⟩
  | cons d l ih =>
    obtain ⟨p, h1, h2, h3⟩ := ih fun x hx => h x (List.mem_cons_of_mem _ hx)
    obtain ⟨hg, ho, y, e, gy⟩ := h d List.mem_cons_self
    refine ⟨y :: p, by rw [List.map_cons, List.map_cons, h1, e], by simp [h2], fun x hx => ?_⟩
    rcases List.mem_cons.mp hx with rfl | hx
    · refine ⟨gy, ?_⟩
      show (isRat (ratP x) && few x.1 x.2) = true
      rw [gy.rat, Bool.true_and]
      unfold isGiv at hg
      split at hg
      · rename_i i
        have e2 : rat i 1 = ratP x := e
        have e3 : i = x.1 ∧ (1 : Int) = x.2 := by
          injection e2 with e2
          injection e2 with a b
          injection a with a
          injection b with b
          injection b with b
          exact ⟨a, b⟩
        rw [← e3.1, ← e3.2]
        show (few1 i && few1 1) = true
        rw [hg]; decide +kernel
      · rename_i i j
        have e2 : rat i j = ratP x := e
        have e3 : i = x.1 ∧ j = x.2 := by
          injection e2 with e2
          injection e2 with a b
          injection a with a
          injection b with b
          injection b with b
          exact ⟨a, b⟩
        rw [← e3.1, ← e3.2]
        simp only [Bool.and_eq_true] at hg
        exact hg.2
      · cases hg
    · exact h3 x hx
/-- what is known of a given length d: its ratios p -/
structure GivenP (n : Nat) (d : D) (p : List (Int × Int)) : Prop where
  is : isLen n d = true
  pl : pl d = true
  th : ThingOk d
  sh : ∀ l, seqD d = some l → l.length = n
  of : lenOf d = lenD p
  sq : ∃ l, seqD d = some l ∧ l.map asRat = p.map ratP
  len : p.length = n
  good : ∀ x ∈ p, GoodP 998 x
  isP : isLen n (lenD p) = true
theorem okd_lenD (p : List (Int × Int)) : okd 3 (lenD p) = true := okd_mono (okd_tup (n := 1) |>.mpr fun d hd => by
  obtain ⟨x, _, rfl⟩ := List.mem_map.mp hd
  rfl) (by decide)
theorem plD_len (p : List (Int × Int)) : pl (lenD p) = true := okd_pl 3 _ (okd_lenD p)
theorem givenP {n : Nat} {d : D} (h : GivenD n d) : ∃ p, GivenP n d p := by
  obtain ⟨l, hs, hl, hg⟩ := h
  obtain ⟨p, h1, h2, h3⟩ := givs hg
  have hpl : plL l = true := okdL_pl 2 l (okdL_iff.mpr fun x hx => (hg x hx).ok)
  have hd : pl d = true := by cases d <;> first | (cases hs; done) | (cases hs; exact hpl)
  refine ⟨p, ?_, hd, ⟨pl_prim hd, fun m hm => ?_⟩, fun m hm => ?_, ?_, ⟨l, hs, h1⟩, by omega, fun x hx => (h3 x hx).1, ?_⟩
  · unfold isLen
    rw [hs]
    simp only [Bool.and_eq_true, beq_iff_eq, List.all_eq_true]
    exact ⟨hl, fun x hx => (hg x hx).giv⟩
  · rw [hs] at hm; cases hm
    exact fun x hx => okd_mono (hg x hx).ok (by decide)
  · rw [hs] at hm; cases hm; exact hl
  · rw [lenOf_seq hs, h1]; rfl
  · unfold isLen
    show ((p.map ratP).length == n && (p.map ratP).all isGiv) = true
    simp only [Bool.and_eq_true, beq_iff_eq, List.all_eq_true, List.length_map]
    refine ⟨by omega, fun x hx => ?_⟩
    obtain ⟨y, hy, rfl⟩ := List.mem_map.mp hx
    exact (h3 y hy).2
theorem givenP_len {n : Nat} {d : D} {p : List (Int × Int)} (h : GivenP n d p) : GivenP n (lenD p) p := by
  have e : (p.map ratP).map asRat = p.map ratP := by rw [List.map_map]; rfl
  refine ⟨h.isP, plD_len p, ⟨rfl, fun m hm => ?_⟩, fun m hm => ?_, ?_, ⟨_, rfl, e⟩, h.len, h.good, h.isP⟩
  · cases hm
    intro x hx
    obtain ⟨y, _, rfl⟩ := List.mem_map.mp hx
    rfl
  · cases hm; rw [List.length_map]; exact h.len
  · rw [lenOf_seq rfl, e]; rfl
def f__law_given2 : FS := fun ds Kp _ => ∃ ns : List Int, ds = [.drw, .lst (ns.map D.int)] ∧ ns.length ≤ 2 ∧ ∀ d p, GivenP (ns.length + 1) d p → Kp d
theorem given2 {G : Pg} {k : Nat} (h : Fn G "_law_given" k ["draw", "roots"] f__law_given) : Fn G "_law_given" k ["draw", "roots"] f__law_given2 := h.imp fun ds Kp Ke ⟨ns, e, hn, k⟩ => ⟨ns, e, hn, fun l hl hg => by
  obtain ⟨p, gp⟩ := givenP (n := ns.length + 1) (d := .tup l) ⟨l, rfl, hl, hg⟩
  obtain ⟨q, gq⟩ := givenP (n := ns.length + 1) (d := .lst l) ⟨l, rfl, hl, hg⟩
  exact ⟨k _ p gp, k _ q gq⟩⟩
/-! ### areas of the package -/
theorem b2i_sgn (a : Int) : b2i (decide (a > 0)) - b2i (decide (a < 0)) = (if 0 < a then 1 else if a < 0 then -1 else 0) := by
  unfold b2i
  by_cases h : 0 < a
  · rw [if_pos h, if_pos (decide_eq_true h), if_neg (by simp; omega)]; rfl
  · rw [if_neg h, if_neg (by simp; omega)]
    by_cases g : a < 0
    · rw [if_pos g, if_pos (decide_eq_true g)]; rfl
    · rw [if_neg g, if_neg (by simp; omega)]; rfl
/-- the sign of a number -/
def sgI (a : Int) : Int := if 0 < a then 1 else if a < 0 then -1 else 0
theorem sgI_3 (a : Int) : sgI a = 1 ∨ sgI a = 0 ∨ sgI a = -1 := by
  unfold sgI
  split
  · exact .inl rfl
  · split
    · exact .inr (.inr rfl)
    · exact .inr (.inl rfl)
theorem OkP.szr {n : Nat} {x y : Int} (h : 0 < y) (hx : sz n x) (hy : sz n y) : OkP n (pairP x y) := by
  have gy : gcdI x y ∣ y := Int.ofNat_dvd_left.mpr (Nat.gcd_dvd_right _ _)
  have gx : gcdI x y ∣ x := Int.ofNat_dvd_left.mpr (Nat.gcd_dvd_left _ _)
  have g0 := gcdI_pos (x := x) h
  refine ⟨Int.ediv_pos_of_pos_of_dvd h (by omega) gy, ?_, ?_⟩
  · show (x / gcdI x y).natAbs < _
    rw [Int.natAbs_ediv_of_dvd gx]
    exact Nat.lt_of_le_of_lt (Nat.div_le_self _ _) hx
  · show (y / gcdI x y).natAbs < _
    rw [Int.natAbs_ediv_of_dvd gy]
    exact Nat.lt_of_le_of_lt (Nat.div_le_self _ _) hy
theorem timesP_ok {n m : Nat} {x y : Int × Int} (h : OkP n x) (g : OkP m y) : OkP (n + m) (timesP x y) := OkP.szr (Int.mul_pos h.pos g.pos) (h.up.mul g.up) (h.dn.mul g.dn)
theorem plusP_ok {n : Nat} {x y : Int × Int} (h : OkP n x) (g : OkP n y) : OkP (n + n + 1) (plusP x y) :=
  OkP.szr (Int.mul_pos h.pos g.pos) ((h.up.mul g.dn).add (g.up.mul h.dn)) ((h.dn.mul g.dn).mono (by omega))
theorem minusP_ok {n : Nat} {x y : Int × Int} (h : OkP n x) (g : OkP n y) : OkP (n + n + 1) (minusP x y) :=
  OkP.szr (Int.mul_pos h.pos g.pos) ((h.up.mul g.dn).sub (g.up.mul h.dn)) ((h.dn.mul g.dn).mono (by omega))
/-- numbers of a ratio below 2 ^ a, 2 ^ d -/
structure OkQ (a d : Nat) (x : Int × Int) : Prop where
  pos : 0 < x.2
  up : sz a x.1
  dn : sz d x.2
theorem OkQ.mono {a d b e : Nat} {x : Int × Int} (h : OkQ a d x) (g : a ≤ b) (k : d ≤ e) : OkQ b e x := ⟨h.pos, h.up.mono g, h.dn.mono k⟩
theorem OkQ.ok {a d n : Nat} {x : Int × Int} (h : OkQ a d x) (g : a ≤ n) (k : d ≤ n) : OkP n x := ⟨h.pos, h.up.mono g, h.dn.mono k⟩
theorem OkQ.szr {a d : Nat} {x y : Int} (h : 0 < y) (hx : sz a x) (hy : sz d y) : OkQ a d (pairP x y) := by
  have gy : gcdI x y ∣ y := Int.ofNat_dvd_left.mpr (Nat.gcd_dvd_right _ _)
  have gx : gcdI x y ∣ x := Int.ofNat_dvd_left.mpr (Nat.gcd_dvd_left _ _)
  have g0 := gcdI_pos (x := x) h
  refine ⟨Int.ediv_pos_of_pos_of_dvd h (by omega) gy, ?_, ?_⟩
  · show (x / gcdI x y).natAbs < _
    rw [Int.natAbs_ediv_of_dvd gx]
    exact Nat.lt_of_le_of_lt (Nat.div_le_self _ _) hx
  · show (y / gcdI x y).natAbs < _
    rw [Int.natAbs_ediv_of_dvd gy]
    exact Nat.lt_of_le_of_lt (Nat.div_le_self _ _) hy
theorem timesQ {a d b e : Nat} {x y : Int × Int} (h : OkQ a d x) (g : OkQ b e y) : OkQ (a + b) (d + e) (timesP x y) := OkQ.szr (Int.mul_pos h.pos g.pos) (h.up.mul g.up) (h.dn.mul g.dn)
theorem plusQ {a d b e n : Nat} {x y : Int × Int} (h : OkQ a d x) (g : OkQ b e y) (h1 : a + e ≤ n) (h2 : b + d ≤ n) : OkQ (n + 1) (d + e) (plusP x y) :=
  OkQ.szr (Int.mul_pos h.pos g.pos) (((h.up.mul g.dn).mono h1).add ((g.up.mul h.dn).mono h2)) (h.dn.mul g.dn)
theorem minusQ {a d b e n : Nat} {x y : Int × Int} (h : OkQ a d x) (g : OkQ b e y) (h1 : a + e ≤ n) (h2 : b + d ≤ n) : OkQ (n + 1) (d + e) (minusP x y) :=
  OkQ.szr (Int.mul_pos h.pos g.pos) (((h.up.mul g.dn).mono h1).sub ((g.up.mul h.dn).mono h2)) (h.dn.mul g.dn)
theorem OkP.q {n : Nat} {x : Int × Int} (h : OkP n x) : OkQ n n x := ⟨h.pos, h.up, h.dn⟩
def f_sign_of : FS := fun ds Kp _ => ∃ a b, ds = [rat a b] ∧ Kp (.int (sgI a))
abbrev s_sign_of : Stmt := top 21
theorem sc_sign_of : FnScope ["one"] ["one"] (defScope s_sign_of) := ⟨rfl, rfl, rfl, by decide +kernel, rfl, by decide +kernel, by decide +kernel⟩
theorem ok_sign_of {G : Pg} {k : Nat} (T : Tx G) (h : At G "sign_of" s_sign_of) : Fn G "sign_of" (k + 1) ["one"] f_sign_of := by
  obtain ⟨fa, fd, F, hm⟩ := h
  refine Fn.of F hm sc_sign_of (fun _ _ _ _ _ _ us hl => match us, hl with | [_], _ => rfl) ?_
  intro cdv A outer s H E dr M ds Kp Ke tk po hr hl hf
  have tb := T.b
  have nd := sc_sign_of.nd
  obtain ⟨a, b, rfl, k⟩ := hf
  refine ds_cons (ds_ret (dx_op od_subB ?_))
  walk_at "go"
  show Kp (.int (b2i (decide (a > 0)) - b2i (decide (a < 0))))
  rw [b2i_sgn]
  exact k
/-- the sign of w + t * the root of r, as the program takes it -/
def twoS (r : Int) (w t : Int × Int) : Int :=
  if 0 ≤ sgI w.1 * sgI t.1 then (if sgI w.1 ≠ 0 then sgI w.1 else sgI t.1)
  else sgI w.1 * sgI (minusP (timesP w w) (timesP (r, 1) (timesP t t))).1
def f_two_sign : FS := fun ds Kp _ => ∃ w t r, ds = [ratP w, ratP t, .int r] ∧ OkQ 770 730 w ∧ OkQ 770 730 t ∧ sz 7 r ∧ Kp (.int (twoS r w t))
abbrev s_two_sign : Stmt := top 22
theorem sc_two_sign : FnScope ["whole", "times_root", "root", "one", "other"] ["whole", "times_root", "root"] (defScope s_two_sign) := ⟨rfl, rfl, rfl, by decide +kernel, rfl, by decide +kernel, by decide +kernel⟩
theorem ok_two_sign {G : Pg} {k : Nat} (T : Tx G) (h : At G "two_sign" s_two_sign) (c_sign_of : Fn G "sign_of" k ["one"] f_sign_of) (c_minus : Fn G "minus" k ["one", "other"] f_minus) (c_times : Fn G "times" k ["one", "other"] f_times) : Fn G "two_sign" (k + 1) ["whole", "times_root", "root"] f_two_sign := by
  obtain ⟨fa, fd, F, hm⟩ := h
  refine Fn.of F hm sc_two_sign (fun _ _ _ _ _ _ us hl => match us, hl with | [_, _, _], _ => rfl) ?_
  intro cdv A outer s H E dr M ds Kp Ke tk po hr hl hf
  have tb := T.b
  have nd := sc_two_sign.nd
  obtain ⟨w, t, r, rfl, hw, ht, hr7, k⟩ := hf
  have ww := timesQ hw hw
  have tt := timesQ ht ht
  have rr : OkQ 7 1 (r, (1 : Int)) := ⟨by show (0 : Int) < 1; decide, hr7, by show (1 : Int).natAbs < 2 ^ 1; decide⟩
  have rt := timesQ rr tt
  unfold twoS at k
  walk_at "go"
  refine ⟨w.1, w.2, rfl, ?_⟩
  walk_at "go"
  refine ⟨t.1, t.2, rfl, ?_⟩
  walk_at "go"
  have cm : CMulD (sgI w.1) (sgI t.1) := .inl (.inl (by rcases sgI_3 w.1 with e | e | e <;> rw [e] <;> decide))
  refine ⟨cm, ?_⟩
  walk_at "go"
  by_cases h : 0 ≤ sgI w.1 * sgI t.1
  · rw [if_pos h] at k
    refine brT (decide_eq_true h) ?_
    walk_at "go"
    by_cases g : sgI w.1 = 0
    · rw [if_neg (fun z => z g)] at k
      refine ⟨fun z => ?_, fun _ => ?_⟩
      · rw [g] at z; cases z
      · walk_at "go"
        exact k
    · rw [if_pos g] at k
      refine ⟨fun _ => ?_, fun z => ?_⟩
      · walk_at "go"
        exact k
      · exact absurd (by simpa using z) g
  · rw [if_neg h] at k
    refine brF (decide_eq_false h) ?_
    walk_at "go"
    refine ⟨w.1, w.2, w.1, w.2, rfl, hw.pos, hw.pos, hw.up.mono (by decide), hw.dn.mono (by decide), hw.up.mono (by decide), hw.dn.mono (by decide), ?_⟩
    walk_at "gl"
    refine ⟨t.1, t.2, t.1, t.2, rfl, ht.pos, ht.pos, ht.up.mono (by decide), ht.dn.mono (by decide), ht.up.mono (by decide), ht.dn.mono (by decide), ?_⟩
    walk_at "go"
    refine ⟨r, 1, (timesP t t).1, (timesP t t).2, rfl, rr.pos, tt.pos, rr.up.mono (by decide), rr.dn.mono (by decide), tt.up.mono (by decide), tt.dn.mono (by decide), ?_⟩
    walk_at "go"
    refine ⟨(timesP w w).1, (timesP w w).2, (timesP (r, 1) (timesP t t)).1, (timesP (r, 1) (timesP t t)).2, rfl, ww.pos, rt.pos, ww.up.mono (by decide), ww.dn.mono (by decide), rt.up.mono (by decide), rt.dn.mono (by decide), ?_⟩
    walk_at "go"
    refine ⟨_, _, rfl, ?_⟩
    refine ⟨.inl (.inl (by rcases sgI_3 w.1 with e | e | e <;> rw [e] <;> decide)), ?_⟩
    exact k
def areaN (n : Nat) : Nat := 2 ^ n
theorem areaN_le {n : Nat} (h : n ≤ 2) : areaN n ≤ 4 := Nat.le_trans (Nat.pow_le_pow_right (by decide) h) (by decide)
def f_area_items (u : Ua) : FS := fun ds Kp _ => ∃ ns, ds = [unD u ns] ∧ ns.length ≤ 2 ∧ Kp (.int (areaN ns.length : Nat))
abbrev s_area_items : Stmt := top 35
theorem sc_area_items : FnScope ["units"] ["units"] (defScope s_area_items) := ⟨rfl, rfl, rfl, by decide +kernel, rfl, by decide +kernel, by decide +kernel⟩
theorem ok_area_items {G : Pg} {k : Nat} {u : Ua} (T : Tx G) (U : UnF G u) (h : At G "area_items" s_area_items) (cm : FnA G u.gM 1 ["self"] (f_mmany u)) (hk : 2 ≤ k) : Fn G "area_items" (k + 1) ["units"] (f_area_items u) := by
  obtain ⟨fa, fd, F, hm⟩ := h
  refine Fn.of F hm sc_area_items (fun _ _ _ _ _ _ us hl => match us, hl with | [_], _ => rfl) ?_
  intro cdv A outer s H E dr M ds Kp Ke tk po hr hl hf
  have tb := T.b
  have nd := sc_area_items.nd
  obtain ⟨ns, rfl, hn, k⟩ := hf
  walk_at "gl"
  refine dx_prop U.cls U.pm cm (hr.mono hk) ?_
  walk_at "gl"
  refine ⟨⟨_, _, rfl⟩, ns, rfl, ?_⟩
  walk_at "gl"
  match ns, hn, k with
  | [], _, k => exact ⟨_, _, _, rfl, rfl, rfl, k⟩
  | [a], _, k => exact ⟨_, _, _, rfl, rfl, rfl, k⟩
  | [a, b], _, k => exact ⟨_, _, _, rfl, rfl, rfl, k⟩
  | _ :: _ :: _ :: _, h, _ => exact absurd h (by simp only [List.length_cons]; omega)
def f_is_area_of (u : Ua) : FS := fun ds Kp _ => ∃ ns d, ds = [unD u ns, d] ∧ ns.length ≤ 2 ∧ pl d = true ∧ Kp (.bl (isLen (areaN ns.length) d))
abbrev s_is_area_of : Stmt := top 36
theorem sc_is_area_of : FnScope ["units", "thing", "item"] ["units", "thing"] (defScope s_is_area_of) := ⟨rfl, rfl, rfl, by decide +kernel, rfl, by decide +kernel, by decide +kernel⟩
theorem ok_is_area_of {G : Pg} {k : Nat} {u : Ua} (T : Tx G) (U : UnF G u) (h : At G "is_area_of" s_is_area_of) (c_is_given_number : Fn G "is_given_number" k ["thing"] f_is_given_number) (c_area_items : Fn G "area_items" k ["units"] (f_area_items u)) : Fn G "is_area_of" (k + 1) ["units", "thing"] (f_is_area_of u) := by
  obtain ⟨fa, fd, F, hm⟩ := h
  refine Fn.of F hm sc_is_area_of (fun _ _ _ _ _ _ us hl => match us, hl with | [_, _], _ => rfl) ?_
  intro cdv A outer s H E dr M ds Kp Ke tk po hr hl hf
  have tb := T.b
  have nd := sc_is_area_of.nd
  obtain ⟨ns, d, rfl, hn, hp', k⟩ := hf
  have hp := pl_prim hp'
  walk_at "go"
  refine ⟨hp, ?_⟩
  rw [seq_isP]
  cases hs : seqD d with
  | none =>
    walk_at "go"
    have e : isLen (areaN ns.length) d = false := by rw [isLen, hs]
    rw [e] at k
    exact k
  | some l =>
    have e : isLen (areaN ns.length) d = ((l.length == areaN ns.length) && l.all isGiv) := by rw [isLen, hs]
    rw [e] at k
    walk_at "go"
    refine gLen_seq hs ?_
    walk_at "go"
    refine ⟨ns, rfl, hn, ?_⟩
    refine And.intro (fun (h : (!((l.length : Int) == ((areaN ns.length : Nat) : Int))) = true) => ?_) (fun (h : (!((l.length : Int) == ((areaN ns.length : Nat) : Int))) = false) => ?_)
    · have h2 : (l.length == areaN ns.length) = false := by
        simp only [Bool.not_eq_true', beq_eq_false_iff_ne] at h ⊢
        omega
      rw [h2] at k
      walk_at "go"
      exact k
    · have h2 : l.length = areaN ns.length := by
        simp only [Bool.not_eq_false', beq_iff_eq] at h
        omega
      rw [h2, beq_self_eq_true, Bool.true_and] at k
      have h4 := areaN_le hn
      walk_at "go"
      refine ⟨l, hs, ?_⟩
      refine lc_map (fun d => .bl (isGiv d)) (by omega) (fun _ _ => trivial) (fun d hd A s H C cl fp => ?_) ?_
      · walk_at "go"
        exact ⟨plL_mem (pl_items hp' hs) d hd, rfl⟩
      walk_at "go"
      refine ⟨_, l.map isGiv, rfl, blL_fun isGiv l, ?_⟩
      rw [List.all_map]
      exact k
abbrev f_as_area : FS := f_as_length
abbrev s_as_area : Stmt := top 37
theorem sc_as_area : FnScope ["thing", "item"] ["thing"] (defScope s_as_area) := ⟨rfl, rfl, rfl, by decide +kernel, rfl, by decide +kernel, by decide +kernel⟩
theorem ok_as_area {G : Pg} {k : Nat} (T : Tx G) (h : At G "as_area" s_as_area) (c_as_ratio : Fn G "as_ratio" k ["number"] f_as_ratio) : Fn G "as_area" (k + 1) ["thing"] f_as_area := by
  obtain ⟨fa, fd, F, hm⟩ := h
  refine Fn.of F hm sc_as_area (fun _ _ _ _ _ _ us hl => match us, hl with | [_], _ => rfl) ?_
  intro cdv A outer s H E dr M ds Kp Ke tk po hr hl hf
  have tb := T.b
  have nd := sc_as_area.nd
  obtain ⟨d, l, rfl, hs, hp, hn, k⟩ := hf
  walk_at "go"
  refine ⟨l, hs, ?_⟩
  refine lc_map asRat hn (fun _ _ => trivial) (fun d hd A s H C cl fp => ?_) ?_
  · walk_at "go"
    exact ⟨plL_mem hp d hd, rfl⟩
  walk_at "go"
  exact k

def f_nought_area (u : Ua) : FS := fun ds Kp _ => ∃ ns, ds = [unD u ns] ∧ ns.length ≤ 2 ∧ Kp (lenD (List.replicate (areaN ns.length) (0, 1)))
abbrev s_nought_area : Stmt := top 38
theorem sc_nought_area : FnScope ["units"] ["units"] (defScope s_nought_area) := ⟨rfl, rfl, rfl, by decide +kernel, rfl, by decide +kernel, by decide +kernel⟩
theorem ok_nought_area {G : Pg} {k : Nat} {u : Ua} (T : Tx G) (U : UnF G u) (h : At G "nought_area" s_nought_area) (c_area_items : Fn G "area_items" k ["units"] (f_area_items u)) (hN : GTup G.K G.mg "NOUGHT" [0, 1]) : Fn G "nought_area" (k + 1) ["units"] (f_nought_area u) := by
  obtain ⟨fa, fd, F, hm⟩ := h
  refine Fn.of F hm sc_nought_area (fun _ _ _ _ _ _ us hl => match us, hl with | [_], _ => rfl) ?_
  intro cdv A outer s H E dr M ds Kp Ke tk po hr hl hf
  have tb := T.b
  have nd := sc_nought_area.nd
  obtain ⟨ns, rfl, hn, k⟩ := hf
  have h4 := areaN_le hn
  have h5 : 0 < areaN ns.length := Nat.pow_pos (by decide)
  walk_at "go"
  refine dx_gtup rfl hN ?_
  walk_at "go"
  refine ⟨by decide, ?_⟩
  walk_at "go"
  refine ⟨ns, rfl, hn, ?_⟩
  refine ⟨by simp, by omega, by omega, by simp, ?_⟩
  rw [Int.toNat_natCast]
  show Kp (.tup (List.replicate (areaN ns.length) [rat 0 1]).flatten)
  rw [nought_rep]
  exact k
abbrev f_area_plus : FS := f_length_plus
abbrev s_area_plus : Stmt := top 39
theorem sc_area_plus : FnScope ["one", "other", "own", "late"] ["one", "other"] (defScope s_area_plus) := ⟨rfl, rfl, rfl, by decide +kernel, rfl, by decide +kernel, by decide +kernel⟩
theorem ok_area_plus {G : Pg} {k : Nat} (T : Tx G) (h : At G "area_plus" s_area_plus) (c_plus : Fn G "plus" k ["one", "other"] f_plus) : Fn G "area_plus" (k + 1) ["one", "other"] f_area_plus := by
  obtain ⟨fa, fd, F, hm⟩ := h
  refine Fn.of F hm sc_area_plus (fun _ _ _ _ _ _ us hl => match us, hl with | [_, _], _ => rfl) ?_
  intro cdv A outer s H E dr M ds Kp Ke tk po hr hl hf
  have tb := T.b
  have nd := sc_area_plus.nd
  obtain ⟨p, q, rfl, hn, h1, h2, k⟩ := hf
  walk_at "go"
  refine lc_map (pairF plusP) (zip_len p q hn) (fun d hd => ?_) (fun d hd A s H C cl fp => ?_) ?_
  · obtain ⟨x, hx, y, hy, rfl⟩ := zip_mem hd
    exact rfl
  · obtain ⟨x, hx, y, hy, rfl⟩ := zip_mem hd
    walk_at "go"
    exact ⟨x.1, x.2, y.1, y.2, rfl, (h1 x hx).pos, (h2 y hy).pos, (h1 x hx).up, (h1 x hx).dn, (h2 y hy).up, (h2 y hy).dn, rfl⟩
  rw [zip_map]
  walk_at "go"
  exact k

abbrev f_area_minus : FS := f_length_minus
abbrev s_area_minus : Stmt := top 40
theorem sc_area_minus : FnScope ["one", "other", "own", "late"] ["one", "other"] (defScope s_area_minus) := ⟨rfl, rfl, rfl, by decide +kernel, rfl, by decide +kernel, by decide +kernel⟩
theorem ok_area_minus {G : Pg} {k : Nat} (T : Tx G) (h : At G "area_minus" s_area_minus) (c_minus : Fn G "minus" k ["one", "other"] f_minus) : Fn G "area_minus" (k + 1) ["one", "other"] f_area_minus := by
  obtain ⟨fa, fd, F, hm⟩ := h
  refine Fn.of F hm sc_area_minus (fun _ _ _ _ _ _ us hl => match us, hl with | [_, _], _ => rfl) ?_
  intro cdv A outer s H E dr M ds Kp Ke tk po hr hl hf
  have tb := T.b
  have nd := sc_area_minus.nd
  obtain ⟨p, q, rfl, hn, h1, h2, k⟩ := hf
  walk_at "go"
  refine lc_map (pairF minusP) (zip_len p q hn) (fun d hd => ?_) (fun d hd A s H C cl fp => ?_) ?_
  · obtain ⟨x, hx, y, hy, rfl⟩ := zip_mem hd
    exact rfl
  · obtain ⟨x, hx, y, hy, rfl⟩ := zip_mem hd
    walk_at "go"
    exact ⟨x.1, x.2, y.1, y.2, rfl, (h1 x hx).pos, (h2 y hy).pos, (h1 x hx).up, (h1 x hx).dn, (h2 y hy).up, (h2 y hy).dn, rfl⟩
  rw [zip_map]
  walk_at "go"
  exact k

/-! ### products of lengths -/
theorem ixN_at {n j : Nat} (hj : j < n) : ixN n (j : Int) = some j := by
  unfold ixN
  rw [if_pos (Int.natCast_nonneg j), if_pos (by omega)]
  simp
theorem gIx_len {p : List (Int × Int)} {i : Nat} {a : Int × Int} {k : KD} (h : p[i]? = some a) (hk : k (ratP a)) : gIx (lenD p) (.int (i : Int)) k := by
  refine ⟨p.map ratP, i, ratP a, rfl, rfl, ?_, hk⟩
  have hi : i < p.length := (List.getElem?_eq_some_iff.mp h).1
  unfold atI
  rw [ixN_at (by rw [List.length_map]; exact hi)]
  show (p.map ratP)[i]? = _
  rw [List.getElem?_map, h]; rfl
theorem call_times {ds : List D} {x y : Int × Int} {n m : Nat} {Kp : KD} {Ke : KX} (h : OkP n x) (g : OkP m y) (hn : n ≤ 4000) (hm : m ≤ 4000) (k : Kp (ratP (timesP x y))) : f_times [ratP x, ratP y] Kp Ke :=
  ⟨x.1, x.2, y.1, y.2, rfl, h.pos, g.pos, h.up.mono hn, h.dn.mono hn, g.up.mono hm, g.dn.mono hm, k⟩
theorem call_plus {x y : Int × Int} {n m : Nat} {Kp : KD} {Ke : KX} (h : OkP n x) (g : OkP m y) (hn : n ≤ 4000) (hm : m ≤ 4000) (k : Kp (ratP (plusP x y))) : f_plus [ratP x, ratP y] Kp Ke :=
  ⟨x.1, x.2, y.1, y.2, rfl, h.pos, g.pos, h.up.mono hn, h.dn.mono hn, g.up.mono hm, g.dn.mono hm, k⟩
theorem call_minus {x y : Int × Int} {n m : Nat} {Kp : KD} {Ke : KX} (h : OkP n x) (g : OkP m y) (hn : n ≤ 4000) (hm : m ≤ 4000) (k : Kp (ratP (minusP x y))) : f_minus [ratP x, ratP y] Kp Ke :=
  ⟨x.1, x.2, y.1, y.2, rfl, h.pos, g.pos, h.up.mono hn, h.dn.mono hn, g.up.mono hm, g.dn.mono hm, k⟩
def crossP (p q : List (Int × Int)) (i j : Nat) : Int × Int := plusP (timesP (p.getD i (0, 1)) (q.getD j (0, 1))) (timesP (p.getD j (0, 1)) (q.getD i (0, 1)))
theorem getD_some {p : List (Int × Int)} {i : Nat} (h : i < p.length) : p[i]? = some (p.getD i (0, 1)) := by
  rw [List.getD_eq_getElem?_getD, List.getElem?_eq_getElem h]; rfl
theorem getD_ok {n : Nat} {p : List (Int × Int)} {i : Nat} (hp : ∀ x ∈ p, OkP n x) (h : i < p.length) : OkP n (p.getD i (0, 1)) := hp _ (List.mem_of_getElem? (getD_some h))
def f_crossed : FS := fun ds Kp _ => ∃ p q, ∃ i j : Nat, ds = [lenD p, lenD q, .int i, .int j] ∧ i < p.length ∧ i < q.length ∧ j < p.length ∧ j < q.length ∧ (∀ x ∈ p, OkP 400 x) ∧ (∀ x ∈ q, OkP 400 x) ∧ Kp (ratP (crossP p q i j))
abbrev s_crossed : Stmt := top 41
theorem sc_crossed : FnScope ["one", "other", "first", "second"] ["one", "other", "first", "second"] (defScope s_crossed) := ⟨rfl, rfl, rfl, by decide +kernel, rfl, by decide +kernel, by decide +kernel⟩
theorem ok_crossed {G : Pg} {k : Nat} (T : Tx G) (h : At G "crossed" s_crossed) (c_plus : Fn G "plus" k ["one", "other"] f_plus) (c_times : Fn G "times" k ["one", "other"] f_times) : Fn G "crossed" (k + 1) ["one", "other", "first", "second"] f_crossed := by
  obtain ⟨fa, fd, F, hm⟩ := h
  refine Fn.of F hm sc_crossed (fun _ _ _ _ _ _ us hl => match us, hl with | [_, _, _, _], _ => rfl) ?_
  intro cdv A outer s H E dr M ds Kp Ke tk po hr hl hf
  have tb := T.b
  have nd := sc_crossed.nd
  obtain ⟨p, q, i, j, rfl, ip, iq, jp, jq, hp, hq, k⟩ := hf
  have a1 := getD_ok hp ip
  have a2 := getD_ok hq jq
  have a3 := getD_ok hp jp
  have a4 := getD_ok hq iq
  walk_at "go"
  refine gIx_len (getD_some ip) ?_
  walk_at "go"
  refine gIx_len (getD_some jq) ?_
  walk_at "go"
  refine call_times (ds := []) a1 a2 (by decide) (by decide) ?_
  walk_at "go"
  refine gIx_len (getD_some jp) ?_
  walk_at "go"
  refine gIx_len (getD_some iq) ?_
  walk_at "go"
  refine call_times (ds := []) a3 a4 (by decide) (by decide) ?_
  walk_at "go"
  exact call_plus (timesP_ok a1 a2) (timesP_ok a3 a4) (by decide) (by decide) k
/-- the product's first number, behind i roots -/
def wholeP (ns : List Int) (p q : List (Int × Int)) : Nat → Int × Int
  | 0 => timesP (p.getD 0 (0, 1)) (q.getD 0 (0, 1))
  | i + 1 => plusP (wholeP ns p q i) (timesP (ns.getD i 0, 1) (timesP (p.getD (i + 1) (0, 1)) (q.getD (i + 1) (0, 1))))
/-- the product of two lengths -/
def prodP (ns : List Int) (p q : List (Int × Int)) : List (Int × Int) :=
  (wholeP ns p q ns.length :: (List.range ns.length).map fun i => crossP p q 0 (i + 1)) ++ if ns.length = 2 then [crossP p q 1 2] else []
theorem okR {r : Int} (h : sz 7 r) : OkP 7 (r, (1 : Int)) := ⟨by show (0 : Int) < 1; decide, h, by show (1 : Int).natAbs < 2 ^ 7; decide⟩
theorem wholeP_ok {ns : List Int} {p q : List (Int × Int)} (hr : ∀ r ∈ ns, sz 7 r) (hp : ∀ x ∈ p, OkP 200 x) (hq : ∀ x ∈ q, OkP 200 x) : ∀ i, i ≤ ns.length → i < p.length → i < q.length → OkP (408 * 2 ^ i - 1) (wholeP ns p q i)
  | 0, _, h1, h2 => (timesP_ok (getD_ok hp h1) (getD_ok hq h2)).mono (by decide)
  | i + 1, h0, h1, h2 => by
    have ih := wholeP_ok hr hp hq i (by omega) (by omega) (by omega)
    have hri : sz 7 (ns.getD i 0) := by
      rw [List.getD_eq_getElem?_getD, List.getElem?_eq_getElem (show i < ns.length by omega)]
      exact hr _ (List.getElem_mem _)
    have g := timesP_ok (okR hri) (timesP_ok (getD_ok hp h1) (getD_ok hq h2))
    have e : 1 ≤ 2 ^ i := Nat.one_le_two_pow
    refine (plusP_ok ih (g.mono (by omega))).mono ?_
    rw [Nat.pow_succ]
    omega
theorem enumD_get {l : List D} {i : Nat} {d : D} (h : (enumD l)[i]? = some d) : ∃ x, l[i]? = some x ∧ d = .tup [.int (i : Nat), x] := by
  unfold enumD zipD at h
  rw [List.getElem?_map] at h
  obtain ⟨⟨a, x⟩, hz, rfl⟩ := Option.map_eq_some_iff.mp h
  rw [List.getElem?_zip_eq_some] at hz
  obtain ⟨h1, h2⟩ := hz
  refine ⟨x, h2, ?_⟩
  unfold intsD at h1
  rw [List.getElem?_map] at h1
  obtain ⟨m, hm, e⟩ := Option.map_eq_some_iff.mp h1
  rw [List.getElem?_range (List.getElem?_eq_some_iff.mp h2).1] at hm
  cases hm
  have e : a = .int (0 + ((i : Nat) : Int)) := e.symm
  rw [Int.zero_add] at e
  subst e
  rfl
theorem enumD_len (l : List D) : (enumD l).length = l.length := by
  simp only [enumD, zipD, intsD, List.length_map, List.length_zip, List.length_range, Nat.min_self]
def crossD (p q : List (Int × Int)) : D → D
  | .int i => ratP (crossP p q 0 i.toNat)
  | d => d
theorem crossD_map (p q : List (Int × Int)) (n : Nat) : (intsD 1 n).map (crossD p q) = ((List.range n).map fun i => crossP p q 0 (i + 1)).map ratP := by
  unfold intsD
  rw [List.map_map, List.map_map]
  refine List.map_congr_left fun i _ => ?_
  show ratP (crossP p q 0 (1 + (i : Int)).toNat) = ratP (crossP p q 0 (i + 1))
  rw [show (1 + (i : Int)).toNat = i + 1 by omega]
def f_product_of (u : Ua) : FS := fun ds Kp _ => ∃ ns p q, ds = [unD u ns, lenD p, lenD q] ∧ ns.length ≤ 2 ∧ (∀ r ∈ ns, sz 7 r) ∧ p.length = ns.length + 1 ∧ q.length = ns.length + 1 ∧ (∀ x ∈ p, OkP 200 x) ∧ (∀ x ∈ q, OkP 200 x) ∧ Kp (lenD (prodP ns p q))
abbrev s_product_of : Stmt := top 42
theorem sc_product_of : FnScope ["units", "one", "other", "whole", "at", "root", "found"] ["units", "one", "other"] (defScope s_product_of) := ⟨rfl, rfl, rfl, by decide +kernel, rfl, by decide +kernel, by decide +kernel⟩
theorem ok_product_of {G : Pg} {k : Nat} {u : Ua} (T : Tx G) (U : UnF G u) (h : At G "product_of" s_product_of) (c_times : Fn G "times" k ["one", "other"] f_times) (c_plus : Fn G "plus" k ["one", "other"] f_plus) (c_crossed : Fn G "crossed" k ["one", "other", "first", "second"] f_crossed) (cm : FnA G u.gM 1 ["self"] (f_mmany u)) (cr : FnA G u.gR 1 ["self"] (f_mroots u)) (hk : 2 ≤ k) : Fn G "product_of" (k + 1) ["units", "one", "other"] (f_product_of u) := by
  obtain ⟨fa, fd, F, hm⟩ := h
  refine Fn.of F hm sc_product_of (fun _ _ _ _ _ _ us hl => match us, hl with | [_, _, _], _ => rfl) ?_
  intro cdv A outer s H E dr M ds Kp Ke tk po hr hl hf
  have tb := T.b
  have nd := sc_product_of.nd
  obtain ⟨ns, p, q, rfl, hn, hr7, pl, ql, hp, hq, k⟩ := hf
  have p0 : 0 < p.length := by omega
  have q0 : 0 < q.length := by omega
  have h4 : ∀ x ∈ p, OkP 400 x := fun x hx => (hp x hx).mono (by decide)
  have g4 : ∀ x ∈ q, OkP 400 x := fun x hx => (hq x hx).mono (by decide)
  walk_at "go"
  refine gIx_len (i := 0) (getD_some p0) ?_
  walk_at "go"
  refine gIx_len (i := 0) (getD_some q0) ?_
  walk_at "go"
  refine call_times (ds := []) (getD_ok hp p0) (getD_ok hq q0) (by decide) (by decide) ?_
  walk_at "go"
  refine ds_for (.t [4, 5]) po rfl (pg_tup rfl (pgs_cons (pg_name nd rfl (.inl rfl) (.inr rfl)) (pgs_cons (pg_name nd rfl (.inl rfl) (.inr rfl)) pgs_nil))) ?_
  refine di_enumT rfl (Bt.enumerate tb) ?_
  refine dx_prop U.cls U.pr cr (hr.mono hk) ?_
  walk_at "go"
  refine ⟨⟨_, _, rfl⟩, ns, rfl, _, rfl, ?_⟩
  refine ⟨fun i δ' => ∃ o1 o2, noOw o1 = true ∧ δ' = [.im (unD u ns), .im (lenD p), .im (lenD q), .im (ratP (wholeP ns p q i)), o1, o2, .un], ⟨_, _, rfl, rfl⟩, ?_, ?_⟩
  · rintro i d δ' hd ⟨o1, o2, ho1, rfl⟩
    obtain ⟨x, hx, rfl⟩ := enumD_get hd
    rw [List.getElem?_map] at hx
    obtain ⟨r, hri, rfl⟩ := Option.map_eq_some_iff.mp hx
    have hi : i < ns.length := (List.getElem?_eq_some_iff.mp hri).1
    have er : ns.getD i 0 = r := by rw [List.getD_eq_getElem?_getD, hri]; rfl
    have hrr := okR (hr7 r (List.mem_of_getElem? hri))
    refine ⟨rfl, ?_⟩
    have a1 := getD_ok hp (i := i + 1) (by omega)
    have a2 := getD_ok hq (i := i + 1) (by omega)
    have a3 := wholeP_ok hr7 hp hq i (by omega) (by omega) (by omega)
    have e2 : 408 * 2 ^ i - 1 ≤ 4000 := by
      have : 2 ^ i ≤ 2 ^ 2 := Nat.pow_le_pow_right (by decide) (by omega)
      omega
    have e1 : ((i : Nat) : Int) + 1 = ((i + 1 : Nat) : Int) := by omega
    walk_at "gl"
    show gIx (lenD p) (.int ((i : Int) + 1)) _
    rw [e1]
    refine gIx_len (getD_some (by omega)) ?_
    walk_at "gl"
    show gIx (lenD q) (.int ((i : Int) + 1)) _
    rw [e1]
    refine gIx_len (getD_some (by omega)) ?_
    walk_at "gl"
    refine call_times (ds := []) a1 a2 (by decide) (by decide) ?_
    walk_at "gl"
    refine call_times (ds := []) (x := (r, 1)) hrr (timesP_ok a1 a2) (by decide) (by decide) ?_
    walk_at "gl"
    refine call_plus a3 (timesP_ok hrr (timesP_ok a1 a2)) e2 (by decide) ?_
    walk_at "gl"
    refine ⟨.im (.int (i : Nat)), .im (.int r), rfl, ?_⟩
    rw [← er]
    rfl
  · rintro δ' ⟨o1, o2, ho1, rfl⟩
    rw [enumD_len, List.length_map]
    walk_at "gl"
    refine dx_lcN 4 rfl (by assumption) rfl (by simp [noOwn, ho1]) rfl (by walk_at "lc") ?_
    walk_at "gl"
    refine dx_prop U.cls U.pm cm (hr.mono hk) ?_
    walk_at "gl"
    refine ⟨⟨_, _, rfl⟩, ns, rfl, ?_⟩
    refine And.intro ⟨by decide, by decide, show -2 ^ 62 ≤ ((ns.length : Nat) : Int) + 1 by omega, show ((ns.length : Nat) : Int) + 1 < 2 ^ 62 by omega⟩ ?_
    have en : (((ns.length : Nat) : Int) + 1 - 1).toNat = ns.length := by omega
    rw [en]
    refine lc_map (crossD p q) (show (intsD 1 ns.length).length ≤ _ by simp only [intsD, List.length_map, List.length_range]; omega) (fun _ _ => trivial) (fun d hd A s H C cl fp => ?_) ?_
    · unfold intsD at hd
      obtain ⟨j, hj, rfl⟩ := List.mem_map.mp hd
      have hj : j < ns.length := List.mem_range.mp hj
      have e1 : (1 : Int) + (j : Int) = ((j + 1 : Nat) : Int) := by omega
      walk_at "gl"
      refine ⟨p, q, 0, j + 1, by rw [e1]; rfl, p0, q0, by omega, by omega, h4, g4, ?_⟩
      show ratP (crossP p q 0 (j + 1)) = ratP (crossP p q 0 (1 + (j : Int)).toNat)
      rw [show (1 + (j : Int)).toNat = j + 1 by omega]
    rw [crossD_map]
    refine ⟨by simp only [List.length_map, List.length_range, List.length_cons, List.length_nil]; omega, ?_⟩
    walk_at "gl"
    refine dx_prop U.cls U.pm cm (hr.mono hk) ?_
    walk_at "gl"
    refine ⟨⟨_, _, rfl⟩, ns, rfl, ?_⟩
    walk_at "gl"
    refine And.intro (fun (h : (((ns.length : Nat) : Int) + 1 == 3) = true) => ?_) (fun (h : (((ns.length : Nat) : Int) + 1 == 3) = false) => ?_)
    · have h2 : ns.length = 2 := by simp only [beq_iff_eq] at h; omega
      walk_at "gl"
      refine ⟨p, q, 1, 2, rfl, by omega, by omega, by omega, by omega, h4, g4, ?_⟩
      walk_at "gl"
      refine ⟨by simp only [List.length_map, List.length_range, List.length_cons, List.length_nil, List.length_append]; omega, ?_⟩
      walk_at "gl"
      unfold prodP at k
      rw [if_pos h2] at k
      unfold lenD at k
      rw [List.map_append, List.map_cons] at k
      exact k
    · have h2 : ns.length ≠ 2 := by simp only [beq_eq_false_iff_ne] at h; omega
      walk_at "gl"
      unfold prodP at k
      rw [if_neg h2, List.append_nil] at k
      exact k
/-! ### signs of areas -/
theorem pg_tup3 {X : Cx} {i j l : Nat} {x y z : Str} {px py pz pos : Pos} {k : Nat} (nd : X.N.Nodup) (hi : X.N[i]? = some x) (hj : X.N[j]? = some y) (hl : X.N[l]? = some z) (h1 : Loc X.env.scope x) (h2 : X.fn x = true ∨ X.env.scope.names.lookup x = some .local) (h3 : Loc X.env.scope y) (h4 : X.fn y = true ∨ X.env.scope.names.lookup y = some .local) (h5 : Loc X.env.scope z) (h6 : X.fn z = true ∨ X.env.scope.names.lookup z = some .local)
    (hc : X.calm = true := by rfl) (hn : (assignEach [.Name x px, .Name y py, .Name z pz] X.env).length = 3 := by rfl) (hst : (assignEach [.Name x px, .Name y py, .Name z pz] X.env).findIdx? (·.1) = none := by rfl)
    (g1 : (assignEach [.Name x px, .Name y py, .Name z pz] X.env).map (·.2) = assign (.Name x px) X.env :: (assignEach [.Name y py, .Name z pz] X.env).map (·.2) := by rfl) (g2 : (assignEach [.Name y py, .Name z pz] X.env).map (·.2) = assign (.Name y py) X.env :: (assignEach [.Name z pz] X.env).map (·.2) := by rfl) (g3 : (assignEach [.Name z pz] X.env).map (·.2) = assign (.Name z pz) X.env :: (assignEach [] X.env).map (·.2) := by rfl) :
    PG X (.Tuple [.Name x px, .Name y py, .Name z pz] k pos) ((Tg.t [i, j, l]).g X.K) :=
  pg_tup hc (pgs_cons (pg_name nd hi h1 h2) (pgs_cons (pg_name nd hj h3 h4) (pgs_cons (pg_name nd hl h5 h6) pgs_nil g3) g2) g1) hn hst
theorem gIx0 {x : Int × Int} {p : List (Int × Int)} {k : KD} (hk : k (ratP x)) : gIx (lenD (x :: p)) (.int 0) k := gIx_len (i := 0) rfl hk
def sqP (r : Int) (a b : Int × Int) : (Int × Int) × (Int × Int) := (plusP (timesP a a) (timesP (r, 1) (timesP b b)), timesP (2, 1) (timesP a b))
theorem okQr {r : Int} (h : sz 7 r) : OkQ 7 1 (r, (1 : Int)) := ⟨by show (0 : Int) < 1; decide, h, by show (1 : Int).natAbs < 2 ^ 1; decide⟩
theorem okQ2 : OkQ 2 1 ((2 : Int), (1 : Int)) := ⟨by decide, by show (2 : Int).natAbs < 2 ^ 2; decide, by show (1 : Int).natAbs < 2 ^ 1; decide⟩
theorem sqQ {r : Int} {a b : Int × Int} (hr : sz 7 r) (ha : OkQ 100 90 a) (hb : OkQ 100 90 b) : OkQ 389 361 (sqP r a b).1 ∧ OkQ 202 181 (sqP r a b).2 :=
  ⟨plusQ (n := 388) (timesQ ha ha) (timesQ (okQr hr) (timesQ hb hb)) (by decide) (by decide), timesQ okQ2 (timesQ ha hb)⟩
theorem call_timesQ {a d b e : Nat} {x y : Int × Int} {Kp : KD} {Ke : KX} (h : OkQ a d x) (g : OkQ b e y) (k : Kp (ratP (timesP x y))) (h1 : a ≤ 4000 := by decide) (h2 : d ≤ 4000 := by decide) (h3 : b ≤ 4000 := by decide) (h4 : e ≤ 4000 := by decide) : f_times [ratP x, ratP y] Kp Ke :=
  ⟨x.1, x.2, y.1, y.2, rfl, h.pos, g.pos, h.up.mono h1, h.dn.mono h2, g.up.mono h3, g.dn.mono h4, k⟩
theorem call_plusQ {a d b e : Nat} {x y : Int × Int} {Kp : KD} {Ke : KX} (h : OkQ a d x) (g : OkQ b e y) (k : Kp (ratP (plusP x y))) (h1 : a ≤ 4000 := by decide) (h2 : d ≤ 4000 := by decide) (h3 : b ≤ 4000 := by decide) (h4 : e ≤ 4000 := by decide) : f_plus [ratP x, ratP y] Kp Ke :=
  ⟨x.1, x.2, y.1, y.2, rfl, h.pos, g.pos, h.up.mono h1, h.dn.mono h2, g.up.mono h3, g.dn.mono h4, k⟩
theorem call_minusQ {a d b e : Nat} {x y : Int × Int} {Kp : KD} {Ke : KX} (h : OkQ a d x) (g : OkQ b e y) (k : Kp (ratP (minusP x y))) (h1 : a ≤ 4000 := by decide) (h2 : d ≤ 4000 := by decide) (h3 : b ≤ 4000 := by decide) (h4 : e ≤ 4000 := by decide) : f_minus [ratP x, ratP y] Kp Ke :=
  ⟨x.1, x.2, y.1, y.2, rfl, h.pos, g.pos, h.up.mono h1, h.dn.mono h2, g.up.mono h3, g.dn.mono h4, k⟩
def f_square_pair : FS := fun ds Kp _ => ∃ a b r, ds = [lenD [a, b], .int r] ∧ OkQ 100 90 a ∧ OkQ 100 90 b ∧ sz 7 r ∧ Kp (lenD [(sqP r a b).1, (sqP r a b).2])
abbrev s_square_pair : Stmt := top 43
theorem sc_square_pair : FnScope ["one", "root", "whole"] ["one", "root"] (defScope s_square_pair) := ⟨rfl, rfl, rfl, by decide +kernel, rfl, by decide +kernel, by decide +kernel⟩
theorem ok_square_pair {G : Pg} {k : Nat} (T : Tx G) (h : At G "square_pair" s_square_pair) (c_plus : Fn G "plus" k ["one", "other"] f_plus) (c_times : Fn G "times" k ["one", "other"] f_times) : Fn G "square_pair" (k + 1) ["one", "root"] f_square_pair := by
  obtain ⟨fa, fd, F, hm⟩ := h
  refine Fn.of F hm sc_square_pair (fun _ _ _ _ _ _ us hl => match us, hl with | [_, _], _ => rfl) ?_
  intro cdv A outer s H E dr M ds Kp Ke tk po hr hl hf
  have tb := T.b
  have nd := sc_square_pair.nd
  obtain ⟨a, b, r, rfl, ha, hb, hr7, k⟩ := hf
  have hrr := okQr hr7
  have i0 : [a, b][0]? = some a := rfl
  have i1 : [a, b][1]? = some b := rfl
  walk_at "gl"
  refine call_timesQ (x := a) (y := a) ha ha ?_
  walk_at "gl"
  refine call_timesQ (x := b) (y := b) hb hb ?_
  walk_at "gl"
  refine call_timesQ (x := (r, 1)) hrr (timesQ hb hb) ?_
  walk_at "gl"
  refine call_plusQ (timesQ ha ha) (timesQ hrr (timesQ hb hb)) ?_
  walk_at "gl"
  refine call_timesQ (x := a) (y := b) ha hb ?_
  walk_at "gl"
  refine call_timesQ (x := (2, 1)) okQ2 (timesQ ha hb) ?_
  walk_at "gl"
  exact k
/-- the sign of an area, as the program takes it -/
def areaS : List Int → List (Int × Int) → Int
  | [], [a] => sgI a.1
  | [r], [a, b] => twoS r a b
  | [r, t], [a, b, c, d] =>
    if 0 ≤ twoS r a b * twoS r c d then (if twoS r a b ≠ 0 then twoS r a b else twoS r c d)
    else twoS r a b * twoS r (minusP (sqP r a b).1 (timesP (t, 1) (sqP r c d).1)) (minusP (sqP r a b).2 (timesP (t, 1) (sqP r c d).2))
  | _, _ => 0
theorem twoS_3 (r : Int) (w t : Int × Int) : twoS r w t = 1 ∨ twoS r w t = 0 ∨ twoS r w t = -1 := by
  unfold twoS
  generalize (minusP (timesP w w) (timesP (r, 1) (timesP t t))).1 = z
  rcases sgI_3 w.1 with e | e | e <;> rcases sgI_3 t.1 with f | f | f <;> rcases sgI_3 z with g | g | g <;> rw [e, f, g] <;> decide
theorem mul3 {a b : Int} (h : a = 1 ∨ a = 0 ∨ a = -1) : CMulD a b := .inl (.inl (by rcases h with e | e | e <;> rw [e] <;> decide))
def f_area_sign_of (u : Ua) : FS := fun ds Kp _ => ∃ ns p, ds = [unD u ns, lenD p] ∧ ns.length ≤ 2 ∧ (∀ r ∈ ns, sz 7 r) ∧ p.length = areaN ns.length ∧ (∀ x ∈ p, OkQ 100 90 x) ∧ Kp (.int (areaS ns p))
abbrev s_area_sign_of : Stmt := top 44
theorem sc_area_sign_of : FnScope ["units", "area", "root", "head", "one", "other", "first", "second", "last", "rest", "own", "late"] ["units", "area"] (defScope s_area_sign_of) := ⟨rfl, rfl, rfl, by decide +kernel, rfl, by decide +kernel, by decide +kernel⟩
theorem ok_area_sign_of {G : Pg} {k : Nat} {u : Ua} (T : Tx G) (U : UnF G u) (h : At G "area_sign_of" s_area_sign_of) (c_sign_of : Fn G "sign_of" k ["one"] f_sign_of) (c_two_sign : Fn G "two_sign" k ["whole", "times_root", "root"] f_two_sign) (c_square_pair : Fn G "square_pair" k ["one", "root"] f_square_pair) (c_minus : Fn G "minus" k ["one", "other"] f_minus) (c_times : Fn G "times" k ["one", "other"] f_times) (cm : FnA G u.gM 1 ["self"] (f_mmany u)) (cr : FnA G u.gR 1 ["self"] (f_mroots u)) (hk : 2 ≤ k) : Fn G "area_sign_of" (k + 1) ["units", "area"] (f_area_sign_of u) := by
  obtain ⟨fa, fd, F, hm⟩ := h
  refine Fn.of F hm sc_area_sign_of (fun _ _ _ _ _ _ us hl => match us, hl with | [_, _], _ => rfl) ?_
  intro cdv A outer s H E dr M ds Kp Ke tk po hr hl hf
  have tb := T.b
  have nd := sc_area_sign_of.nd
  obtain ⟨ns, p, rfl, hn, hr7, pl, hp, k⟩ := hf
  match ns, p, hn, pl, hr7, hp, k with
  | [], [a], _, _, _, hp, k =>
    walk_at "gl"
    refine dx_prop U.cls U.pm cm (hr.mono hk) ?_
    walk_at "gl"
    refine ⟨⟨_, _, rfl⟩, [], rfl, ?_⟩
    walk_at "gl"
    exact ⟨a.1, a.2, rfl, k⟩
  | [r], [a, b], _, _, hr7, hp, k =>
    have ha := hp a (by simp)
    have hb := hp b (by simp)
    have hr1 := hr7 r (by simp)
    walk_at "gl"
    refine dx_prop U.cls U.pm cm (hr.mono hk) ?_
    walk_at "gl"
    refine ⟨⟨_, _, rfl⟩, [r], rfl, ?_⟩
    walk_at "gl"
    refine dx_prop U.cls U.pr cr (hr.mono hk) ?_
    walk_at "gl"
    refine ⟨⟨_, _, rfl⟩, [r], rfl, ?_⟩
    walk_at "gl"
    refine ⟨a, b, r, rfl, ha.mono (by decide) (by decide), hb.mono (by decide) (by decide), hr1, ?_⟩
    walk_at "gl"
    refine dx_prop U.cls U.pm cm (hr.mono hk) ?_
    walk_at "gl"
    refine ⟨⟨_, _, rfl⟩, [r], rfl, ?_⟩
    walk_at "gl"
    exact k
  | [r, t], [a, b, c, d], _, _, hr7, hp, k =>
    have ha := hp a (by simp)
    have hb := hp b (by simp)
    have hc := hp c (by simp)
    have hd := hp d (by simp)
    have hr1 := hr7 r (by simp)
    have ht1 := hr7 t (by simp)
    have s1 := sqQ hr1 ha hb
    have s2 := sqQ hr1 hc hd
    have htt := okQr ht1
    have m1 := minusQ (n := 757) s1.1 (timesQ htt s2.1) (by decide) (by decide)
    have m2 := minusQ (n := 757) s1.2 (timesQ htt s2.2) (by decide) (by decide)
    have k : Kp (.int (if 0 ≤ twoS r a b * twoS r c d then (if twoS r a b ≠ 0 then twoS r a b else twoS r c d)
      else twoS r a b * twoS r (minusP (sqP r a b).1 (timesP (t, 1) (sqP r c d).1)) (minusP (sqP r a b).2 (timesP (t, 1) (sqP r c d).2)))) := k
    walk_at "gl"
    refine dx_prop U.cls U.pm cm (hr.mono hk) ?_
    walk_at "gl"
    refine ⟨⟨_, _, rfl⟩, [r, t], rfl, ?_⟩
    walk_at "gl"
    refine dx_prop U.cls U.pr cr (hr.mono hk) ?_
    walk_at "gl"
    refine ⟨⟨_, _, rfl⟩, [r, t], rfl, ?_⟩
    walk_at "gl"
    refine ⟨a, b, r, rfl, ha.mono (by decide) (by decide), hb.mono (by decide) (by decide), hr1, ?_⟩
    walk_at "gl"
    refine dx_prop U.cls U.pm cm (hr.mono hk) ?_
    walk_at "gl"
    refine ⟨⟨_, _, rfl⟩, [r, t], rfl, ?_⟩
    walk_at "gl"
    refine ⟨c, d, r, rfl, hc.mono (by decide) (by decide), hd.mono (by decide) (by decide), hr1, ?_⟩
    walk_at "gl"
    refine ⟨mul3 (twoS_3 r a b), ?_⟩
    walk_at "gl"
    generalize hx : twoS r a b = x at k
    generalize hy : twoS r c d = y at k
    have x3 : x = 1 ∨ x = 0 ∨ x = -1 := hx ▸ twoS_3 r a b
    by_cases h : 0 ≤ x * y
    · rw [if_pos h] at k
      refine brT (decide_eq_true h) ?_
      walk_at "gl"
      by_cases g : x = 0
      · rw [if_neg (fun z => z g)] at k
        refine ⟨fun z => ?_, fun _ => ?_⟩
        · rw [g] at z; cases z
        · walk_at "gl"
          exact k
      · rw [if_pos g] at k
        refine ⟨fun _ => ?_, fun z => ?_⟩
        · walk_at "gl"
          exact k
        · exact absurd (by simpa using z) g
    · rw [if_neg h] at k
      refine brF (decide_eq_false h) ?_
      walk_at "gl"
      refine ds_asg (.t [6, 7, 8]) (pg_tup3 nd rfl rfl rfl (by first | exact .inl rfl | exact .inr rfl) (by first | exact .inl rfl | exact .inr rfl) (by first | exact .inl rfl | exact .inr rfl) (by first | exact .inl rfl | exact .inr rfl) (by first | exact .inl rfl | exact .inr rfl) (by first | exact .inl rfl | exact .inr rfl)) ?_
      walk_at "gl"
      refine ⟨a, b, r, rfl, ha, hb, hr1, ?_⟩
      walk_at "gl"
      refine ⟨c, d, r, rfl, hc, hd, hr1, ?_⟩
      walk_at "gl"
      refine dx_prop U.cls U.pr cr (hr.mono hk) ?_
      walk_at "gl"
      refine ⟨⟨_, _, rfl⟩, [r, t], rfl, ?_⟩
      walk_at "gl"
      change DS _ _ _ _ [.im (unD u [r, t]), .im (lenD [a, b, c, d]), .im (.int r), .im (lenD [a, b]), .im (.int x), .im (.int y), .im (lenD [(sqP r a b).1, (sqP r a b).2]), .im (lenD [(sqP r c d).1, (sqP r c d).2]), .im (ratP (t, 1)), .un, .un, .un] _ _ _
      refine ds_setLcP 9 10 11 rfl nd rfl rfl rfl rfl rfl rfl rfl (by walk_at "lcp") ?_
      walk_at "go"
      refine lc_map (pairF fun x y => minusP x (timesP (t, 1) y)) (zip_len [(sqP r a b).1, (sqP r a b).2] [(sqP r c d).1, (sqP r c d).2] (by simp)) (fun dd hdd => ?_) (fun dd hdd A s H C cl fp => ?_) ?_
      · obtain ⟨x, hx, y, hy, rfl⟩ := zip_mem (p := [(sqP r a b).1, (sqP r a b).2]) (q := [(sqP r c d).1, (sqP r c d).2]) hdd
        exact rfl
      · obtain ⟨v, hv, w, hw, rfl⟩ := zip_mem (p := [(sqP r a b).1, (sqP r a b).2]) (q := [(sqP r c d).1, (sqP r c d).2]) hdd
        have v1 : OkQ 389 361 v := by
          simp only [List.mem_cons, List.mem_nil_iff, or_false] at hv
          rcases hv with rfl | rfl
          · exact s1.1
          · exact s1.2.mono (by decide) (by decide)
        have w1 : OkQ 389 361 w := by
          simp only [List.mem_cons, List.mem_nil_iff, or_false] at hw
          rcases hw with rfl | rfl
          · exact s2.1
          · exact s2.2.mono (by decide) (by decide)
        walk_at "gl"
        refine call_timesQ (x := (t, 1)) htt w1 ?_
        walk_at "gl"
        exact call_minusQ v1 (timesQ htt w1) rfl
      walk_at "gl"
      refine ⟨minusP (sqP r a b).1 (timesP (t, 1) (sqP r c d).1), minusP (sqP r a b).2 (timesP (t, 1) (sqP r c d).2), r, rfl, m1.mono (by decide) (by decide), m2.mono (by decide) (by decide), hr1, ?_⟩
      exact ⟨mul3 x3, k⟩
/-- areas added from the left -/
structure SumA (n : Nat) (ls : List (List (Int × Int))) : Prop where
  it : ∀ p ∈ ls, ∀ x ∈ p, OkP 4000 x
  pre : ∀ i, ∀ x ∈ sumL n (ls.take i), OkP 4000 x
  len : ∀ i, (sumL n (ls.take i)).length ≤ 4
def f_area_total (u : Ua) : FS := fun ds Kp _ => ∃ ns ls, ds = [unD u ns, .lst (ls.map lenD)] ∧ ns.length ≤ 2 ∧ SumA (areaN ns.length) ls ∧ Kp (lenD (sumL (areaN ns.length) ls))
abbrev s_area_total : Stmt := top 45
theorem sc_area_total : FnScope ["units", "areas", "found", "one"] ["units", "areas"] (defScope s_area_total) := ⟨rfl, rfl, rfl, by decide +kernel, rfl, by decide +kernel, by decide +kernel⟩
theorem ok_area_total {G : Pg} {k : Nat} {u : Ua} (T : Tx G) (U : UnF G u) (h : At G "area_total" s_area_total) (c_nought_area : Fn G "nought_area" k ["units"] (f_nought_area u)) (c_area_plus : Fn G "area_plus" k ["one", "other"] f_area_plus) : Fn G "area_total" (k + 1) ["units", "areas"] (f_area_total u) := by
  obtain ⟨fa, fd, F, hm⟩ := h
  refine Fn.of F hm sc_area_total (fun _ _ _ _ _ _ us hl => match us, hl with | [_, _], _ => rfl) ?_
  intro cdv A outer s H E dr M ds Kp Ke tk po hr hl hf
  have tb := T.b
  have nd := sc_area_total.nd
  obtain ⟨ns, ls, rfl, hn, so, k⟩ := hf
  walk_at "go"
  refine ⟨ns, rfl, hn, ?_⟩
  walk_at "go"
  refine ds_for (.n 3) po rfl (pg_name nd rfl (.inl rfl) (.inr rfl)) ?_
  walk_at "go"
  refine ⟨fun i δ' => ∃ o, δ' = [.im (unD u ns), .im (.lst (ls.map lenD)), .im (lenD (sumL (areaN ns.length) (ls.take i))), o], ⟨_, rfl⟩, ?_, ?_⟩
  · rintro i d δ' hd ⟨o, rfl⟩
    refine ⟨trivial, ?_⟩
    rw [List.getElem?_map] at hd
    obtain ⟨p, hp, rfl⟩ := Option.map_eq_some_iff.mp hd
    walk_at "go"
    refine ⟨_, p, rfl, ?_, so.pre i, so.it p (List.mem_of_getElem? hp), ?_⟩
    · have := so.len i; omega
    walk_at "go"
    refine ⟨.im (lenD p), ?_⟩
    rw [sumL_take hp]
    rfl
  · rintro δ' ⟨o, rfl⟩
    walk_at "go"
    rw [List.length_map, List.take_length]
    exact k
/-! ### the package's areas, told to all -/
theorem zwm {α : Type} {f : α → α → α} : ∀ {l m : List α} {z : α}, z ∈ List.zipWith f l m → ∃ x ∈ l, ∃ y ∈ m, z = f x y
  | [], _, z, h => by simp at h
  | _ :: _, [], z, h => by simp at h
  | x :: l, y :: m, z, h => by
    rw [List.zipWith_cons_cons] at h
    rcases List.mem_cons.mp h with rfl | h
    · exact ⟨x, by simp, y, by simp, rfl⟩
    · obtain ⟨a, ha, b, hb, e⟩ := zwm h
      exact ⟨a, List.mem_cons_of_mem _ ha, b, List.mem_cons_of_mem _ hb, e⟩
def f_is_area (u : Ua) : FS := fun ds Kp Ke => ∃ du d, ds = [du, d] ∧ ((∃ ns, du = unD u ns ∧ ns.length ≤ 2 ∧ pl d = true ∧ Kp (.bl (isLen (areaN ns.length) d))) ∨ (prim du = true ∧ Ke ⟨u.bUnits, [], []⟩))
abbrev s_is_area : Stmt := top 46
theorem sc_is_area : FnScope ["units", "thing"] ["units", "thing"] (defScope s_is_area) := ⟨rfl, rfl, rfl, by decide +kernel, rfl, by decide +kernel, by decide +kernel⟩
theorem okd_is_area {G : Pg} {k : Nat} {u : Ua} (T : Tx G) (U : UnF G u) (h : At G "is_area" s_is_area) (c_need_units : Fn G "need_units" k ["units"] (f_need_units u)) (c_is_area_of : Fn G "is_area_of" k ["units", "thing"] (f_is_area_of u)) : FnD G "is_area" s_is_area (k + 1) ["units", "thing"] (f_is_area u) := by
  obtain ⟨fa, fd, F, hm⟩ := h
  refine ⟨fa, fd, hm, F, fn_ok F sc_is_area ?_⟩
  intro cdv A outer s H E dr M ds Kp Ke tk po hr hl hf
  have tb := T.b
  have nd := sc_is_area.nd
  obtain ⟨du, d, rfl, hc⟩ := hf
  walk_at "go"
  rcases hc with ⟨ns, rfl, hn, hp, k⟩ | ⟨hp, k⟩
  · refine .inl ⟨ns, rfl, ?_⟩
    walk_at "go"
    exact ⟨ns, d, rfl, hn, hp, k⟩
  · exact .inr ⟨hp, k⟩
def f_product (u : Ua) : FS := fun ds Kp Ke => ∃ du d e, ds = [du, d, e] ∧ ((∃ ns, du = unD u ns ∧ ns.length ≤ 2 ∧ (∀ r ∈ ns, sz 7 r) ∧ pl d = true ∧ (if isLen (ns.length + 1) d = true then (pl e = true ∧ (if isLen (ns.length + 1) e = true then ∃ p q, lenOf d = lenD p ∧ lenOf e = lenD q ∧ p.length = ns.length + 1 ∧ q.length = ns.length + 1 ∧ (∀ x ∈ p, OkP 200 x) ∧ (∀ x ∈ q, OkP 200 x) ∧ Kp (lenD (prodP ns p q)) else Ke ⟨u.bOther, [], []⟩)) else Ke ⟨u.bOne, [], []⟩)) ∨ (prim du = true ∧ Ke ⟨u.bUnits, [], []⟩))
abbrev s_product : Stmt := top 47
theorem sc_product : FnScope ["units", "one", "other"] ["units", "one", "other"] (defScope s_product) := ⟨rfl, rfl, rfl, by decide +kernel, rfl, by decide +kernel, by decide +kernel⟩
theorem okd_product {G : Pg} {k : Nat} {u : Ua} (T : Tx G) (U : UnF G u) (h : At G "product" s_product) (c_need_two : Fn G "need_two" k ["units", "one", "other"] (f_need_two u)) (c_as_length : Fn G "as_length" k ["thing"] f_as_length) (c_product_of : Fn G "product_of" k ["units", "one", "other"] (f_product_of u)) : FnD G "product" s_product (k + 1) ["units", "one", "other"] (f_product u) := by
  obtain ⟨fa, fd, F, hm⟩ := h
  refine ⟨fa, fd, hm, F, fn_ok F sc_product ?_⟩
  intro cdv A outer s H E dr M ds Kp Ke tk po hr hl hf
  have tb := T.b
  have nd := sc_product.nd
  obtain ⟨du, d, e, rfl, hc⟩ := hf
  walk_at "go"
  refine ⟨du, d, e, rfl, ?_⟩
  rcases hc with ⟨ns, rfl, hn, hr7, hp, k⟩ | ⟨hp, k⟩
  rotate_left
  · exact .inr ⟨hp, k⟩
  refine .inl ⟨ns, rfl, hn, hp, ?_⟩
  cases he : isLen (ns.length + 1) d with
  | true =>
    rw [he, if_pos rfl] at k
    obtain ⟨hp2, k⟩ := k
    rw [if_pos rfl]
    refine ⟨hp2, ?_⟩
    cases he2 : isLen (ns.length + 1) e with
    | true =>
      rw [he2, if_pos rfl] at k
      obtain ⟨p, q, e1, e2, pl, ql, h1, h2, k⟩ := k
      obtain ⟨l, hs, hl⟩ := isLen_seq he
      obtain ⟨m, hm, hl2⟩ := isLen_seq he2
      rw [if_pos rfl]
      walk_at "go"
      refine ⟨d, l, rfl, hs, pl_items hp hs, by omega, ?_⟩
      rw [← lenOf_seq hs, e1]
      walk_at "go"
      refine ⟨e, m, rfl, hm, pl_items hp2 hm, by omega, ?_⟩
      rw [← lenOf_seq hm, e2]
      walk_at "go"
      exact ⟨ns, p, q, rfl, hn, hr7, pl, ql, h1, h2, k⟩
    | false =>
      rw [he2, if_neg Bool.false_ne_true] at k
      rw [if_neg Bool.false_ne_true]
      exact k
  | false =>
    rw [he, if_neg Bool.false_ne_true] at k
    rw [if_neg Bool.false_ne_true]
    exact k
def f_area_sum (u : Ua) : FS := fun ds Kp Ke => ∃ du d, ds = [du, d] ∧ ∃ ns, du = unD u ns ∧ ns.length ≤ 2 ∧ pl d = true ∧ (if areLen (areaN ns.length) d = true then ∃ l ls, seqD d = some l ∧ l.map lenOf = ls.map lenD ∧ SumA (areaN ns.length) ls ∧ Kp (lenD (sumL (areaN ns.length) ls)) else Ke ⟨u.bAreas, [], []⟩)
abbrev s_area_sum : Stmt := top 48
theorem sc_area_sum : FnScope ["units", "areas", "one"] ["units", "areas"] (defScope s_area_sum) := ⟨rfl, rfl, rfl, by decide +kernel, rfl, by decide +kernel, by decide +kernel⟩
theorem okd_area_sum {G : Pg} {k : Nat} {u : Ua} (T : Tx G) (U : UnF G u) (h : At G "area_sum" s_area_sum) (c_need_units : Fn G "need_units" k ["units"] (f_need_units u)) (c_is_area_of : Fn G "is_area_of" k ["units", "thing"] (f_is_area_of u)) (c_as_area : Fn G "as_area" k ["thing"] f_as_area) (c_area_total : Fn G "area_total" k ["units", "areas"] (f_area_total u)) : FnD G "area_sum" s_area_sum (k + 1) ["units", "areas"] (f_area_sum u) := by
  obtain ⟨fa, fd, F, hm⟩ := h
  refine ⟨fa, fd, hm, F, fn_ok F sc_area_sum ?_⟩
  intro cdv A outer s H E dr M ds Kp Ke tk po hr hl hf
  have tb := T.b
  have nd := sc_area_sum.nd
  obtain ⟨du, d, rfl, ns, rfl, hn, hp, k⟩ := hf
  have hp1 := pl_prim hp
  have hM := T.mostAreas
  walk_at "go"
  refine .inl ⟨ns, rfl, ?_⟩
  walk_at "go"
  refine ⟨hp1, ?_⟩
  rw [seq_isP]
  cases hs : seqD d with
  | none =>
    have e : areLen (areaN ns.length) d = false := by rw [areLen, hs]
    rw [e, if_neg Bool.false_ne_true] at k
    walk_at "go"
    exact ds_raise rfl tk U.xAreas rfl k
  | some l =>
    have e : areLen (areaN ns.length) d = (decide (l.length ≤ 400) && l.all (isLen (areaN ns.length))) := by rw [areLen, hs]
    rw [e] at k
    walk_at "go"
    refine gLen_seq hs ?_
    walk_at "go"
    by_cases h2 : l.length ≤ 400
    · refine brF (decide_eq_false (by omega)) ?_
      rw [decide_eq_true h2, Bool.true_and] at k
      walk_at "go"
      refine ⟨l, hs, ?_⟩
      refine lc_map (fun d => .bl (isLen (areaN ns.length) d)) (by omega) (fun _ _ => trivial) (fun d hd A s H C cl fp => ?_) ?_
      · walk_at "go"
        exact ⟨ns, d, rfl, hn, plL_mem (pl_items hp hs) d hd, rfl⟩
      walk_at "go"
      refine ⟨_, l.map (isLen (areaN ns.length)), rfl, blL_fun (isLen (areaN ns.length)) l, ?_⟩
      rw [List.all_map]
      cases hall : l.all (isLen (areaN ns.length)) with
      | false =>
        rw [hall, if_neg Bool.false_ne_true] at k
        refine ⟨_, rfl, ?_⟩
        refine brT (by show (!(l.all (id ∘ isLen (areaN ns.length)))) = true; rw [show (id ∘ isLen (areaN ns.length)) = isLen (areaN ns.length) from rfl, hall]; rfl) ?_
        walk_at "go"
        exact ds_raise rfl tk U.xAreas rfl k
      | true =>
        rw [hall, if_pos rfl] at k
        refine ⟨_, rfl, ?_⟩
        refine brF (by show (!(l.all (id ∘ isLen (areaN ns.length)))) = false; rw [show (id ∘ isLen (areaN ns.length)) = isLen (areaN ns.length) from rfl, hall]; rfl) ?_
        obtain ⟨l', ls, hs', em, so, k⟩ := k
        rw [hs] at hs'
        cases hs'
        walk_at "go"
        refine ⟨l, hs, ?_⟩
        refine lc_map lenOf (by omega) (fun _ _ => trivial) (fun d hd A s H C cl fp => ?_) ?_
        · obtain ⟨m, hm, hl2⟩ := isLen_seq (List.all_eq_true.mp hall d hd)
          have h4 := areaN_le hn
          walk_at "go"
          exact ⟨d, m, rfl, hm, pl_items (plL_mem (pl_items hp hs) d hd) hm, by omega, (lenOf_seq hm).symm⟩
        rw [em]
        walk_at "go"
        exact ⟨ns, ls, rfl, hn, so, k⟩
    · rw [decide_eq_false h2, Bool.false_and, if_neg Bool.false_ne_true] at k
      refine brT (decide_eq_true (by omega)) ?_
      walk_at "go"
      exact ds_raise rfl tk U.xAreas rfl k
def f_area_sign (u : Ua) : FS := fun ds Kp Ke => ∃ du d, ds = [du, d] ∧ ∃ ns, du = unD u ns ∧ ns.length ≤ 2 ∧ (∀ r ∈ ns, sz 7 r) ∧ pl d = true ∧ (if isLen (areaN ns.length) d = true then ∃ p, lenOf d = lenD p ∧ p.length = areaN ns.length ∧ (∀ x ∈ p, OkQ 100 90 x) ∧ Kp (.int (areaS ns p)) else Ke ⟨u.bArea, [], []⟩)
abbrev s_area_sign : Stmt := top 49
theorem sc_area_sign : FnScope ["units", "area"] ["units", "area"] (defScope s_area_sign) := ⟨rfl, rfl, rfl, by decide +kernel, rfl, by decide +kernel, by decide +kernel⟩
theorem okd_area_sign {G : Pg} {k : Nat} {u : Ua} (T : Tx G) (U : UnF G u) (h : At G "area_sign" s_area_sign) (c_need_units : Fn G "need_units" k ["units"] (f_need_units u)) (c_is_area_of : Fn G "is_area_of" k ["units", "thing"] (f_is_area_of u)) (c_as_area : Fn G "as_area" k ["thing"] f_as_area) (c_area_sign_of : Fn G "area_sign_of" k ["units", "area"] (f_area_sign_of u)) : FnD G "area_sign" s_area_sign (k + 1) ["units", "area"] (f_area_sign u) := by
  obtain ⟨fa, fd, F, hm⟩ := h
  refine ⟨fa, fd, hm, F, fn_ok F sc_area_sign ?_⟩
  intro cdv A outer s H E dr M ds Kp Ke tk po hr hl hf
  have tb := T.b
  have nd := sc_area_sign.nd
  obtain ⟨du, d, rfl, ns, rfl, hn, hr7, hp, k⟩ := hf
  walk_at "go"
  refine .inl ⟨ns, rfl, ?_⟩
  walk_at "go"
  refine ⟨ns, d, rfl, hn, hp, ?_⟩
  cases he : isLen (areaN ns.length) d with
  | true =>
    rw [he, if_pos rfl] at k
    obtain ⟨p, e1, pl, hok, k⟩ := k
    obtain ⟨l, hs, hl⟩ := isLen_seq he
    have h4 := areaN_le hn
    walk_at "go"
    refine ⟨d, l, rfl, hs, pl_items hp hs, by omega, ?_⟩
    rw [← lenOf_seq hs, e1]
    walk_at "go"
    exact ⟨ns, p, rfl, hn, hr7, pl, hok, k⟩
  | false =>
    rw [he, if_neg Bool.false_ne_true] at k
    walk_at "go"
    exact ds_raise rfl tk U.xArea rfl k
def f_is_lesser (u : Ua) : FS := fun ds Kp Ke => ∃ du d e, ds = [du, d, e] ∧ ∃ ns, du = unD u ns ∧ ns.length ≤ 2 ∧ (∀ r ∈ ns, sz 7 r) ∧ pl d = true ∧ (if isLen (areaN ns.length) d = true then (pl e = true ∧ (if isLen (areaN ns.length) e = true then ∃ p q, lenOf d = lenD p ∧ lenOf e = lenD q ∧ p.length = areaN ns.length ∧ q.length = areaN ns.length ∧ (∀ x ∈ p, OkQ 55 43 x) ∧ (∀ x ∈ q, OkQ 55 43 x) ∧ Kp (.bl (decide (areaS ns (List.zipWith minusP p q) < 0))) else Ke ⟨u.bOther, [], []⟩)) else Ke ⟨u.bOne, [], []⟩)
abbrev s_is_lesser : Stmt := top 50
theorem sc_is_lesser : FnScope ["units", "one", "other"] ["units", "one", "other"] (defScope s_is_lesser) := ⟨rfl, rfl, rfl, by decide +kernel, rfl, by decide +kernel, by decide +kernel⟩
theorem okd_is_lesser {G : Pg} {k : Nat} {u : Ua} (T : Tx G) (U : UnF G u) (h : At G "is_lesser" s_is_lesser) (c_need_units : Fn G "need_units" k ["units"] (f_need_units u)) (c_is_area_of : Fn G "is_area_of" k ["units", "thing"] (f_is_area_of u)) (c_as_area : Fn G "as_area" k ["thing"] f_as_area) (c_area_minus : Fn G "area_minus" k ["one", "other"] f_area_minus) (c_area_sign_of : Fn G "area_sign_of" k ["units", "area"] (f_area_sign_of u)) : FnD G "is_lesser" s_is_lesser (k + 1) ["units", "one", "other"] (f_is_lesser u) := by
  obtain ⟨fa, fd, F, hm⟩ := h
  refine ⟨fa, fd, hm, F, fn_ok F sc_is_lesser ?_⟩
  intro cdv A outer s H E dr M ds Kp Ke tk po hr hl hf
  have tb := T.b
  have nd := sc_is_lesser.nd
  obtain ⟨du, d, e, rfl, ns, rfl, hn, hr7, hp, k⟩ := hf
  walk_at "go"
  refine .inl ⟨ns, rfl, ?_⟩
  walk_at "go"
  refine ⟨ns, d, rfl, hn, hp, ?_⟩
  cases he : isLen (areaN ns.length) d with
  | true =>
    rw [he, if_pos rfl] at k
    obtain ⟨hp2, k⟩ := k
    walk_at "go"
    refine ⟨ns, e, rfl, hn, hp2, ?_⟩
    cases he2 : isLen (areaN ns.length) e with
    | true =>
      rw [he2, if_pos rfl] at k
      obtain ⟨p, q, e1, e2, pl, ql, h1, h2, k⟩ := k
      obtain ⟨l, hs, hl⟩ := isLen_seq he
      obtain ⟨m, hm, hl2⟩ := isLen_seq he2
      have h4 := areaN_le hn
      walk_at "go"
      refine ⟨d, l, rfl, hs, pl_items hp hs, by omega, ?_⟩
      rw [← lenOf_seq hs, e1]
      walk_at "go"
      refine ⟨e, m, rfl, hm, pl_items hp2 hm, by omega, ?_⟩
      rw [← lenOf_seq hm, e2]
      walk_at "go"
      refine ⟨p, q, rfl, by omega, fun x hx => (h1 x hx).ok (by decide) (by decide), fun x hx => (h2 x hx).ok (by decide) (by decide), ?_⟩
      walk_at "go"
      refine ⟨ns, _, rfl, hn, hr7, by rw [List.length_zipWith]; omega, fun x hx => ?_, ?_⟩
      rotate_left
      · walk_at "go"
        exact k
      obtain ⟨v, hv, w, hw, rfl⟩ := zwm hx
      exact (minusQ (n := 98) (h1 v hv) (h2 w hw) (by decide) (by decide)).mono (by decide) (by decide)
    | false =>
      rw [he2, if_neg Bool.false_ne_true] at k
      walk_at "go"
      exact ds_raise rfl tk U.xOther rfl k
  | false =>
    rw [he, if_neg Bool.false_ne_true] at k
    walk_at "go"
    exact ds_raise rfl tk U.xOne rfl k

/-! ### the law's own signs: roots of numbers -/
open Sgn in
/-- the guess h, and the next one -/
structure RfI (N h l : Int) : Prop where
  h0 : 0 ≤ h
  up : N < (h + 1) * (h + 1)
  sz : sz 9000 h
  nx : 0 < h → l = (h + N / h) / 2
  nz : h = 0 → l = 0
theorem le_sq {h : Int} (h1 : 1 ≤ h) : h ≤ h * h := by
  have := Int.mul_le_mul_of_nonneg_left h1 (show (0 : Int) ≤ h by omega)
  rw [Int.mul_one] at this
  exact this
theorem rf1 {N h : Int} (h1 : 1 ≤ h) (hc : h * h * 18446744073709551616 ≤ N) : h < h * 4294967296 ∧ h * 4294967296 ≤ N ∧ (h * 4294967296) * (h * 4294967296) ≤ N := by
  have e : (h * 4294967296) * (h * 4294967296) = h * h * 18446744073709551616 := by grind
  have hh := le_sq h1
  rw [e]
  omega
theorem rf2 {N h : Int} (h1 : 1 ≤ h) (hc : h * h ≤ N) : h < h * 2 ∧ h * 2 ≤ 2 * N ∧ (h * 2) * (h * 2) ≤ 4 * N := by
  have e : (h * 2) * (h * 2) = 4 * (h * h) := by grind
  have hh := le_sq h1
  rw [e]
  omega
theorem sq_sz {N h : Int} {n : Nat} (h1 : 1 ≤ h) (hN : sz (n + n) N) (hc : h * h ≤ N) : sz n h := by
  show h.natAbs < 2 ^ n
  refine Nat.lt_of_not_le fun z => ?_
  have a : 2 ^ n * 2 ^ n ≤ h.natAbs * h.natAbs := Nat.mul_le_mul z z
  have b : h.natAbs * h.natAbs = (h * h).natAbs := (Int.natAbs_mul h h).symm
  have c : (h * h).natAbs ≤ N.natAbs := by
    have : 0 ≤ h * h := Int.mul_nonneg (by omega) (by omega)
    omega
  have d : N.natAbs < 2 ^ (n + n) := hN
  rw [Nat.pow_add] at d
  omega
theorem sz4 {N : Int} {n : Nat} (h : sz n N) : sz (n + 2) (4 * N) := by
  show (4 * N).natAbs < 2 ^ (n + 2)
  have d : N.natAbs < 2 ^ n := h
  rw [Nat.pow_add, Int.natAbs_mul, show (4 : Int).natAbs = 4 from rfl, show 2 ^ 2 = 4 from rfl]
  omega
theorem rf_one {n : Nat} : sz (n + 1) 1 := Nat.one_lt_two_pow (by omega)
theorem e64 : (2 : Int) ^ Int.toNat 64 = 18446744073709551616 := by decide +kernel
theorem e32 : (2 : Int) ^ Int.toNat 32 = 4294967296 := by decide +kernel
def f__law_root_floor : FS := fun ds Kp _ => ∃ N, ds = [.int N] ∧ 0 ≤ N ∧ sz 17990 N ∧ Kp (.int (Sgn.fl N))
abbrev s__law_root_floor : Stmt := top 72
theorem sc__law_root_floor : FnScope ["number", "high", "later"] ["number"] (defScope s__law_root_floor) := ⟨rfl, rfl, rfl, by decide +kernel, rfl, by decide +kernel, by decide +kernel⟩
theorem ok__law_root_floor {G : Pg} {k : Nat} (T : Tx G) (h : At G "_law_root_floor" s__law_root_floor) : Fn G "_law_root_floor" (k + 1) ["number"] f__law_root_floor := by
  obtain ⟨fa, fd, F, hm⟩ := h
  refine Fn.of F hm sc__law_root_floor (fun _ _ _ _ _ _ us hl => match us, hl with | [_], _ => rfl) ?_
  intro cdv A outer s H E dr M ds Kp Ke tk po hr hl hf
  have tb := T.b
  have nd := sc__law_root_floor.nd
  obtain ⟨N, rfl, hN, hs, k⟩ := hf
  walk_at "go"
  refine ds_while (fun δ => ∃ h : Int, δ = [.im (.int N), .im (.int h), .un] ∧ 1 ≤ h ∧ (h = 1 ∨ (h * h ≤ N ∧ h ≤ N))) (fun δ => (N + 2).toNat - slotM 1 δ) (by assumption) ⟨1, rfl, by decide, .inl rfl⟩ (fun δ' hI => ?_)
  obtain ⟨h, rfl, h1, hq⟩ := hI
  have hz : sz 8995 h := by
    rcases hq with rfl | hq
    · exact rf_one (n := 8994)
    · exact sq_sz (n := 8995) h1 hs hq.1
  walk_at "go"
  refine ⟨hz.cmul hz (by decide) (by decide) (by decide), ?_⟩
  walk_at "go"
  refine ⟨⟨by decide, by decide +kernel⟩, ?_⟩
  refine ⟨(hz.mul hz).cmul (m := 65) (show (18446744073709551616 : Int).natAbs < 2 ^ 65 by decide +kernel) (by decide) (by decide) (by decide), ?_⟩
  walk_at "go"
  rw [e64]
  refine ⟨fun z => ?_, fun _ => ?_⟩
  · have hc : h * h * 18446744073709551616 ≤ N := of_decide_eq_true z
    obtain ⟨g1, g2, g3⟩ := rf1 h1 hc
    walk_at "go"
    refine ⟨⟨by decide, by decide +kernel⟩, ?_⟩
    show gMul (.int h) (.int ((2 : Int) ^ Int.toNat 32)) _
    rw [e32]
    refine ⟨hz.cmul (m := 33) (show (4294967296 : Int).natAbs < 2 ^ 33 by decide +kernel) (by decide) (by decide) (by decide), ?_⟩
    walk_at "go"
    refine ⟨⟨h * 4294967296, rfl, by omega, .inr ⟨g3, g2⟩⟩, ?_⟩
    show (N + 2).toNat - (h * 4294967296).natAbs < (N + 2).toNat - h.natAbs
    omega
  walk_at "go"
  refine ds_while (fun δ => ∃ h : Int, δ = [.im (.int N), .im (.int h), .un] ∧ 1 ≤ h ∧ (h = 1 ∨ (h * h ≤ 4 * N ∧ h ≤ 2 * N))) (fun δ => (2 * N + 2).toNat - slotM 1 δ) (by assumption) ⟨h, rfl, h1, hq.imp id fun z => ⟨by omega, by omega⟩⟩ (fun δ' hI => ?_)
  obtain ⟨h, rfl, h1, hq⟩ := hI
  have hz : sz 8996 h := by
    rcases hq with rfl | hq
    · exact rf_one (n := 8995)
    · exact sq_sz (n := 8996) h1 (sz4 (n := 17990) hs) hq.1
  walk_at "go"
  refine ⟨hz.cmul hz (by decide) (by decide) (by decide), ?_⟩
  walk_at "go"
  refine ⟨fun z => ?_, fun z => ?_⟩
  · have hc : h * h ≤ N := of_decide_eq_true z
    obtain ⟨g1, g2, g3⟩ := rf2 h1 hc
    walk_at "go"
    refine ⟨.inl (.inr (by decide)), ?_⟩
    walk_at "go"
    refine ⟨⟨h * 2, rfl, by omega, .inr ⟨g3, g2⟩⟩, ?_⟩
    show (2 * N + 2).toNat - (h * 2).natAbs < (2 * N + 2).toNat - h.natAbs
    omega
  have hc : N < h * h := Int.not_le.mp (of_decide_eq_false z)
  have c2 : CDivW 0 2 := ⟨by decide, by decide +kernel⟩
  walk_at "go"
  refine ⟨⟨by omega, hz.log (by decide) |> fun z => Nat.lt_trans z (by decide)⟩, ?_⟩
  walk_at "go"
  refine ⟨c2, ?_⟩
  walk_at "go"
  have up0 : N < (h + 1) * (h + 1) := by
    have : (h + 1) * (h + 1) = h * h + 2 * h + 1 := by grind
    omega
  refine ds_while (fun δ => ∃ h l : Int, δ = [.im (.int N), .im (.int h), .im (.int l)] ∧ RfI N h l) (slotM 1) (by assumption) ⟨h, _, rfl, by omega, up0, hz.mono (by decide), fun _ => rfl, fun z => by omega⟩ (fun δ' hI => ?_)
  obtain ⟨h, l, rfl, I⟩ := hI
  have i0 := I.h0
  walk_at "go"
  refine ⟨fun z => ?_, fun z => ?_⟩
  · have hc : l < h := of_decide_eq_true z
    have hp : 0 < h := by
      rcases Int.lt_or_eq_of_le i0 with g | g
      · exact g
      · have := I.nz g.symm; omega
    have el := I.nx hp
    have q0 : 0 ≤ N / h := Int.ediv_nonneg hN (by omega)
    have l0 : 0 ≤ l := by omega
    have lu := Sgn.newton hN hp
    rw [← el] at lu
    have ls : sz 9000 l := by
      show l.natAbs < 2 ^ 9000
      have : h.natAbs < 2 ^ 9000 := I.sz
      omega
    walk_at "go"
    refine ⟨fun z => ?_, fun z => ?_⟩
    · have lp : 0 < l := of_decide_eq_true z
      walk_at "go"
      refine ⟨⟨lp, ls.log (by decide)⟩, ?_⟩
      walk_at "go"
      refine ⟨c2, ?_⟩
      walk_at "go"
      refine ⟨⟨l, _, rfl, l0, lu, ls, fun _ => rfl, fun z => by omega⟩, ?_⟩
      show l.natAbs < h.natAbs
      omega
    · have lp : ¬ 0 < l := of_decide_eq_false z
      walk_at "go"
      refine ⟨⟨l, 0, rfl, l0, lu, ls, fun z => absurd z lp, fun _ => rfl⟩, ?_⟩
      show l.natAbs < h.natAbs
      omega
  · have hc : ¬ l < h := of_decide_eq_false z
    walk_at "go"
    rw [← Sgn.newton_end hN i0 I.up (by
      rcases Int.lt_or_eq_of_le i0 with g | g
      · refine .inr ⟨g, ?_⟩
        rw [← I.nx g]; omega
      · exact .inl g.symm)] at k
    exact k
/-! ### the law's own signs: bounds from below and above -/
theorem pg_tup2 {X : Cx} {i j : Nat} {x y : Str} {px py pos : Pos} {k : Nat} (nd : X.N.Nodup) (hi : X.N[i]? = some x) (hj : X.N[j]? = some y) (h1 : Loc X.env.scope x) (h2 : X.fn x = true ∨ X.env.scope.names.lookup x = some .local) (h3 : Loc X.env.scope y) (h4 : X.fn y = true ∨ X.env.scope.names.lookup y = some .local)
    (hc : X.calm = true := by rfl) (hn : (assignEach [.Name x px, .Name y py] X.env).length = 2 := by rfl) (hst : (assignEach [.Name x px, .Name y py] X.env).findIdx? (·.1) = none := by rfl)
    (g1 : (assignEach [.Name x px, .Name y py] X.env).map (·.2) = assign (.Name x px) X.env :: (assignEach [.Name y py] X.env).map (·.2) := by rfl) (g2 : (assignEach [.Name y py] X.env).map (·.2) = assign (.Name y py) X.env :: (assignEach [] X.env).map (·.2) := by rfl) :
    PG X (.Tuple [.Name x px, .Name y py] k pos) ((Tg.t [i, j]).g X.K) :=
  pg_tup hc (pgs_cons (pg_name nd hi h1 h2) (pgs_cons (pg_name nd hj h3 h4) pgs_nil g2) g1) hn hst
/-- the numbers of ratios over a common bottom -/
def numsB (B : Int) (p : List (Int × Int)) : List Int := p.map fun x => x.1 * (B / x.2)
def numD (B : Int) : D → D
  | .tup [.int a, .int b] => .int (a * (B / b))
  | d => d
theorem numD_map (B : Int) (p : List (Int × Int)) : (p.map ratP).map (numD B) = (numsB B p).map D.int := by
  unfold numsB
  rw [List.map_map, List.map_map]; rfl
def nzF : D → Option D
  | .int i => if i = 0 then none else some (.int i)
  | _ => none
theorem nzF_map : ∀ ns : List Int, (ns.map D.int).filterMap nzF = (ns.filter fun i => i ≠ 0).map D.int
  | [] => rfl
  | n :: ns => by
    by_cases h : n = 0
    · subst h
      rw [List.map_cons, List.filterMap_cons_none rfl, nzF_map ns]; rfl
    · rw [List.map_cons, List.filterMap_cons_some (show nzF (.int n) = some (.int n) from if_neg h), nzF_map ns, List.filter_cons_of_pos (by simpa using h)]; rfl
theorem gcd_dv (x y : Int) : gcdI x y ∣ x ∧ gcdI x y ∣ y := ⟨Int.ofNat_dvd_left.mpr (Nat.gcd_dvd_left _ _), Int.ofNat_dvd_left.mpr (Nat.gcd_dvd_right _ _)⟩
theorem bot_step {B y : Int} (hB : 0 < B) (hy : 0 < y) : 0 < B * (y / gcdI B y) ∧ B ∣ B * (y / gcdI B y) ∧ y ∣ B * (y / gcdI B y) := by
  obtain ⟨g1, g2⟩ := gcd_dv B y
  have g0 : 0 < gcdI B y := gcdI_pos hy
  have hq : 0 < y / gcdI B y := Int.ediv_pos_of_pos_of_dvd hy (by omega) g2
  refine ⟨Int.mul_pos hB hq, ⟨_, rfl⟩, ?_⟩
  obtain ⟨c, hc⟩ := g1
  obtain ⟨e, he⟩ := g2
  have h1 : y / gcdI B y = e := by
    have := Int.mul_ediv_cancel_left e (show gcdI B y ≠ 0 by omega)
    rw [← he] at this; exact this
  rw [h1]
  refine ⟨c, ?_⟩
  have : B * e = gcdI B y * c * e := by rw [← hc]
  rw [this]
  have : y * c = gcdI B y * e * c := by rw [← he]
  rw [this]
  grind
def sizeAt (i : Nat) : Int := 4 * 1048576 ^ i
theorem sizeAt_pos (i : Nat) : 0 < sizeAt i := Int.mul_pos (by decide) (Int.pow_pos (by decide))
theorem sizeAt_sz (i : Nat) : sz (20 * i + 3) (sizeAt i) := by
  show (sizeAt i).natAbs < _
  have : (sizeAt i) = ((2 ^ (20 * i + 2) : Nat) : Int) := by
    unfold sizeAt
    rw [Nat.pow_add, Nat.pow_mul, Int.natCast_mul, Int.natCast_pow, show ((2 ^ 20 : Nat) : Int) = 1048576 by decide +kernel, show ((2 ^ 2 : Nat) : Int) = 4 from rfl, Int.mul_comm]
  rw [this, Int.natAbs_natCast]
  exact Nat.pow_lt_pow_right (by decide) (by omega)
/-- the bounds tell it -/
def ToldAt (l : List (Int × Int)) (S : Int) : Prop := 0 < Sgn.lo S l ∨ Sgn.hi S l < 0
theorem far_size {A : Int} (hA : A = 2 ^ 462) : 5 * Sgn.farB A ≤ sizeAt 399 := by
  subst hA
  unfold Sgn.farB sizeAt
  decide +kernel
theorem ex_b2i (N : Int) : b2i (!(Sgn.fl N * Sgn.fl N == N)) = Sgn.ex N := by
  unfold Sgn.ex b2i
  by_cases h : Sgn.fl N * Sgn.fl N = N
  · rw [if_pos h, beq_iff_eq.mpr h]; rfl
  · rw [if_neg h, beq_eq_false_iff_ne.mpr h]; rfl
theorem zipI_get {ns ms : List Int} {j : Nat} {d : D} (h : (zipD (ns.map D.int) (ms.map D.int))[j]? = some d) : ∃ n r, (ns.zip ms)[j]? = some (n, r) ∧ d = .tup [.int n, .int r] := by
  unfold zipD at h
  rw [List.getElem?_map] at h
  obtain ⟨⟨a, b⟩, hz, rfl⟩ := Option.map_eq_some_iff.mp h
  rw [List.getElem?_zip_eq_some] at hz
  obtain ⟨h1, h2⟩ := hz
  rw [List.getElem?_map] at h1 h2
  obtain ⟨n, hn, rfl⟩ := Option.map_eq_some_iff.mp h1
  obtain ⟨r, hr, rfl⟩ := Option.map_eq_some_iff.mp h2
  exact ⟨n, r, List.getElem?_zip_eq_some.mpr ⟨hn, hr⟩, rfl⟩
theorem zipI_len (ns ms : List Int) : (zipD (ns.map D.int) (ms.map D.int)).length = (ns.zip ms).length := by
  simp only [zipD, List.length_map, List.length_zip]
theorem sz_fl {n : Nat} {N : Int} (h0 : 0 ≤ N) (h : sz (n + n) N) (hn : 0 < n) : sz n (Sgn.fl N) := by
  obtain ⟨g0, g1, _⟩ := Sgn.fl_ok h0
  rcases Int.lt_or_eq_of_le g0 with g | g
  · exact sq_sz (by omega) h g1
  · rw [← g]
    show (0 : Int).natAbs < _
    exact Nat.pow_pos (by decide)
theorem le_of_sz {n : Nat} {i : Int} (h : sz n i) : -(2 ^ n : Int) ≤ i ∧ i ≤ 2 ^ n := by
  have h : i.natAbs < 2 ^ n := h
  have e : ((2 ^ n : Nat) : Int) = (2 : Int) ^ n := by rw [Int.natCast_pow]; rfl
  rw [← e]
  omega
abbrev mkz (B : Int) (ins : List Int) (p : List (Int × Int)) : List (Int × Int) := (numsB B p).zip ins
def f__law_sign_of : FS := fun ds Kp _ => ∃ ins p v, ds = [.lst (ins.map D.int), lenD p] ∧ p.length = ins.length ∧ p.length ≤ 4 ∧ (∀ x ∈ p, OkQ 100 90 x) ∧ (∀ r ∈ ins, 0 ≤ r ∧ sz 14 r) ∧ (∀ B, 0 < B → (∀ x ∈ p, x.2 ∣ B) → Sgn.Told v (mkz B ins p)) ∧ Kp (.int v)
abbrev s__law_sign_of : Stmt := top 73
theorem sc__law_sign_of : FnScope ["insides", "items", "bottom", "size", "item", "numbers", "number", "lap", "low", "high", "inside", "root", "is_whole"] ["insides", "items"] (defScope s__law_sign_of) := ⟨rfl, rfl, rfl, by decide +kernel, rfl, by decide +kernel, by decide +kernel⟩
theorem ok__law_sign_of {G : Pg} {k : Nat} (T : Tx G) (h : At G "_law_sign_of" s__law_sign_of) (c__law_gcd : Fn G "_law_gcd" k ["one", "other"] f__law_gcd) (c__law_root_floor : Fn G "_law_root_floor" k ["number"] f__law_root_floor) : Fn G "_law_sign_of" (k + 1) ["insides", "items"] f__law_sign_of := by
  obtain ⟨fa, fd, F, hm⟩ := h
  refine Fn.of F hm sc__law_sign_of (fun _ _ _ _ _ _ us hl => match us, hl with | [_, _], _ => rfl) ?_
  intro cdv A outer s H E dr M ds Kp Ke tk po hr hl hf
  have tb := T.b
  have nd := sc__law_sign_of.nd
  obtain ⟨ins, p, v, rfl, hl1, hl4, hp, hi, tv, k⟩ := hf
  walk_at "go"
  refine ds_asg (.t [2, 3]) (pg_tup2 nd rfl rfl (by first | exact .inl rfl | exact .inr rfl) (by first | exact .inl rfl | exact .inr rfl) (by first | exact .inl rfl | exact .inr rfl) (by first | exact .inl rfl | exact .inr rfl)) ?_
  walk_at "gl"
  refine ds_for (.n 4) po rfl (pg_name nd rfl (.inl rfl) (.inl rfl)) ?_
  walk_at "go"
  refine ⟨fun i δ' => ∃ B o, δ' = [.im (.lst (ins.map D.int)), .im (lenD p), .im (.int B), .im (.int 4), o, .un, .un, .un, .un, .un, .un, .un, .un] ∧ noOw o = true ∧ 0 < B ∧ sz (90 * i + 1) B ∧ ∀ x ∈ p.take i, x.2 ∣ B, ⟨1, _, rfl, rfl, by decide, rf_one (n := 0), fun x hx => by simp at hx⟩, ?_, ?_⟩
  · rintro i d δ' hd ⟨B, o, rfl, ho, hB, hs, hdv⟩
    rw [List.getElem?_map] at hd
    obtain ⟨x, hx, rfl⟩ := Option.map_eq_some_iff.mp hd
    have hxp := hp x (List.mem_of_getElem? hx)
    have hi4 : i < 4 := by have := (List.getElem?_eq_some_iff.mp hx).1; omega
    obtain ⟨b1, b2, b3⟩ := bot_step hB hxp.pos
    have hg : CDivW 0 (gcdI B x.2) := ⟨gcdI_pos hxp.pos, sz.log (n := 9000) (i := gcdI B x.2) (Nat.lt_of_le_of_lt (gcdI_le hxp.pos) (hxp.dn.mono (by decide))) (by decide)⟩
    have sq : sz 90 (x.2 / gcdI B x.2) := by
      show (x.2 / gcdI B x.2).natAbs < _
      rw [Int.natAbs_ediv_of_dvd (gcd_dv B x.2).2]
      exact Nat.lt_of_le_of_lt (Nat.div_le_self _ _) hxp.dn
    refine ⟨trivial, ?_⟩
    walk_at "go"
    refine ⟨B, x.2, rfl, ?_⟩
    walk_at "go"
    refine ⟨hg, ?_⟩
    refine ⟨hs.cmul sq (by omega) (by decide) (by omega), ?_⟩
    walk_at "go"
    refine ⟨_, .im (ratP x), rfl, rfl, b1, (hs.mul sq).mono (by omega), fun y hy => ?_⟩
    rw [List.take_succ, hx] at hy
    rcases List.mem_append.mp hy with hy | hy
    · exact Int.dvd_trans (hdv y hy) b2
    · rw [show y = x by simpa using hy]
      exact b3
  rintro δ' ⟨B, o, rfl, ho, hB, hs, hdv⟩
  rw [List.length_map] at hs hdv
  rw [List.take_length] at hdv
  have hs : sz 361 B := hs.mono (by omega)
  have T := tv B hB hdv
  walk_at "go"
  refine ds_setLcN 5 4 rfl nd rfl rfl rfl rfl (by simp [noOwn, ho]) rfl (by walk_at "lc") ?_
  walk_at "gl"
  refine lc_map (numD B) (by rw [List.length_map]; omega) (fun _ _ => trivial) (fun d hd A s H C cl fp => ?_) ?_
  · obtain ⟨x, hx, rfl⟩ := List.mem_map.mp hd
    have hxp := hp x hx
    have sb : sz 361 (B / x.2) := by
      show (B / x.2).natAbs < _
      rw [Int.natAbs_ediv_of_dvd (hdv x hx)]
      exact Nat.lt_of_le_of_lt (Nat.div_le_self _ _) hs
    walk_at "gl"
    refine ⟨⟨hxp.pos, sz.log (n := 9000) (hxp.dn.mono (by decide)) (by decide)⟩, ?_⟩
    refine ⟨hxp.up.cmul sb (by decide) (by decide) (by decide), ?_⟩
    rfl
  rw [numD_map]
  have hns : ∀ n ∈ numsB B p, sz 461 n := fun n hn => by
    obtain ⟨x, hx, rfl⟩ := List.mem_map.mp hn
    have sb : sz 361 (B / x.2) := by
      show (B / x.2).natAbs < _
      rw [Int.natAbs_ediv_of_dvd (hdv x hx)]
      exact Nat.lt_of_le_of_lt (Nat.div_le_self _ _) hs
    exact (hp x hx).up.mul sb
  have hnl : (numsB B p).length = ins.length := by unfold numsB; rw [List.length_map]; exact hl1
  have T : Sgn.Told v ((numsB B p).zip ins) := T
  have hn4 : (numsB B p).length ≤ 4 := by omega
  clear tv hdv hs hp
  generalize numsB B p = ns at *
  walk_at "gl"
  refine lc_filter nzF (by rw [List.length_map]; omega) (fun _ _ => trivial) (fun d hd A s H C cl fp => ?_) ?_
  · obtain ⟨n, hn, rfl⟩ := List.mem_map.mp hd
    walk_at "gl"
    refine ⟨fun (z : (!(n == 0)) = true) => ?_, fun (z : (!(n == 0)) = false) => ?_⟩
    · have hz : n ≠ 0 := by simpa using z
      intro s H C cl fp
      walk_at "gl"
      exact if_neg hz
    · have hz : n = 0 := by simpa using z
      exact if_pos hz
  walk_at "gl"
  rw [nzF_map]
  refine gEq_nil (okd_lst.mpr fun x hx => ?_) ?_
  · obtain ⟨n, _, rfl⟩ := List.mem_map.mp hx
    rfl
  cases hz : ((ns.filter fun i => i ≠ 0).map D.int).isEmpty with
  | true =>
    have e0 : ∀ n ∈ ns, n = 0 := fun n hn => by
      by_cases c : n = 0
      · exact c
      · have : n ∈ ns.filter fun i => i ≠ 0 := List.mem_filter.mpr ⟨hn, by simpa using c⟩
        rw [List.isEmpty_iff, List.map_eq_nil_iff] at hz
        rw [hz] at this
        simp at this
    have ev : v = 0 := T.zr fun q hq => e0 q.1 (List.of_mem_zip (a := q.1) (b := q.2) hq).1
    walk_at "gl"
    rw [ev] at k
    exact k
  | false =>
    have nz : ¬ ∀ q ∈ ns.zip ins, q.1 = 0 := fun h => by
      have : ns.filter (fun i => i ≠ 0) = [] := List.filter_eq_nil_iff.mpr fun n hn => by
        obtain ⟨j, hj⟩ := List.getElem?_of_mem hn
        have hj2 := (List.getElem?_eq_some_iff.mp hj).1
        have hz2 : (ns.zip ins)[j]? = some (n, ins[j]'(by omega)) := List.getElem?_zip_eq_some.mpr ⟨hj, by simp⟩
        have := h _ (List.mem_of_getElem? hz2)
        simpa using this
      rw [this] at hz
      cases hz
    walk_at "gl"
    refine ds_for (.n 7) po rfl (pg_name nd rfl (.inl rfl) (.inl rfl)) ?_
    walk_at "gl"
    refine ⟨by decide, by decide, ?_⟩
    refine ⟨fun i δ' => ∃ o4 o6 o7 o8 o9 o10 o11 o12, δ' = [.im (.lst (ins.map D.int)), .im (lenD p), .im (.int B), .im (.int (sizeAt i)), o4, .im (.lst (ns.map D.int)), o6, o7, o8, o9, o10, o11, o12] ∧ (0 < i → ¬ ToldAt (ns.zip ins) (sizeAt (i - 1))), ⟨_, _, _, _, _, _, _, _, rfl, fun z => absurd z (by decide)⟩, ?_, ?_⟩
    · rintro i d δ' hd ⟨o4, o6, o7, o8, o9, o10, o11, o12, rfl, -⟩
      have hi400 : i < 400 := by
        have := (List.getElem?_eq_some_iff.mp hd).1
        simpa [intsD] using this
      have sS : sz 7983 (sizeAt i) := (sizeAt_sz i).mono (by omega)
      have pS := sizeAt_pos i
      generalize hSz : sizeAt i = S at *
      refine ⟨trivial, ?_⟩
      walk_at "gl"
      refine ds_asg (.t [8, 9]) (pg_tup2 nd rfl rfl (by first | exact .inl rfl | exact .inr rfl) (by first | exact .inl rfl | exact .inr rfl) (by first | exact .inl rfl | exact .inr rfl) (by first | exact .inl rfl | exact .inr rfl)) ?_
      walk_at "gl"
      refine ds_for (.t [6, 10]) po rfl (pg_tup2 nd rfl rfl (by first | exact .inl rfl | exact .inr rfl) (by first | exact .inl rfl | exact .inr rfl) (by first | exact .inl rfl | exact .inr rfl) (by first | exact .inl rfl | exact .inr rfl)) ?_
      walk_at "gl"
      refine ⟨fun j δ' => ∃ o6 o10 o11 o12, δ' = [.im (.lst (ins.map D.int)), .im (lenD p), .im (.int B), .im (.int S), o4, .im (.lst (ns.map D.int)), o6, .im d, .im (.int (Sgn.lo S ((ns.zip ins).take j))), .im (.int (Sgn.hi S ((ns.zip ins).take j))), o10, o11, o12], ⟨_, _, _, _, rfl⟩, ?_, ?_⟩
      · rintro j e δ' he ⟨p6, p10, p11, p12, rfl⟩
        obtain ⟨n, r, hz2, rfl⟩ := zipI_get he
        obtain ⟨m1, m2⟩ := List.of_mem_zip (List.mem_of_getElem? hz2)
        have sn := hns n m1
        obtain ⟨r0, sr⟩ := hi r m2
        have c1 : CMulD n n := sn.cmul sn (by decide) (by decide) (by decide)
        have c2 : CMulD (n * n) r := (sn.mul sn).cmul sr (by decide) (by decide) (by decide)
        have c3 : CMulD (n * n * r) S := ((sn.mul sn).mul sr).cmul sS (by decide) (by decide) (by decide)
        have c4 : CMulD (n * n * r * S) S := (((sn.mul sn).mul sr).mul sS).cmul sS (by decide) (by decide) (by decide)
        have sN : sz 17990 (n * n * r * S * S) := ((((sn.mul sn).mul sr).mul sS).mul sS).mono (by decide)
        have nn : 0 ≤ n * n := by
          rcases Int.le_total 0 n with z | z
          · exact Int.mul_nonneg z z
          · have := Int.mul_nonneg (show 0 ≤ -n by omega) (show 0 ≤ -n by omega)
            rw [Int.neg_mul_neg] at this; exact this
        have N0 : 0 ≤ n * n * r * S * S := Int.mul_nonneg (Int.mul_nonneg (Int.mul_nonneg nn r0) (by omega)) (by omega)
        have sF := sz_fl (n := 8995) N0 sN (by decide)
        have c5 : CMulD (Sgn.fl (n * n * r * S * S)) (Sgn.fl (n * n * r * S * S)) := sF.cmul sF (by decide) (by decide) (by decide)
        have eL := Sgn.lo_snoc S (n, r) ((ns.zip ins).take j)
        have eH := Sgn.hi_snoc S (n, r) ((ns.zip ins).take j)
        have et : (ns.zip ins).take (j + 1) = (ns.zip ins).take j ++ [(n, r)] := by rw [List.take_succ, hz2]; rfl
        have eX := ex_b2i (n * n * r * S * S)
        refine ⟨rfl, ?_⟩
        walk_at "gl"
        refine ⟨c1, ?_⟩
        walk_at "gl"
        refine ⟨c2, ?_⟩
        walk_at "gl"
        refine ⟨c3, ?_⟩
        walk_at "gl"
        refine ⟨c4, ?_⟩
        walk_at "gl"
        refine ⟨_, rfl, N0, sN, ?_⟩
        walk_at "gl"
        refine ⟨c5, ?_⟩
        walk_at "gl"
        refine ⟨c1, ?_⟩
        walk_at "gl"
        refine ⟨c2, ?_⟩
        walk_at "gl"
        refine ⟨c3, ?_⟩
        walk_at "gl"
        refine ⟨c4, ?_⟩
        walk_at "gl"
        refine ⟨fun z => ?_, fun z => ?_⟩
        · have h0 : 0 ≤ n := of_decide_eq_true z
          have l1 : Sgn.lowT S (n, r) = Sgn.fl (n * n * r * S * S) := if_pos h0
          have l2 : Sgn.highT S (n, r) = Sgn.fl (n * n * r * S * S) + Sgn.ex (n * n * r * S * S) := if_pos h0
          walk_at "gl"
          refine ⟨fun _ => ?_, fun z2 => absurd h0 (of_decide_eq_false z2)⟩
          walk_at "gl"
          refine ⟨.im (.int n), .im (.int r), .im (.int (Sgn.fl (n * n * r * S * S))), .im (.bl (Sgn.fl (n * n * r * S * S) * Sgn.fl (n * n * r * S * S) == n * n * r * S * S)), ?_⟩
          rw [et, eL, eH, l1, l2, ← eX]
          rfl
        · have h0 : ¬ 0 ≤ n := of_decide_eq_false z
          have l1 : Sgn.lowT S (n, r) = 0 - Sgn.fl (n * n * r * S * S) - Sgn.ex (n * n * r * S * S) := if_neg h0
          have l2 : Sgn.highT S (n, r) = 0 - Sgn.fl (n * n * r * S * S) := if_neg h0
          walk_at "gl"
          refine ⟨fun z2 => absurd (of_decide_eq_true z2) h0, fun _ => ?_⟩
          walk_at "gl"
          refine ⟨.im (.int n), .im (.int r), .im (.int (Sgn.fl (n * n * r * S * S))), .im (.bl (Sgn.fl (n * n * r * S * S) * Sgn.fl (n * n * r * S * S) == n * n * r * S * S)), ?_⟩
          rw [et, eL, eH, l1, l2, ← eX]
          rfl
      · rintro δ' ⟨p6, p10, p11, p12, rfl⟩
        rw [zipI_len, List.take_length]
        walk_at "gl"
        refine ⟨fun z => ?_, fun z => ?_⟩
        · have h : 0 < Sgn.lo S (ns.zip ins) := of_decide_eq_true z
          walk_at "gl"
          refine ⟨fun _ => ?_, fun z2 => absurd h (of_decide_eq_false z2)⟩
          walk_at "gl"
          rw [T.up S pS h] at k
          exact k
        · have h : ¬ 0 < Sgn.lo S (ns.zip ins) := of_decide_eq_false z
          walk_at "gl"
          refine ⟨fun z2 => ?_, fun z2 => ?_⟩
          · have h2 : Sgn.hi S (ns.zip ins) < 0 := of_decide_eq_true z2
            walk_at "gl"
            refine ⟨fun z3 => absurd (of_decide_eq_true z3) h, fun _ => ?_⟩
            walk_at "gl"
            rw [T.dn S pS h2] at k
            exact k
          · have h2 : ¬ Sgn.hi S (ns.zip ins) < 0 := of_decide_eq_false z2
            have es : sizeAt (i + 1) = S * 1048576 := by
              rw [← hSz]
              unfold sizeAt
              rw [Int.pow_succ, Int.mul_assoc]
            walk_at "gl"
            refine ⟨.inl (.inr (by decide)), ?_⟩
            walk_at "gl"
            refine ⟨o4, p6, .im d, .im (.int (Sgn.lo S (ns.zip ins))), .im (.int (Sgn.hi S (ns.zip ins))), p10, p11, p12, ?_, fun _ t => ?_⟩
            · rw [es]
              rfl
            · rw [Nat.add_sub_cancel, hSz] at t
              exact t.elim h h2
    · rintro δ' ⟨o4, o6, o7, o8, o9, o10, o11, o12, rfl, hno⟩
      exfalso
      have e400 : (intsD 0 (Int.toNat 400)).length = 400 := by simp [intsD]
      rw [e400] at hno
      refine hno (by decide) (T.far (2 ^ 462) (sizeAt 399) ?_ (fun q hq => ?_) nz (far_size rfl))
      · exact Int.pow_pos (by decide)
      · have := le_of_sz ((hns q.1 (List.of_mem_zip (a := q.1) (b := q.2) hq).1).mono (show 461 ≤ 462 by decide))
        exact this
/-! ### the law's own lengths and areas -/
theorem rok_all {ns : List Int} (h : Sgn.Rok ns) : ns.length ≤ 2 ∧ ∀ r ∈ ns, 1 ≤ r ∧ r ≤ 99 := by
  match ns, h with
  | [], _ => exact ⟨by decide, fun r hr => by simp at hr⟩
  | [a], h =>
    refine ⟨by simp, fun r hr => ?_⟩
    rw [List.mem_singleton.mp hr]
    exact ⟨h.2.ge.2, h.1⟩
  | [a, b], h =>
    refine ⟨by simp, fun r hr => ?_⟩
    simp only [List.mem_cons, List.mem_nil_iff, or_false] at hr
    rcases hr with rfl | rfl
    · exact ⟨h.2.2.1.ge.2, h.1⟩
    · exact ⟨h.2.2.2.1.ge.2, h.2.1⟩
  | _ :: _ :: _ :: _, h => exact h.elim
theorem rok_sz {ns : List Int} (h : Sgn.Rok ns) : ∀ r ∈ ns, sz 7 r := fun r hr => by
  have := (rok_all h).2 r hr
  show r.natAbs < 2 ^ 7
  omega
theorem insA_len {ns : List Int} (h : ns.length ≤ 2) : (Sgn.insA ns).length = areaN ns.length := by
  match ns, h with
  | [], _ => rfl
  | [_], _ => rfl
  | [_, _], _ => rfl
  | _ :: _ :: _ :: _, h => exact absurd h (by simp only [List.length_cons]; omega)
theorem insA_sz {ns : List Int} (h : Sgn.Rok ns) : ∀ r ∈ Sgn.insA ns, 0 ≤ r ∧ sz 14 r := fun r hr => by
  have one : sz 14 (1 : Int) := rf_one (n := 13)
  match ns, h, hr with
  | [], _, hr =>
    rw [show r = 1 by simpa [Sgn.insA] using hr]
    exact ⟨by decide, one⟩
  | [a], h, hr =>
    have ha := (rok_all h).2 a (by simp)
    have sa := rok_sz h a (by simp)
    simp only [Sgn.insA, List.mem_cons, List.mem_nil_iff, or_false] at hr
    rcases hr with rfl | rfl
    · exact ⟨by decide, one⟩
    · exact ⟨by omega, sa.mono (by decide)⟩
  | [a, b], h, hr =>
    have ha := (rok_all h).2 a (by simp)
    have hb := (rok_all h).2 b (by simp)
    have sa := rok_sz h a (by simp)
    have sb := rok_sz h b (by simp)
    simp only [Sgn.insA, List.mem_cons, List.mem_nil_iff, or_false] at hr
    rcases hr with rfl | rfl | rfl | rfl
    · exact ⟨by decide, one⟩
    · exact ⟨by omega, sa.mono (by decide)⟩
    · exact ⟨by omega, sb.mono (by decide)⟩
    · exact ⟨Int.mul_nonneg (by omega) (by omega), sa.mul sb⟩
def f__law_insides : FS := fun ds Kp _ => ∃ ns, ds = [.lst (ns.map D.int)] ∧ ns.length ≤ 2 ∧ (∀ r ∈ ns, sz 7 r) ∧ Kp (.lst ((Sgn.insA ns).map D.int))
abbrev s__law_insides : Stmt := top 75
theorem sc__law_insides : FnScope ["roots"] ["roots"] (defScope s__law_insides) := ⟨rfl, rfl, rfl, by decide +kernel, rfl, by decide +kernel, by decide +kernel⟩
theorem ok__law_insides {G : Pg} {k : Nat} (T : Tx G) (h : At G "_law_insides" s__law_insides) : Fn G "_law_insides" (k + 1) ["roots"] f__law_insides := by
  obtain ⟨fa, fd, F, hm⟩ := h
  refine Fn.of F hm sc__law_insides (fun _ _ _ _ _ _ us hl => match us, hl with | [_], _ => rfl) ?_
  intro cdv A outer s H E dr M ds Kp Ke tk po hr hl hf
  have tb := T.b
  have nd := sc__law_insides.nd
  obtain ⟨ns, rfl, hn, hr7, k⟩ := hf
  match ns, hn, hr7, k with
  | [], _, _, k =>
    walk_at "gl"
    exact k
  | [a], _, _, k =>
    walk_at "gl"
    refine ⟨by simp, ?_⟩
    walk_at "gl"
    exact k
  | [a, b], _, hr7, k =>
    walk_at "gl"
    refine ⟨by simp, ?_⟩
    walk_at "gl"
    refine ⟨(hr7 a (by simp)).cmul (hr7 b (by simp)) (by decide) (by decide) (by decide), ?_⟩
    walk_at "gl"
    refine ⟨by simp, ?_⟩
    exact k
  | _ :: _ :: _ :: _, h, _, _ => exact absurd h (by simp only [List.length_cons]; omega)
def f__law_sign : FS := fun ds Kp _ => ∃ ns p, ds = [.lst (ns.map D.int), lenD p] ∧ Sgn.Rok ns ∧ p.length = ns.length + 1 ∧ (∀ x ∈ p, OkQ 100 90 x) ∧ Kp (.int (Sgn.lenSgn ns p))
abbrev s__law_sign : Stmt := top 74
theorem sc__law_sign : FnScope ["roots", "length"] ["roots", "length"] (defScope s__law_sign) := ⟨rfl, rfl, rfl, by decide +kernel, rfl, by decide +kernel, by decide +kernel⟩
theorem ok__law_sign {G : Pg} {k : Nat} (T : Tx G) (h : At G "_law_sign" s__law_sign) (c__law_sign_of : Fn G "_law_sign_of" k ["insides", "items"] f__law_sign_of) : Fn G "_law_sign" (k + 1) ["roots", "length"] f__law_sign := by
  obtain ⟨fa, fd, F, hm⟩ := h
  refine Fn.of F hm sc__law_sign (fun _ _ _ _ _ _ us hl => match us, hl with | [_, _], _ => rfl) ?_
  intro cdv A outer s H E dr M ds Kp Ke tk po hr hl hf
  have tb := T.b
  have nd := sc__law_sign.nd
  obtain ⟨ns, p, rfl, rk, pl, hp, k⟩ := hf
  obtain ⟨hn, hall⟩ := rok_all rk
  have hsz := rok_sz rk
  walk_at "gl"
  refine ⟨by simp only [List.length_cons, List.length_nil, List.length_map]; omega, ?_⟩
  walk_at "gl"
  refine ⟨1 :: ns, p, Sgn.lenSgn ns p, rfl, by rw [pl]; rfl, by omega, hp, fun r hr => ?_, fun B hB hd => Sgn.told_len rk pl hB fun x hx => ⟨(hp x hx).pos, hd x hx⟩, k⟩
  rcases List.mem_cons.mp hr with rfl | hr
  · exact ⟨by decide, rf_one (n := 13)⟩
  · have := hall r hr
    exact ⟨by omega, (hsz r hr).mono (by decide)⟩
def f__law_area_sign : FS := fun ds Kp _ => ∃ ns p, ds = [.lst (ns.map D.int), lenD p] ∧ Sgn.Rok ns ∧ p.length = areaN ns.length ∧ (∀ x ∈ p, OkQ 100 90 x) ∧ Kp (.int (Sgn.areaSgn ns p))
abbrev s__law_area_sign : Stmt := top 77
theorem sc__law_area_sign : FnScope ["roots", "amount"] ["roots", "amount"] (defScope s__law_area_sign) := ⟨rfl, rfl, rfl, by decide +kernel, rfl, by decide +kernel, by decide +kernel⟩
theorem ok__law_area_sign {G : Pg} {k : Nat} (T : Tx G) (h : At G "_law_area_sign" s__law_area_sign) (c__law_insides : Fn G "_law_insides" k ["roots"] f__law_insides) (c__law_sign_of : Fn G "_law_sign_of" k ["insides", "items"] f__law_sign_of) : Fn G "_law_area_sign" (k + 1) ["roots", "amount"] f__law_area_sign := by
  obtain ⟨fa, fd, F, hm⟩ := h
  refine Fn.of F hm sc__law_area_sign (fun _ _ _ _ _ _ us hl => match us, hl with | [_, _], _ => rfl) ?_
  intro cdv A outer s H E dr M ds Kp Ke tk po hr hl hf
  have tb := T.b
  have nd := sc__law_area_sign.nd
  obtain ⟨ns, p, rfl, rk, pl, hp, k⟩ := hf
  obtain ⟨hn, hall⟩ := rok_all rk
  have h4 := areaN_le hn
  have el := insA_len hn
  walk_at "gl"
  refine ⟨ns, rfl, hn, rok_sz rk, ?_⟩
  walk_at "gl"
  exact ⟨Sgn.insA ns, p, Sgn.areaSgn ns p, rfl, by omega, by omega, hp, insA_sz rk, fun B hB hd => Sgn.told_area rk (by omega) hB fun x hx => ⟨(hp x hx).pos, hd x hx⟩, k⟩
def f__law_item_length : FS := fun ds Kp _ => ∃ ns : List Int, ∃ i : Int, ds = [.lst (ns.map D.int), .int i] ∧ ns.length ≤ 2 ∧ Kp (lenD ((i, 1) :: List.replicate ns.length (0, 1)))
abbrev s__law_item_length : Stmt := top 83
theorem sc__law_item_length : FnScope ["roots", "number"] ["roots", "number"] (defScope s__law_item_length) := ⟨rfl, rfl, rfl, by decide +kernel, rfl, by decide +kernel, by decide +kernel⟩
theorem ok__law_item_length {G : Pg} {k : Nat} (T : Tx G) (h : At G "_law_item_length" s__law_item_length) (c__law_nought : Fn G "_law_nought" k ["roots"] f__law_nought) : Fn G "_law_item_length" (k + 1) ["roots", "number"] f__law_item_length := by
  obtain ⟨fa, fd, F, hm⟩ := h
  refine Fn.of F hm sc__law_item_length (fun _ _ _ _ _ _ us hl => match us, hl with | [_, _], _ => rfl) ?_
  intro cdv A outer s H E dr M ds Kp Ke tk po hr hl hf
  have tb := T.b
  have nd := sc__law_item_length.nd
  obtain ⟨ns, i, rfl, hn, k⟩ := hf
  walk_at "gl"
  refine ⟨ns.map D.int, rfl, by rw [List.length_map]; omega, ?_⟩
  rw [List.length_map]
  match ns, hn, k with
  | [], _, k =>
    walk_at "gl"
    exact k
  | [a], _, k =>
    walk_at "gl"
    exact ⟨Nat.le_of_ble_eq_true rfl, k⟩
  | [a, b], _, k =>
    walk_at "gl"
    exact ⟨Nat.le_of_ble_eq_true rfl, k⟩
  | _ :: _ :: _ :: _, h, _ => exact absurd h (by simp only [List.length_cons]; omega)
def f__law_is_area : FS := fun ds Kp _ => ∃ ns d, ds = [.lst (ns.map D.int), d] ∧ Sgn.Rok ns ∧ ThingOk d ∧ Kp (.bl (isLen (areaN ns.length) d))
abbrev s__law_is_area : Stmt := top 84
theorem sc__law_is_area : FnScope ["roots", "thing", "item"] ["roots", "thing"] (defScope s__law_is_area) := ⟨rfl, rfl, rfl, by decide +kernel, rfl, by decide +kernel, by decide +kernel⟩
theorem ok__law_is_area {G : Pg} {k : Nat} (T : Tx G) (h : At G "_law_is_area" s__law_is_area) (c__law_insides : Fn G "_law_insides" k ["roots"] f__law_insides) (c__law_is_given : Fn G "_law_is_given" k ["thing"] f__law_is_given) : Fn G "_law_is_area" (k + 1) ["roots", "thing"] f__law_is_area := by
  obtain ⟨fa, fd, F, hm⟩ := h
  refine Fn.of F hm sc__law_is_area (fun _ _ _ _ _ _ us hl => match us, hl with | [_, _], _ => rfl) ?_
  intro cdv A outer s H E dr M ds Kp Ke tk po hr hl hf
  have tb := T.b
  have nd := sc__law_is_area.nd
  obtain ⟨ns, d, rfl, rk, ho, k⟩ := hf
  obtain ⟨hn, hall⟩ := rok_all rk
  have h4 := areaN_le hn
  have el := insA_len hn
  walk_at "go"
  refine ⟨ho.pr, ?_⟩
  rw [seq_isP]
  cases hs : seqD d with
  | none =>
    walk_at "go"
    have e : isLen (areaN ns.length) d = false := by rw [isLen, hs]
    rw [e] at k
    exact k
  | some l =>
    have e : isLen (areaN ns.length) d = ((l.length == areaN ns.length) && l.all isGiv) := by rw [isLen, hs]
    rw [e] at k
    walk_at "go"
    refine gLen_seq hs ?_
    walk_at "go"
    refine ⟨ns, rfl, hn, rok_sz rk, ?_⟩
    walk_at "go"
    refine gLen_seq (l := (Sgn.insA ns).map D.int) rfl ?_
    rw [List.length_map, el]
    refine And.intro (fun (h : ((l.length : Int) == ((areaN ns.length : Nat) : Int)) = true) => ?_) (fun (h : ((l.length : Int) == ((areaN ns.length : Nat) : Int)) = false) => ?_)
    · have h2 : l.length = areaN ns.length := by
        simp only [beq_iff_eq] at h
        omega
      rw [h2, beq_self_eq_true, Bool.true_and] at k
      walk_at "go"
      refine ⟨l, hs, ?_⟩
      refine lc_filter (fun d => if isGiv d then none else some d) (by omega) (fun _ _ => trivial) (fun d hd A s H C cl fp => ?_) ?_
      · walk_at "go"
        refine ⟨ho.it l hs d hd, ?_⟩
        cases hg : isGiv d with
        | true => walk_at "go"; rfl
        | false =>
          walk_at "go"
          intro s H C cl fp
          walk_at "go"
          rfl
      walk_at "go"
      refine ⟨by decide, gEq_nil (okd_lst.mpr fun x hx => okd_mono (ho.it l hs x (notGiv_mem hx)) (by decide)) ?_⟩
      rw [notGiv_empty]
      exact k
    · have h2 : (l.length == areaN ns.length) = false := by
        simp only [beq_eq_false_iff_ne] at h ⊢
        omega
      rw [h2] at k
      exact k
/-! ### the law's own product -/
/-- one item more -/
def putL (ins : List Int) (f : List (Int × Int)) (i j : Nat) (x y : Int × Int) : List (Int × Int) :=
  if i = j then f.set 0 (plusP (f.getD 0 (0, 1)) (timesP (timesP x y) (ins.getD i 0, 1)))
  else if i * j = 0 then f.set (i + j) (plusP (f.getD (i + j) (0, 1)) (timesP x y))
  else f.set 3 (plusP (f.getD 3 (0, 1)) (timesP x y))
def rowL (ins : List Int) (q : List (Int × Int)) (i : Nat) (x : Int × Int) (f : List (Int × Int)) : Nat → List (Int × Int)
  | 0 => f
  | j + 1 => putL ins (rowL ins q i x f j) i j x (q.getD j (0, 1))
def allL (ins : List Int) (p q : List (Int × Int)) : Nat → List (Int × Int)
  | 0 => List.replicate ins.length (0, 1)
  | i + 1 => rowL ins q i (p.getD i (0, 1)) (allL ins p q i) q.length
theorem putL_len (ins : List Int) (f : List (Int × Int)) (i j : Nat) (x y : Int × Int) : (putL ins f i j x y).length = f.length := by
  unfold putL
  split
  · rw [List.length_set]
  · split <;> rw [List.length_set]
theorem rowL_len (ins : List Int) (q : List (Int × Int)) (i : Nat) (x : Int × Int) (f : List (Int × Int)) : ∀ j, (rowL ins q i x f j).length = f.length
  | 0 => rfl
  | j + 1 => by rw [rowL, putL_len, rowL_len ins q i x f j]
theorem allL_len (ins : List Int) (p q : List (Int × Int)) : ∀ i, (allL ins p q i).length = ins.length
  | 0 => List.length_replicate ..
  | i + 1 => by rw [allL, rowL_len, allL_len ins p q i]
theorem okQr14 {r : Int} (h : sz 14 r) : OkQ 14 1 (r, (1 : Int)) := ⟨by show (0 : Int) < 1; decide, h, by show (1 : Int).natAbs < 2 ^ 1; decide⟩
def FOk (m : Nat) (f : List (Int × Int)) : Prop := ∀ x ∈ f, OkQ (100 + 100 * m) (50 + 50 * m) x
theorem set_ok {m : Nat} {f : List (Int × Int)} {i : Nat} {z : Int × Int} (h : FOk m f) (g : OkQ (100 + 100 * m) (50 + 50 * m) z) : FOk m (f.set i z) := fun x hx => by
  rcases List.mem_or_eq_of_mem_set hx with hx | rfl
  · exact h x hx
  · exact g
theorem FOk.next {m : Nat} {f : List (Int × Int)} (h : FOk m f) : FOk (m + 1) f := fun x hx => (h x hx).mono (by omega) (by omega)
theorem FOk.get {m : Nat} {f : List (Int × Int)} (h : FOk m f) (i : Nat) : OkQ (100 + 100 * m) (50 + 50 * m) (f.getD i (0, 1)) := by
  by_cases c : i < f.length
  · exact h _ (List.mem_of_getElem? (getD_some c))
  · rw [List.getD_eq_getElem?_getD, List.getElem?_eq_none (by omega)]
    exact ⟨by decide, Nat.pow_pos (by decide), show (1 : Int).natAbs < _ from Nat.one_lt_two_pow (by omega)⟩
theorem add_ok {m : Nat} {u w : Int × Int} (h : OkQ (100 + 100 * m) (50 + 50 * m) u) (g : OkQ 40 40 w) : OkQ (100 + 100 * (m + 1)) (50 + 50 * (m + 1)) (plusP u w) :=
  (plusQ (n := 100 + 100 * m + 50) h g (by omega) (by omega)).mono (by omega) (by omega)
theorem putL_ok {m i j : Nat} {ins : List Int} {f : List (Int × Int)} {x y : Int × Int} (hi : ∀ r ∈ ins, sz 14 r) (hx : OkQ 10 10 x) (hy : OkQ 10 10 y) (h : FOk m f) : FOk (m + 1) (putL ins f i j x y) := by
  have hxy := timesQ hx hy
  have hr : sz 14 (ins.getD i 0) := by
    by_cases c : i < ins.length
    · rw [List.getD_eq_getElem?_getD, List.getElem?_eq_getElem c]
      exact hi _ (List.getElem_mem _)
    · rw [List.getD_eq_getElem?_getD, List.getElem?_eq_none (by omega)]
      exact Nat.pow_pos (by decide)
  have hxr := timesQ hxy (okQr14 hr)
  unfold putL
  split
  · exact set_ok h.next (add_ok (h.get 0) (hxr.mono (by decide) (by decide)))
  · split
    · exact set_ok h.next (add_ok (h.get _) (hxy.mono (by decide) (by decide)))
    · exact set_ok h.next (add_ok (h.get _) (hxy.mono (by decide) (by decide)))
theorem rowL_ok {m i : Nat} {ins : List Int} {q f : List (Int × Int)} {x : Int × Int} (hi : ∀ r ∈ ins, sz 14 r) (hx : OkQ 10 10 x) (hq : ∀ x ∈ q, OkQ 10 10 x) (h : FOk m f) : ∀ j, j ≤ q.length → FOk (m + j) (rowL ins q i x f j)
  | 0, _ => h
  | j + 1, hj => putL_ok hi hx (hq _ (List.mem_of_getElem? (getD_some (show j < q.length by omega)))) (rowL_ok hi hx hq h j (by omega))
theorem allL_ok {ins : List Int} {p q : List (Int × Int)} (hi : ∀ r ∈ ins, sz 14 r) (hp : ∀ x ∈ p, OkQ 10 10 x) (hq : ∀ x ∈ q, OkQ 10 10 x) : ∀ i, i ≤ p.length → FOk (q.length * i) (allL ins p q i)
  | 0, _ => fun x hx => by
    rw [(List.mem_replicate.mp hx).2]
    exact ⟨by decide, Nat.pow_pos (by decide), show (1 : Int).natAbs < _ from Nat.one_lt_two_pow (by omega)⟩
  | i + 1, h => by
    have := rowL_ok (i := i) hi (hp _ (List.mem_of_getElem? (getD_some (show i < p.length by omega)))) hq (allL_ok hi hp hq i (by omega)) q.length (Nat.le_refl _)
    rw [Nat.mul_succ]
    exact this
theorem gIx_own {p : List (Int × Int)} {i : Nat} {a : Int × Int} {k : KD} (h : p[i]? = some a) (hk : k (ratP a)) : gIx (.lst (p.map ratP)) (.int (i : Int)) k := by
  refine ⟨p.map ratP, i, ratP a, rfl, rfl, ?_, hk⟩
  have hi : i < p.length := (List.getElem?_eq_some_iff.mp h).1
  unfold atI
  rw [ixN_at (by rw [List.length_map]; exact hi)]
  show (p.map ratP)[i]? = _
  rw [List.getElem?_map, h]; rfl
theorem gIx_int {p : List Int} {i : Nat} {a : Int} {k : KD} (h : p[i]? = some a) (hk : k (.int a)) : gIx (.lst (p.map D.int)) (.int (i : Int)) k := by
  refine ⟨p.map D.int, i, .int a, rfl, rfl, ?_, hk⟩
  have hi : i < p.length := (List.getElem?_eq_some_iff.mp h).1
  unfold atI
  rw [ixN_at (by rw [List.length_map]; exact hi)]
  show (p.map D.int)[i]? = _
  rw [List.getElem?_map, h]; rfl
theorem getD_someI {p : List Int} {i : Nat} (h : i < p.length) : p[i]? = some (p.getD i 0) := by
  rw [List.getD_eq_getElem?_getD, List.getElem?_eq_getElem h]; rfl
theorem set_map {f : List (Int × Int)} {i : Nat} {z : Int × Int} : (f.map ratP).set i (ratP z) = (f.set i z).map ratP := by
  rw [List.map_set]
def f__law_product : FS := fun ds Kp _ => ∃ ns p q, ds = [.lst (ns.map D.int), lenD p, lenD q] ∧ Sgn.Rok ns ∧ p.length = ns.length + 1 ∧ q.length = ns.length + 1 ∧ (∀ x ∈ p, OkQ 10 10 x) ∧ (∀ x ∈ q, OkQ 10 10 x) ∧ Kp (lenD (allL (Sgn.insA ns) p q p.length))
abbrev s__law_product : Stmt := top 76
theorem sc__law_product : FnScope ["roots", "one", "other", "inside", "found", "at", "own", "to", "late", "part"] ["roots", "one", "other"] (defScope s__law_product) := ⟨rfl, rfl, rfl, by decide +kernel, rfl, by decide +kernel, by decide +kernel⟩
theorem ok__law_product {G : Pg} {k : Nat} (T : Tx G) (h : At G "_law_product" s__law_product) (c__law_insides : Fn G "_law_insides" k ["roots"] f__law_insides) (c__law_times : Fn G "_law_times" k ["one", "other"] f__law_times) (c__law_plus : Fn G "_law_plus" k ["one", "other"] f__law_plus) : Fn G "_law_product" (k + 1) ["roots", "one", "other"] f__law_product := by
  obtain ⟨fa, fd, F, hm⟩ := h
  refine Fn.of F hm sc__law_product (fun _ _ _ _ _ _ us hl => match us, hl with | [_, _, _], _ => rfl) ?_
  intro cdv A outer s H E dr M ds Kp Ke tk po hr hl hf
  have tb := T.b
  have nd := sc__law_product.nd
  obtain ⟨ns, p, q, rfl, rk, pl, ql, hp, hq, k⟩ := hf
  obtain ⟨hn, hall⟩ := rok_all rk
  have hins := insA_sz rk
  have el := insA_len hn
  have h4 := areaN_le hn
  have hi14 : ∀ r ∈ Sgn.insA ns, sz 14 r := fun r hr => (hins r hr).2
  have iln : ns.length + 1 ≤ (Sgn.insA ns).length := by
    rw [el]
    match ns, hn with
    | [], _ => exact Nat.le_of_ble_eq_true rfl
    | [_], _ => exact Nat.le_of_ble_eq_true rfl
    | [_, _], _ => exact Nat.le_of_ble_eq_true rfl
    | _ :: _ :: _ :: _, h => exact absurd h (by simp only [List.length_cons]; omega)
  generalize hI : Sgn.insA ns = ins at *
  refine ds_cons (ds_parIO 3 4 rfl nd rfl rfl (by decide) rfl rfl rfl ?_)
  walk_at "gl"
  refine ⟨ns, rfl, hn, rok_sz rk, ?_⟩
  rw [hI]
  refine df_lst ?_
  walk_at "gl"
  refine ds_for (.n 5) po rfl (pg_name nd rfl (by first | exact .inl rfl | exact .inr rfl) (by first | exact .inl rfl | exact .inr rfl)) ?_
  walk_at "gl"
  refine gLen_seq (l := ins.map D.int) rfl ?_
  rw [List.length_map]
  refine ⟨by omega, by omega, ?_⟩
  refine ⟨fun i δ' => ∃ o, δ' = [.im (.lst (ns.map D.int)), .im (lenD p), .im (lenD q), .im (.lst (ins.map D.int)), .ow ((List.replicate i ((0 : Int), (1 : Int))).map ratP), o, .un, .un, .un, .un], ⟨_, rfl⟩, ?_, ?_⟩
  · rintro i d δ' hd ⟨o, rfl⟩
    have hi4 : i < ins.length := by
      have := (List.getElem?_eq_some_iff.mp hd).1
      simpa [intsD] using this
    refine ⟨trivial, ?_⟩
    refine ds_cons (ds_append 4 rfl (by first | exact .inl rfl | exact .inr (.inl rfl)) rfl (by rw [List.length_map, List.length_replicate]; omega) ?_)
    walk_at "gl"
    refine ⟨.im d, ?_⟩
    rw [List.replicate_succ', List.map_append]
    rfl
  rintro δ' ⟨o, rfl⟩
  have e0 : (intsD 0 ((ins.length : Nat) : Int).toNat).length = ins.length := by simp [intsD]
  rw [e0]
  refine ds_cons (ds_for (.t [5, 6]) po rfl (pg_tup2 nd rfl rfl (by first | exact .inl rfl | exact .inr rfl) (by first | exact .inl rfl | exact .inr rfl) (by first | exact .inl rfl | exact .inr rfl) (by first | exact .inl rfl | exact .inr rfl)) ?_)
  refine di_enumT rfl (Bt.enumerate tb) ?_
  walk_at "gl"
  refine ⟨_, rfl, ?_⟩
  refine ⟨fun i δ' => ∃ o5 o6 o7 o8 o9, δ' = [.im (.lst (ns.map D.int)), .im (lenD p), .im (lenD q), .im (.lst (ins.map D.int)), .ow ((allL ins p q i).map ratP), o5, o6, o7, o8, o9], ⟨_, _, _, _, _, rfl⟩, ?_, ?_⟩
  · rintro i d δ' hd ⟨o5, o6, o7, o8, o9, rfl⟩
    obtain ⟨dx, hdx, rfl⟩ := enumD_get hd
    rw [List.getElem?_map] at hdx
    obtain ⟨x, hx, rfl⟩ := Option.map_eq_some_iff.mp hdx
    have hip : i < p.length := (List.getElem?_eq_some_iff.mp hx).1
    have ex : p.getD i (0, 1) = x := by rw [List.getD_eq_getElem?_getD, hx]; rfl
    have hxk := hp x (List.mem_of_getElem? hx)
    have hfk := allL_ok hi14 hp hq i (by omega)
    have hfl := allL_len ins p q i
    have eA : allL ins p q (i + 1) = rowL ins q i x (allL ins p q i) q.length := by rw [allL, ex]
    generalize allL ins p q i = f at *
    refine ⟨rfl, ?_⟩
    refine ds_cons (ds_for (.t [7, 8]) po rfl (pg_tup2 nd rfl rfl (by first | exact .inl rfl | exact .inr rfl) (by first | exact .inl rfl | exact .inr rfl) (by first | exact .inl rfl | exact .inr rfl) (by first | exact .inl rfl | exact .inr rfl)) ?_)
    refine di_enumT rfl (Bt.enumerate tb) ?_
    walk_at "gl"
    refine ⟨_, rfl, ?_⟩
    refine ⟨fun j δ' => ∃ o7 o8 o9, δ' = [.im (.lst (ns.map D.int)), .im (lenD p), .im (lenD q), .im (.lst (ins.map D.int)), .ow ((rowL ins q i x f j).map ratP), .im (.int (i : Nat)), .im (ratP x), o7, o8, o9], ⟨_, _, _, rfl⟩, ?_, ?_⟩
    · rintro j e δ' he ⟨p7, p8, p9, rfl⟩
      obtain ⟨dy, hdy, rfl⟩ := enumD_get he
      rw [List.getElem?_map] at hdy
      obtain ⟨y, hy, rfl⟩ := Option.map_eq_some_iff.mp hdy
      have hjq : j < q.length := (List.getElem?_eq_some_iff.mp hy).1
      have ey : q.getD j (0, 1) = y := by rw [List.getD_eq_getElem?_getD, hy]; rfl
      have hyk := hq y (List.mem_of_getElem? hy)
      have hgk := rowL_ok (i := i) hi14 hxk hq hfk j (by omega)
      have hgl := rowL_len ins q i x f j
      have eR : rowL ins q i x f (j + 1) = putL ins (rowL ins q i x f j) i j x y := by rw [rowL, ey]
      generalize rowL ins q i x f j = g at *
      have hxy := timesQ hxk hyk
      have gl4 : g.length ≤ 4 := by omega
      have mm : q.length * i + j ≤ 11 := by
        have : q.length * i ≤ 3 * 3 := Nat.mul_le_mul (by omega) (by omega)
        omega
      have gk : ∀ z, OkQ 1300 700 (g.getD z (0, 1)) := fun z => (hgk.get z).mono (by omega) (by omega)
      refine ⟨rfl, ?_⟩
      walk_at "gl"
      refine call_timesQ hxk hyk ?_
      walk_at "gl"
      have cm : CMulD (i : Int) (j : Int) := .inl (.inl (by omega))
      have hrI : sz 14 (ins.getD i 0) := by
        rw [List.getD_eq_getElem?_getD, List.getElem?_eq_getElem (show i < ins.length by omega)]
        exact hi14 _ (List.getElem_mem _)
      have hxr := timesQ hxy (okQr14 hrI)
      refine ⟨fun z => ?_, fun z => ?_⟩
      · have hij : i = j := by
          have : (i : Int) = (j : Int) := by simpa using z
          omega
        refine ds_cons (ds_setIt 4 rfl (by first | exact .inl rfl | exact .inr (.inl rfl) | exact .inr (.inr rfl)) rfl ?_)
        refine dx_call (by assumption) (by assumption) (by first | assumption | exact takes_wx0) rfl ?_
        refine da_cons ?_
        refine dx_ixOw 4 rfl (by first | exact .inl rfl | exact .inr (.inl rfl) | exact .inr (.inr rfl)) rfl (fun _ _ => rfl) ?_
        walk_at "gl"
        refine gIx_own (i := 0) (getD_some (by omega)) ?_
        walk_at "gl"
        refine gIx_int (i := i) (getD_someI (by omega)) ?_
        walk_at "gl"
        refine call_timesQ (y := (ins.getD i 0, 1)) hxy (okQr14 hrI) ?_
        walk_at "gl"
        refine call_plusQ (gk 0) hxr ?_
        walk_at "gl"
        refine ⟨0, ixN_at (j := 0) (by rw [List.length_map]; omega), ?_⟩
        walk_at "gl"
        refine ⟨.im (.int (j : Nat)), .im (ratP y), .im (ratP (timesP x y)), ?_⟩
        rw [eR]
        unfold putL
        rw [if_pos hij, ← set_map]
        rfl
      · have hij : i ≠ j := by
          have : ¬ (i : Int) = (j : Int) := by simpa using z
          omega
        walk_at "gl"
        refine ⟨cm, ?_⟩
        walk_at "gl"
        refine ⟨fun z2 => ?_, fun z2 => ?_⟩
        · have hz0 : i * j = 0 := by
            have : (i : Int) * (j : Int) = 0 := by simpa using z2
            exact_mod_cast this
          have hlt : i + j < g.length := by
            rcases Nat.mul_eq_zero.mp hz0 with e | e <;> omega
          have ea : (i : Int) + (j : Int) = ((i + j : Nat) : Int) := by omega
          refine ds_cons (ds_setIt 4 rfl (by first | exact .inl rfl | exact .inr (.inl rfl) | exact .inr (.inr rfl)) rfl ?_)
          refine dx_call (by assumption) (by assumption) (by first | assumption | exact takes_wx0) rfl ?_
          refine da_cons ?_
          refine dx_ixOw 4 rfl (by first | exact .inl rfl | exact .inr (.inl rfl) | exact .inr (.inr rfl)) rfl (fun _ _ => rfl) ?_
          walk_at "gl"
          show gIx (.lst (g.map ratP)) (.int ((i : Int) + (j : Int))) _
          rw [ea]
          refine gIx_own (i := i + j) (getD_some hlt) ?_
          walk_at "gl"
          refine call_plusQ (gk (i + j)) hxy ?_
          walk_at "gl"
          refine ⟨i + j, by show ixN _ ((i : Int) + (j : Int)) = _; rw [ea]; exact ixN_at (by rw [List.length_map]; exact hlt), ?_⟩
          walk_at "gl"
          refine ⟨.im (.int (j : Nat)), .im (ratP y), .im (ratP (timesP x y)), ?_⟩
          rw [eR]
          unfold putL
          rw [if_neg hij, if_pos hz0, ← set_map]
          rfl
        · have hz0 : i * j ≠ 0 := by
            have : ¬ (i : Int) * (j : Int) = 0 := by simpa using z2
            exact fun h => this (by exact_mod_cast h)
          have hlt : 3 < g.length := by
            have a1 : i ≠ 0 := fun h => hz0 (by rw [h, Nat.zero_mul])
            have a2 : j ≠ 0 := fun h => hz0 (by rw [h, Nat.mul_zero])
            have a3 : ns.length = 2 := by omega
            rw [hgl, hfl, el, a3]
            decide
          refine ds_cons (ds_setIt 4 rfl (by first | exact .inl rfl | exact .inr (.inl rfl) | exact .inr (.inr rfl)) rfl ?_)
          refine dx_call (by assumption) (by assumption) (by first | assumption | exact takes_wx0) rfl ?_
          refine da_cons ?_
          refine dx_ixOw 4 rfl (by first | exact .inl rfl | exact .inr (.inl rfl) | exact .inr (.inr rfl)) rfl (fun _ _ => rfl) ?_
          walk_at "gl"
          refine gIx_own (i := 3) (getD_some hlt) ?_
          walk_at "gl"
          refine call_plusQ (gk 3) hxy ?_
          walk_at "gl"
          refine ⟨3, ixN_at (j := 3) (by rw [List.length_map]; exact hlt), ?_⟩
          walk_at "gl"
          refine ⟨.im (.int (j : Nat)), .im (ratP y), .im (ratP (timesP x y)), ?_⟩
          rw [eR]
          unfold putL
          rw [if_neg hij, if_neg hz0, ← set_map]
          rfl
    · rintro δ' ⟨p7, p8, p9, rfl⟩
      rw [enumD_len, List.length_map]
      walk_at "gl"
      refine ⟨.im (.int (i : Nat)), .im (ratP x), p7, p8, p9, ?_⟩
      rw [eA]
  · rintro δ' ⟨o5, o6, o7, o8, o9, rfl⟩
    rw [enumD_len, List.length_map]
    refine dss_give 4 rfl ?_
    walk_at "gl"
    exact k
/-! ### plain laws of ratios: both products are the same, both signs are the same -/
open Sgn in
theorem isRat_pos {x : Int × Int} (h : isRat (ratP x) = true) : 0 < x.2 := by
  have h : (decide (0 < x.2) && (((Nat.gcd x.1.natAbs x.2.natAbs : Nat) : Int) == 1)) = true := h
  rw [Bool.and_eq_true] at h
  exact of_decide_eq_true h.1
theorem isRat_cop {x : Int × Int} (h : isRat (ratP x) = true) : Nat.gcd x.1.natAbs x.2.natAbs = 1 := by
  have h : (decide (0 < x.2) && (((Nat.gcd x.1.natAbs x.2.natAbs : Nat) : Int) == 1)) = true := h
  rw [Bool.and_eq_true, beq_iff_eq] at h
  exact_mod_cast h.2
theorem canon {x y : Int × Int} (hx : isRat (ratP x) = true) (hy : isRat (ratP y) = true) (e : x.1 * y.2 = y.1 * x.2) : x = y := by
  have px := isRat_pos hx
  have py := isRat_pos hy
  have cx : Nat.Coprime x.1.natAbs x.2.natAbs := isRat_cop hx
  have cy : Nat.Coprime y.1.natAbs y.2.natAbs := isRat_cop hy
  have en : x.1.natAbs * y.2.natAbs = y.1.natAbs * x.2.natAbs := by rw [← Int.natAbs_mul, ← Int.natAbs_mul, e]
  have d1 : x.2.natAbs ∣ y.2.natAbs := Nat.Coprime.dvd_of_dvd_mul_left cx.symm ⟨y.1.natAbs, by rw [en, Nat.mul_comm]⟩
  have d2 : y.2.natAbs ∣ x.2.natAbs := Nat.Coprime.dvd_of_dvd_mul_left cy.symm ⟨x.1.natAbs, by rw [← en, Nat.mul_comm]⟩
  have e2n := Nat.dvd_antisymm d1 d2
  have e2 : x.2 = y.2 := by omega
  rw [e2] at e
  have e1 : x.1 = y.1 := Int.eq_of_mul_eq_mul_right (by omega) e
  exact Prod.ext e1 e2
theorem rat_ne {n : Int} (h : 0 < n) : (n : Rat) ≠ 0 := fun z => by
  have : n = 0 := by exact_mod_cast z
  omega
theorem rv_eq {x y : Int × Int} (hx : isRat (ratP x) = true) (hy : isRat (ratP y) = true) (e : Sgn.rv x = Sgn.rv y) : x = y := by
  have px := rat_ne (isRat_pos hx)
  have py := rat_ne (isRat_pos hy)
  refine canon hx hy ?_
  unfold Sgn.rv at e
  have : (x.1 : Rat) * y.2 = (y.1 : Rat) * x.2 := by grind
  exact_mod_cast this
theorem rv_pair {a b : Int} (h : 0 < b) : Sgn.rv (pairP a b) = (a : Rat) / (b : Rat) := by
  have g0 : 0 < gcdI a b := gcdI_pos h
  obtain ⟨c, hc⟩ := (gcd_dv a b).1
  obtain ⟨d, hd⟩ := (gcd_dv a b).2
  have e1 : (pairP a b).1 = c := by
    show a / gcdI a b = c
    have := Int.mul_ediv_cancel_left c (show gcdI a b ≠ 0 by omega)
    rw [← hc] at this; exact this
  have e2 : (pairP a b).2 = d := by
    show b / gcdI a b = d
    have := Int.mul_ediv_cancel_left d (show gcdI a b ≠ 0 by omega)
    rw [← hd] at this; exact this
  unfold Sgn.rv
  rw [e1, e2]
  generalize gcdI a b = g at *
  have hg := rat_ne g0
  have hb := rat_ne h
  have q1 : (a : Rat) = (g : Rat) * c := by rw [hc]; norm_cast
  have q2 : (b : Rat) = (g : Rat) * d := by rw [hd]; norm_cast
  have hd0 : (d : Rat) ≠ 0 := fun z => hb (by rw [q2, z]; grind)
  rw [q1, q2]
  grind
/-- a ratio of this value -/
structure VP (x : Int × Int) (q : Rat) : Prop where
  pos : 0 < x.2
  val : Sgn.rv x = q
/-- .. in lowest terms -/
structure CP (x : Int × Int) (q : Rat) : Prop where
  can : isRat (ratP x) = true
  val : Sgn.rv x = q
theorem CP.v {x : Int × Int} {q : Rat} (h : CP x q) : VP x q := ⟨isRat_pos h.can, h.val⟩
theorem CP.eq {x y : Int × Int} {q r : Rat} (h : CP x q) (g : CP y r) (e : q = r) : x = y := rv_eq h.can g.can (by rw [h.val, g.val, e])
section
variable {x y : Int × Int} {q r : Rat} (h : VP x q) (g : VP y r)
include h g
theorem VP.pl : CP (plusP x y) (q + r) := ⟨rpair_isRat (Int.mul_pos h.pos g.pos), by
  unfold plusP
  rw [rv_pair (Int.mul_pos h.pos g.pos), ← h.val, ← g.val]
  have h1 := rat_ne h.pos
  have h2 := rat_ne g.pos
  unfold Sgn.rv
  push_cast
  grind⟩
theorem VP.mi : CP (minusP x y) (q - r) := ⟨rpair_isRat (Int.mul_pos h.pos g.pos), by
  unfold minusP
  rw [rv_pair (Int.mul_pos h.pos g.pos), ← h.val, ← g.val]
  have h1 := rat_ne h.pos
  have h2 := rat_ne g.pos
  unfold Sgn.rv
  push_cast
  grind⟩
theorem VP.tm : CP (timesP x y) (q * r) := ⟨rpair_isRat (Int.mul_pos h.pos g.pos), by
  unfold timesP
  rw [rv_pair (Int.mul_pos h.pos g.pos), ← h.val, ← g.val]
  have h1 := rat_ne h.pos
  have h2 := rat_ne g.pos
  unfold Sgn.rv
  push_cast
  grind⟩
end
theorem vI (r : Int) : VP (r, 1) (r : Rat) := ⟨by show (0 : Int) < 1; decide, by
  show (r : Rat) / ((1 : Int) : Rat) = r
  rw [show ((1 : Int) : Rat) = 1 from rfl]
  grind⟩
theorem vX {x : Int × Int} (h : 0 < x.2) : VP x (Sgn.rv x) := ⟨h, rfl⟩
theorem v01 : VP ((0 : Int), (1 : Int)) 0 := ⟨by decide, by show ((0 : Int) : Rat) / ((1 : Int) : Rat) = 0; decide +kernel⟩
theorem v11 : VP ((1 : Int), (1 : Int)) 1 := ⟨by decide, by show ((1 : Int) : Rat) / ((1 : Int) : Rat) = 1; decide +kernel⟩
/-! both products are the same -/
theorem prod_same {ns : List Int} {p q : List (Int × Int)} (hn : ns.length ≤ 2) (pl : p.length = ns.length + 1) (ql : q.length = ns.length + 1) (hp : ∀ x ∈ p, 0 < x.2) (hq : ∀ x ∈ q, 0 < x.2) : allL (Sgn.insA ns) p q p.length = prodP ns p q := by
  match ns, p, q, hn, pl, ql with
  | [], [a], [x], _, _, _ =>
    have va := vX (hp a (by simp))
    have vx := vX (hq x (by simp))
    show [plusP (0, 1) (timesP (timesP a x) (1, 1))] = [timesP a x]
    rw [CP.eq (v01.pl ((va.tm vx).v.tm v11).v) (va.tm vx) (by grind)]
  | [r], [a, b], [x, y], _, _, _ =>
    have va := vX (hp a (by simp))
    have vb := vX (hp b (by simp))
    have vx := vX (hq x (by simp))
    have vy := vX (hq y (by simp))
    show [plusP (plusP (0, 1) (timesP (timesP a x) (1, 1))) (timesP (timesP b y) (r, 1)), plusP (plusP (0, 1) (timesP a y)) (timesP b x)] = [plusP (timesP a x) (timesP (r, 1) (timesP b y)), plusP (timesP a y) (timesP b x)]
    rw [CP.eq ((v01.pl ((va.tm vx).v.tm v11).v).v.pl ((vb.tm vy).v.tm (vI r)).v) ((va.tm vx).v.pl ((vI r).tm (vb.tm vy).v).v) (by grind),
      CP.eq ((v01.pl (va.tm vy).v).v.pl (vb.tm vx).v) ((va.tm vy).v.pl (vb.tm vx).v) (by grind)]
  | [r, t], [a, b, c], [x, y, z], _, _, _ =>
    have va := vX (hp a (by simp))
    have vb := vX (hp b (by simp))
    have vc := vX (hp c (by simp))
    have vx := vX (hq x (by simp))
    have vy := vX (hq y (by simp))
    have vz := vX (hq z (by simp))
    show [plusP (plusP (plusP (0, 1) (timesP (timesP a x) (1, 1))) (timesP (timesP b y) (r, 1))) (timesP (timesP c z) (t, 1)), plusP (plusP (0, 1) (timesP a y)) (timesP b x), plusP (plusP (0, 1) (timesP a z)) (timesP c x), plusP (plusP (0, 1) (timesP b z)) (timesP c y)]
      = [plusP (plusP (timesP a x) (timesP (r, 1) (timesP b y))) (timesP (t, 1) (timesP c z)), plusP (timesP a y) (timesP b x), plusP (timesP a z) (timesP c x), plusP (timesP b z) (timesP c y)]
    rw [CP.eq ((v01.pl ((va.tm vx).v.tm v11).v).v.pl ((vb.tm vy).v.tm (vI r)).v |>.v.pl ((vc.tm vz).v.tm (vI t)).v) (((va.tm vx).v.pl ((vI r).tm (vb.tm vy).v).v).v.pl ((vI t).tm (vc.tm vz).v).v) (by grind),
      CP.eq ((v01.pl (va.tm vy).v).v.pl (vb.tm vx).v) ((va.tm vy).v.pl (vb.tm vx).v) (by grind),
      CP.eq ((v01.pl (va.tm vz).v).v.pl (vc.tm vx).v) ((va.tm vz).v.pl (vc.tm vx).v) (by grind),
      CP.eq ((v01.pl (vb.tm vz).v).v.pl (vc.tm vy).v) ((vb.tm vz).v.pl (vc.tm vy).v) (by grind)]
  | [], [], _, _, h, _ => simp at h
  | [], _ :: _ :: _, _, _, h, _ => simp at h
  | [], [_], [], _, _, h => simp at h
  | [], [_], _ :: _ :: _, _, _, h => simp at h
  | [_], [], _, _, h, _ => simp at h
  | [_], [_], _, _, h, _ => simp at h
  | [_], _ :: _ :: _ :: _, _, _, h, _ => simp at h
  | [_], [_, _], [], _, _, h => simp at h
  | [_], [_, _], [_], _, _, h => simp at h
  | [_], [_, _], _ :: _ :: _ :: _, _, _, h => simp at h
  | [_, _], [], _, _, h, _ => simp at h
  | [_, _], [_], _, _, h, _ => simp at h
  | [_, _], [_, _], _, _, h, _ => simp at h
  | [_, _], _ :: _ :: _ :: _ :: _, _, _, h, _ => simp at h
  | [_, _], [_, _, _], [], _, _, h => simp at h
  | [_, _], [_, _, _], [_], _, _, h => simp at h
  | [_, _], [_, _, _], [_, _], _, _, h => simp at h
  | [_, _], [_, _, _], _ :: _ :: _ :: _ :: _, _, _, h => simp at h
  | _ :: _ :: _ :: _, _, _, h, _, _ => exact absurd h (by simp only [List.length_cons]; omega)
/-! both signs are the same -/
theorem sg_rs {x : Int × Int} (h : 0 < x.2) : sgI x.1 = Sgn.rs (Sgn.rv x) := by
  have h2 : (0 : Rat) < (x.2 : Rat) := by exact_mod_cast h
  have e : Sgn.rv x * (x.2 : Rat) = (x.1 : Rat) := by
    have := rat_ne h
    unfold Sgn.rv
    grind
  unfold sgI Sgn.rs
  by_cases c : 0 < x.1
  · have c1 : (0 : Rat) < (x.1 : Rat) := by exact_mod_cast c
    have : 0 < Sgn.rv x := by
      refine Rat.not_le.mp fun z => ?_
      have := Rat.mul_le_mul_of_nonneg_right z (Rat.le_of_lt h2)
      rw [e] at this
      grind
    rw [if_pos c, if_pos this]
  · have c1 : (x.1 : Rat) ≤ 0 := by exact_mod_cast (by omega : x.1 ≤ 0)
    have n1 : ¬ 0 < Sgn.rv x := fun z => by
      have := Rat.mul_pos z h2
      rw [e] at this
      grind
    rw [if_neg c, if_neg n1]
    by_cases d : x.1 < 0
    · have d1 : (x.1 : Rat) < 0 := by exact_mod_cast d
      have : Sgn.rv x < 0 := by
        refine Rat.not_le.mp fun z => ?_
        have := Rat.mul_nonneg z (Rat.le_of_lt h2)
        rw [e] at this
        grind
      rw [if_pos d, if_pos this]
    · have d1 : x.1 = 0 := by omega
      have : Sgn.rv x = 0 := by
        unfold Sgn.rv
        rw [d1]
        show ((0 : Int) : Rat) / _ = 0
        rw [show ((0 : Int) : Rat) = 0 from rfl]
        grind
      rw [if_neg d, if_neg (by rw [this]; grind)]
theorem rInt {r : Int} (h : 0 ≤ r) : ((r.toNat : Nat) : Rat) = (r : Rat) := Sgn.natI h
theorem two_same {r : Int} (hr : Sgn.NonSq r.toNat) {w t : Int × Int} (hw : 0 < w.2) (ht : 0 < t.2) : twoS r w t = Sgn.qs Sgn.rs (⟨Sgn.rv w, Sgn.rv t⟩ : Sgn.K1 r.toNat) := by
  have vw := vX hw
  have vt := vX ht
  have m := (vw.tm vw).v.mi ((vI r).tm (vt.tm vt).v).v
  rw [Sgn.qs_prog Sgn.rs_os (Sgn.irr1 hr)]
  unfold twoS
  rw [sg_rs hw, sg_rs ht, sg_rs m.v.pos, m.val]
  unfold Sgn.nrm
  rw [rInt hr.ge.1]
theorem area_same {ns : List Int} (rk : Sgn.Rok ns) {p : List (Int × Int)} (pl : p.length = areaN ns.length) (hp : ∀ x ∈ p, 0 < x.2) : areaS ns p = Sgn.areaSgn ns p := by
  match ns, p, rk, pl with
  | [], [a], _, _ => exact sg_rs (hp a (by simp))
  | [r], [a, b], rk, _ => exact two_same rk.2 (hp a (by simp)) (hp b (by simp))
  | [r, t], [a, b, c, d], ⟨r99, t99, h, g, k⟩, _ =>
    have va := vX (hp a (by simp))
    have vb := vX (hp b (by simp))
    have vc := vX (hp c (by simp))
    have vd := vX (hp d (by simp))
    have q1 : CP (sqP r a b).1 _ := (va.tm va).v.pl ((vI r).tm (vb.tm vb).v).v
    have q2 : CP (sqP r a b).2 _ := (vI 2).tm (va.tm vb).v
    have q3 : CP (sqP r c d).1 _ := (vc.tm vc).v.pl ((vI r).tm (vd.tm vd).v).v
    have q4 : CP (sqP r c d).2 _ := (vI 2).tm (vc.tm vd).v
    have m1 := q1.v.mi ((vI t).tm q3.v).v
    have m2 := q2.v.mi ((vI t).tm q4.v).v
    have e1 := two_same h va.pos vb.pos
    have e2 := two_same h vc.pos vd.pos
    have e3 := two_same h m1.v.pos m2.v.pos
    rw [m1.val, m2.val] at e3
    show (if 0 ≤ twoS r a b * twoS r c d then (if twoS r a b ≠ 0 then twoS r a b else twoS r c d)
      else twoS r a b * twoS r (minusP (sqP r a b).1 (timesP (t, 1) (sqP r c d).1)) (minusP (sqP r a b).2 (timesP (t, 1) (sqP r c d).2))) = Sgn.qs (Sgn.qs Sgn.rs) _
    rw [Sgn.qs_prog (Sgn.os1 h) (Sgn.irr2 h g k), e1, e2, e3]
    have en : Sgn.nrm (⟨⟨Sgn.rv a, Sgn.rv b⟩, ⟨Sgn.rv c, Sgn.rv d⟩⟩ : Sgn.K2 r.toNat t.toNat) = (⟨Sgn.rv a * Sgn.rv a + (r : Rat) * (Sgn.rv b * Sgn.rv b) - (t : Rat) * (Sgn.rv c * Sgn.rv c + (r : Rat) * (Sgn.rv d * Sgn.rv d)), ((2 : Int) : Rat) * (Sgn.rv a * Sgn.rv b) - (t : Rat) * (((2 : Int) : Rat) * (Sgn.rv c * Sgn.rv d))⟩ : Sgn.K1 r.toNat) := by
      have r1 := rInt h.ge.1
      have t1 := rInt g.ge.1
      have two : ((2 : Int) : Rat) = 2 := rfl
      unfold Sgn.nrm
      rw [two]
      refine Sgn.Quad.ext ?_ ?_
      · simp only [Sgn.Quad.mul_re, Sgn.Quad.mul_im, Sgn.Quad.sub_re]
        rw [r1, t1]
        grind
      · simp only [Sgn.Quad.mul_re, Sgn.Quad.mul_im, Sgn.Quad.sub_im]
        rw [t1]
        grind
    rw [en]
  | [], [], _, h => cases h
  | [], _ :: _ :: _, _, h => exact absurd h (by simp [areaN])
  | [_], [], _, h => cases h
  | [_], [_], _, h => cases h
  | [_], _ :: _ :: _ :: _, _, h => exact absurd h (by simp [areaN])
  | [_, _], [], _, h => cases h
  | [_, _], [_], _, h => cases h
  | [_, _], [_, _], _, h => cases h
  | [_, _], [_, _, _], _, h => cases h
  | [_, _], _ :: _ :: _ :: _ :: _ :: _, _, h => exact absurd h (by simp [areaN])
  | _ :: _ :: _ :: _, _, h, _ => exact h.elim
/-! ### sides, places, areas drawn -/
/-- a ratio in lowest terms, below 2 ^ a, 2 ^ d -/
structure GQ (a d : Nat) (x : Int × Int) : Prop where
  q : OkQ a d x
  rat : isRat (ratP x) = true
theorem GQ.mono {a d b e : Nat} {x : Int × Int} (h : GQ a d x) (g : a ≤ b) (k : d ≤ e) : GQ b e x := ⟨h.q.mono g k, h.rat⟩
theorem GQ.tm {a d b e : Nat} {x y : Int × Int} (h : OkQ a d x) (g : OkQ b e y) : GQ (a + b) (d + e) (timesP x y) := ⟨timesQ h g, ((vX h.pos).tm (vX g.pos)).can⟩
theorem GQ.pl {a d b e n : Nat} {x y : Int × Int} (h : OkQ a d x) (g : OkQ b e y) (h1 : a + e ≤ n) (h2 : b + d ≤ n) : GQ (n + 1) (d + e) (plusP x y) := ⟨plusQ h g h1 h2, ((vX h.pos).pl (vX g.pos)).can⟩
theorem GQ.mi {a d b e n : Nat} {x y : Int × Int} (h : OkQ a d x) (g : OkQ b e y) (h1 : a + e ≤ n) (h2 : b + d ≤ n) : GQ (n + 1) (d + e) (minusP x y) := ⟨minusQ h g h1 h2, ((vX h.pos).mi (vX g.pos)).can⟩
theorem gq11 : GQ 1 1 ((1 : Int), (1 : Int)) := ⟨⟨by decide, by show (1 : Int).natAbs < 2 ^ 1; decide, by show (1 : Int).natAbs < 2 ^ 1; decide⟩, by decide +kernel⟩
theorem gq01 : GQ 1 1 ((0 : Int), (1 : Int)) := ⟨⟨by decide, by show (0 : Int).natAbs < 2 ^ 1; decide, by show (1 : Int).natAbs < 2 ^ 1; decide⟩, by decide +kernel⟩
theorem gqm1 : GQ 1 1 ((-1 : Int), (1 : Int)) := ⟨⟨by decide, by show (-1 : Int).natAbs < 2 ^ 1; decide, by show (1 : Int).natAbs < 2 ^ 1; decide⟩, by decide +kernel⟩
theorem gq12 : GQ 1 2 ((1 : Int), (2 : Int)) := ⟨⟨by decide, by show (1 : Int).natAbs < 2 ^ 1; decide, by show (2 : Int).natAbs < 2 ^ 2; decide⟩, by decide +kernel⟩
theorem gqm3 : GQ 1 2 ((-1 : Int), (3 : Int)) := ⟨⟨by decide, by show (-1 : Int).natAbs < 2 ^ 1; decide, by show (3 : Int).natAbs < 2 ^ 2; decide⟩, by decide +kernel⟩
theorem unmap {P : Int × Int → Prop} : ∀ {l : List D}, (∀ d ∈ l, ∃ x, d = ratP x ∧ P x) → ∃ p : List (Int × Int), l = p.map ratP ∧ ∀ x ∈ p, P x
  | [], _ => ⟨[], rfl, fun x hx => by simp at hx⟩
  | d :: l, h => by
    obtain ⟨p, e, hp⟩ := unmap (l := l) fun d hd => h d (List.mem_cons_of_mem _ hd)
    obtain ⟨x, rfl, hx⟩ := h d List.mem_cons_self
    refine ⟨x :: p, by rw [e]; rfl, fun y hy => ?_⟩
    rcases List.mem_cons.mp hy with rfl | hy
    · exact hx
    · exact hp y hy
theorem gSl_t {l : List D} {lo hi : Option Int} {k : KD} (h : k (.tup (Lay.cutD l lo hi))) : gSl (.tup l) lo hi k := h
def f__law_side : FS := fun ds Kp _ => ∃ ns, ds = [.drw, .lst (ns.map D.int)] ∧ Sgn.Rok ns ∧ ∀ p, p.length = ns.length + 1 → (∀ x ∈ p, GQ 4 3 x) → Kp (lenD p)
abbrev s__law_side : Stmt := top 80
theorem sc__law_side : FnScope ["draw", "roots", "found", "at"] ["draw", "roots"] (defScope s__law_side) := ⟨rfl, rfl, rfl, by decide +kernel, rfl, by decide +kernel, by decide +kernel⟩
theorem ok__law_side {G : Pg} {k : Nat} (T : Tx G) (h : At G "_law_side" s__law_side) (c__law_item : Fn G "_law_item" k ["draw"] f__law_item) (c__law_sign : Fn G "_law_sign" k ["roots", "length"] f__law_sign) (c__law_scaled : Fn G "_law_scaled" k ["length", "ratio"] f__law_scaled) : Fn G "_law_side" (k + 1) ["draw", "roots"] f__law_side := by
  obtain ⟨fa, fd, F, hm⟩ := h
  refine Fn.of F hm sc__law_side (fun _ _ _ _ _ _ us hl => match us, hl with | [_, _], _ => rfl) ?_
  intro cdv A outer s H E dr M ds Kp Ke tk po hr hl hf
  have tb := T.b
  have nd := sc__law_side.nd
  obtain ⟨ns, rfl, rk, k⟩ := hf
  obtain ⟨hn, hall⟩ := rok_all rk
  have hL : (ns.map D.int).length = ns.length := List.length_map ..
  walk_at "gl"
  refine And.intro (show -2 ^ 62 ≤ (((ns.map D.int).length : Nat) : Int) + 1 by omega) (And.intro (show (((ns.map D.int).length : Nat) : Int) + 1 < 2 ^ 62 by omega) ?_)
  refine lc_all (fun d => ∃ x, d = ratP x ∧ GQ 3 2 x) (show (intsD 0 ((((ns.map D.int).length : Nat) : Int) + 1).toNat).length ≤ _ by simp only [intsD, List.length_map, List.length_range]; omega) (fun _ _ => trivial) (fun d hd A s H C cl fp => ?_) (fun l hl hp => ?_)
  · walk_at "gl"
    refine ⟨rfl, fun x hx hb => ⟨x, rfl, ⟨hx.ok.pos, show x.1.natAbs < 2 ^ 3 by omega, show x.2.natAbs < 2 ^ 2 by have := hx.ok.pos; omega⟩, hx.rat⟩⟩
  obtain ⟨p, rfl, hp'⟩ := unmap hp
  have pl : p.length = ns.length + 1 := by
    rw [List.length_map] at hl
    rw [hl]
    simp only [intsD, List.length_map, List.length_range]
    omega
  walk_at "gl"
  refine ⟨ns, p, rfl, rk, pl, fun x hx => (hp' x hx).q.mono (by decide) (by decide), ?_⟩
  walk_at "gl"
  refine ⟨fun _ => ?_, fun _ => ?_⟩
  · have tl : ∀ a p', p = a :: p' → Lay.cutD (p.map ratP) (some 1) none = p'.map ratP := fun a p' e => by
      subst e
      match p', pl, hn with
      | [], _, _ => rfl
      | [b], _, _ => rfl
      | [b, c], _, _ => rfl
      | _ :: _ :: _ :: _, h, g => exact absurd h (by simp only [List.length_cons]; omega)
    cases p with
    | nil => simp at pl
    | cons a p' =>
      have t := tl a p' rfl
      walk_at "gl"
      refine gSl_t ?_
      show gAdd (.tup [rat 1 1]) (.tup (Lay.cutD ((a :: p').map ratP) (some 1) none)) _
      rw [t]
      refine ⟨by simp only [List.length_cons, List.length_nil, List.length_map] at *; omega, ?_⟩
      walk_at "gl"
      have hp1 : ∀ x ∈ (1, 1) :: p', GQ 3 2 x := fun x hx => by
        rcases List.mem_cons.mp hx with rfl | hx
        · exact gq11.mono (by decide) (by decide)
        · exact hp' x (List.mem_cons_of_mem _ hx)
      have pl1 : ((1, 1) :: p' : List (Int × Int)).length = ns.length + 1 := pl
      have pl9 : ((1, 1) :: p' : List (Int × Int)).length ≤ 16777216 := by omega
      refine ⟨ns, (1, 1) :: p', rfl, rk, pl1, fun x hx => (hp1 x hx).q.mono (by decide) (by decide), ?_⟩
      walk_at "gl"
      refine ⟨fun _ => ?_, fun _ => ?_⟩
      · walk_at "gl"
        exact k ((1, 1) :: p') pl1 fun x hx => (hp1 x hx).mono (by decide) (by decide)
      · walk_at "gl"
        refine ⟨(1, 1) :: p', (-1, 1), rfl, by omega, fun x hx => (hp1 x hx).q.ok (by decide) (by decide), gqm1.q.ok (by decide) (by decide), ?_⟩
        refine k _ (by rw [List.length_map]; exact pl1) fun x hx => ?_
        obtain ⟨y, hy, rfl⟩ := List.mem_map.mp hx
        exact GQ.tm (hp1 y hy).q gqm1.q
  · walk_at "gl"
    refine ⟨ns, p, rfl, rk, pl, fun x hx => (hp' x hx).q.mono (by decide) (by decide), ?_⟩
    walk_at "gl"
    refine ⟨fun _ => ?_, fun _ => ?_⟩
    · walk_at "gl"
      exact k (p) pl fun x hx => (hp' x hx).mono (by decide) (by decide)
    · walk_at "gl"
      refine ⟨p, (-1, 1), rfl, by omega, fun x hx => (hp' x hx).q.ok (by decide) (by decide), gqm1.q.ok (by decide) (by decide), ?_⟩
      refine k _ (by rw [List.length_map]; exact pl) fun x hx => ?_
      obtain ⟨y, hy, rfl⟩ := List.mem_map.mp hx
      exact GQ.tm (hp' y hy).q gqm1.q
def menuP : List (Int × Int) := [(0, 1), (0, 1), (1, 1), (-1, 1), (1, 2)]
theorem menuP_ok : ∀ x ∈ menuP, OkQ 1 2 x := by
  intro x h
  simp only [menuP, List.mem_cons, List.mem_nil_iff, or_false] at h
  rcases h with rfl | rfl | rfl | rfl | rfl
  · exact gq01.q.mono (by decide) (by decide)
  · exact gq01.q.mono (by decide) (by decide)
  · exact gq11.q.mono (by decide) (by decide)
  · exact gqm1.q.mono (by decide) (by decide)
  · exact gq12.q
def f__law_place : FS := fun ds Kp _ => ∃ ns, ds = [.drw, .lst (ns.map D.int)] ∧ Sgn.Rok ns ∧ ∀ p, p.length = ns.length + 1 → (∀ x ∈ p, GQ 5 5 x) → Kp (lenD p)
abbrev s__law_place : Stmt := top 81
theorem sc__law_place : FnScope ["draw", "roots"] ["draw", "roots"] (defScope s__law_place) := ⟨rfl, rfl, rfl, by decide +kernel, rfl, by decide +kernel, by decide +kernel⟩
theorem ok__law_place {G : Pg} {k : Nat} (T : Tx G) (h : At G "_law_place" s__law_place) (c__law_side : Fn G "_law_side" k ["draw", "roots"] f__law_side) (c__law_pick : Fn G "_law_pick" k ["draw", "some"] f__law_pick) (c__law_scaled : Fn G "_law_scaled" k ["length", "ratio"] f__law_scaled) : Fn G "_law_place" (k + 1) ["draw", "roots"] f__law_place := by
  obtain ⟨fa, fd, F, hm⟩ := h
  refine Fn.of F hm sc__law_place (fun _ _ _ _ _ _ us hl => match us, hl with | [_, _], _ => rfl) ?_
  intro cdv A outer s H E dr M ds Kp Ke tk po hr hl hf
  have tb := T.b
  have nd := sc__law_place.nd
  obtain ⟨ns, rfl, rk, k⟩ := hf
  obtain ⟨hn, hall⟩ := rok_all rk
  walk_at "gl"
  refine ⟨ns, rfl, rk, fun p pl hp => ?_⟩
  walk_at "gl"
  refine ⟨menuP.map ratP, rfl, by simp [menuP], by simp [menuP], fun dy hdy => ?_⟩
  obtain ⟨y, hy, rfl⟩ := List.mem_map.mp hdy
  have hyk := menuP_ok y hy
  walk_at "gl"
  refine ⟨p, y, rfl, by omega, fun x hx => (hp x hx).q.ok (by decide) (by decide), hyk.ok (by decide) (by decide), ?_⟩
  refine k _ (by rw [List.length_map]; exact pl) fun x hx => ?_
  obtain ⟨z, hz, rfl⟩ := List.mem_map.mp hx
  exact GQ.tm (hp z hz).q hyk
/-- how great a product's numbers are -/
theorem prod_gq {aa dd bb ee : Nat} {ns : List Int} {p q : List (Int × Int)} (hn : ns.length ≤ 2) (hr : ∀ r ∈ ns, sz 7 r) (pl : p.length = ns.length + 1) (ql : q.length = ns.length + 1) (hp : ∀ x ∈ p, OkQ aa dd x) (hq : ∀ x ∈ q, OkQ bb ee x) :
    (prodP ns p q).length = areaN ns.length ∧ ∀ x ∈ prodP ns p q, GQ (aa + bb + 2 * (dd + ee) + 10) (3 * (dd + ee) + 2) x := by
  have tm : ∀ {x y}, x ∈ p → y ∈ q → GQ (aa + bb) (dd + ee) (timesP x y) := fun hx hy => GQ.tm (hp _ hx) (hq _ hy)
  have tr : ∀ {r x y}, r ∈ ns → x ∈ p → y ∈ q → GQ (7 + (aa + bb)) (1 + (dd + ee)) (timesP (r, 1) (timesP x y)) := fun h1 hx hy => GQ.tm (okQr (hr _ h1)) (tm hx hy).q
  have cr : ∀ {x y z w}, x ∈ p → y ∈ q → z ∈ p → w ∈ q → GQ (aa + bb + 2 * (dd + ee) + 10) (3 * (dd + ee) + 2) (plusP (timesP x y) (timesP z w)) := fun h1 h2 h3 h4 => (GQ.pl (n := aa + bb + (dd + ee)) (tm h1 h2).q (tm h3 h4).q (by omega) (by omega)).mono (by omega) (by omega)
  match ns, p, q, hn, pl, ql with
  | [], [a], [x], _, _, _ =>
    refine ⟨rfl, fun z hz => ?_⟩
    have hz : z ∈ [timesP a x] := hz
    rw [List.mem_singleton.mp hz]
    exact (tm (by simp) (by simp)).mono (by omega) (by omega)
  | [r], [a, b], [x, y], _, _, _ =>
    refine ⟨rfl, fun z hz => ?_⟩
    have hz : z ∈ [plusP (timesP a x) (timesP (r, 1) (timesP b y)), plusP (timesP a y) (timesP b x)] := hz
    simp only [List.mem_cons, List.mem_nil_iff, or_false] at hz
    rcases hz with rfl | rfl
    · exact (GQ.pl (n := aa + bb + (dd + ee) + 7) (tm (by simp) (by simp)).q (tr (by simp) (by simp) (by simp)).q (by omega) (by omega)).mono (by omega) (by omega)
    · exact cr (by simp) (by simp) (by simp) (by simp)
  | [r, t], [a, b, c], [x, y, z], _, _, _ =>
    refine ⟨rfl, fun w hw => ?_⟩
    have hw : w ∈ [plusP (plusP (timesP a x) (timesP (r, 1) (timesP b y))) (timesP (t, 1) (timesP c z)), plusP (timesP a y) (timesP b x), plusP (timesP a z) (timesP c x), plusP (timesP b z) (timesP c y)] := hw
    simp only [List.mem_cons, List.mem_nil_iff, or_false] at hw
    rcases hw with rfl | rfl | rfl | rfl
    · exact (GQ.pl (n := aa + bb + 2 * (dd + ee) + 9) (GQ.pl (n := aa + bb + (dd + ee) + 7) (tm (by simp) (by simp)).q (tr (by simp) (by simp) (by simp)).q (by omega) (by omega)).q (tr (by simp) (by simp) (by simp)).q (by omega) (by omega)).mono (by omega) (by omega)
    · exact cr (by simp) (by simp) (by simp) (by simp)
    · exact cr (by simp) (by simp) (by simp) (by simp)
    · exact cr (by simp) (by simp) (by simp) (by simp)
  | [], [], _, _, h, _ => simp at h
  | [], _ :: _ :: _, _, _, h, _ => simp at h
  | [], [_], [], _, _, h => simp at h
  | [], [_], _ :: _ :: _, _, _, h => simp at h
  | [_], [], _, _, h, _ => simp at h
  | [_], [_], _, _, h, _ => simp at h
  | [_], _ :: _ :: _ :: _, _, _, h, _ => simp at h
  | [_], [_, _], [], _, _, h => simp at h
  | [_], [_, _], [_], _, _, h => simp at h
  | [_], [_, _], _ :: _ :: _ :: _, _, _, h => simp at h
  | [_, _], [], _, _, h, _ => simp at h
  | [_, _], [_], _, _, h, _ => simp at h
  | [_, _], [_, _], _, _, h, _ => simp at h
  | [_, _], _ :: _ :: _ :: _ :: _, _, _, h, _ => simp at h
  | [_, _], [_, _, _], [], _, _, h => simp at h
  | [_, _], [_, _, _], [_], _, _, h => simp at h
  | [_, _], [_, _, _], [_, _], _, _, h => simp at h
  | [_, _], [_, _, _], _ :: _ :: _ :: _ :: _, _, _, h => simp at h
  | _ :: _ :: _ :: _, _, _, h, _, _ => exact absurd h (by simp only [List.length_cons]; omega)
/-! ### areas drawn -/
theorem gPow {i j : Int} {K : KD} (h : CPowD i j) (k : K (.int (i ^ j.toNat))) : gI2 CPowD (fun i j => .int (i ^ j.toNat)) (.int i) (.int j) K := ⟨h, k⟩
def f__law_some : FS := fun ds Kp _ => ∃ ns, ds = [.drw, .lst (ns.map D.int)] ∧ Sgn.Rok ns ∧ ∀ p, p.length = areaN ns.length → (∀ x ∈ p, GQ 55 43 x) → Kp (lenD p)
abbrev s__law_some : Stmt := top 82
theorem sc__law_some : FnScope ["draw", "roots", "one", "other", "found", "way", "near", "size", "at", "item"] ["draw", "roots"] (defScope s__law_some) := ⟨rfl, rfl, rfl, by decide +kernel, rfl, by decide +kernel, by decide +kernel⟩
theorem ok__law_some {G : Pg} {k : Nat} (T : Tx G) (h : At G "_law_some" s__law_some) (c__law_side : Fn G "_law_side" k ["draw", "roots"] f__law_side) (c__law_product : Fn G "_law_product" k ["roots", "one", "other"] f__law_product) (c__law_take : Fn G "_law_take" k ["draw", "amount"] f__law_take) (c__law_root_floor : Fn G "_law_root_floor" k ["number"] f__law_root_floor) (c__law_insides : Fn G "_law_insides" k ["roots"] f__law_insides) (c__law_pair : Fn G "_law_pair" k ["above", "bottom"] f__law_pair) (c__law_less : Fn G "_law_less" k ["one", "other"] f__law_less) (c__law_add : Fn G "_law_add" k ["one", "other"] f__law_add) (c__law_item_length : Fn G "_law_item_length" k ["roots", "number"] f__law_item_length) (c__law_scaled : Fn G "_law_scaled" k ["length", "ratio"] f__law_scaled) : Fn G "_law_some" (k + 1) ["draw", "roots"] f__law_some := by
  obtain ⟨fa, fd, F, hm⟩ := h
  refine Fn.of F hm sc__law_some (fun _ _ _ _ _ _ us hl => match us, hl with | [_, _], _ => rfl) ?_
  intro cdv A outer s H E dr M ds Kp Ke tk po hr hl hf
  have tb := T.b
  have nd := sc__law_some.nd
  obtain ⟨ns, rfl, rk, k⟩ := hf
  obtain ⟨hn, hall⟩ := rok_all rk
  have hr7 := rok_sz rk
  have hins := insA_sz rk
  have el := insA_len hn
  have h4 := areaN_le hn
  walk_at "gl"
  refine ⟨ns, rfl, rk, fun p pl hp => ?_⟩
  walk_at "gl"
  refine ⟨ns, rfl, rk, fun q ql hq => ?_⟩
  walk_at "gl"
  refine ⟨ns, p, q, rfl, rk, pl, ql, fun x hx => (hp x hx).q.mono (by decide) (by decide), fun x hx => (hq x hx).q.mono (by decide) (by decide), ?_⟩
  rw [prod_same hn pl ql (fun x hx => (hp x hx).q.pos) (fun x hx => (hq x hx).q.pos)]
  obtain ⟨fl1, fg⟩ := prod_gq hn hr7 pl ql (fun x hx => (hp x hx).q) (fun x hx => (hq x hx).q)
  generalize prodP ns p q = f at *
  have oneN : ∀ x ∈ (1, 1) :: List.replicate ns.length ((0 : Int), (1 : Int)), GQ 1 1 x := fun x hx => by
    rcases List.mem_cons.mp hx with rfl | hx
    · exact gq11
    · rw [(List.mem_replicate.mp hx).2]
      exact gq01
  have l1 : (List.zipWith plusP p ((1, 1) :: List.replicate ns.length ((0 : Int), (1 : Int)))).length = ns.length + 1 := by
    rw [List.length_zipWith, List.length_cons, List.length_replicate]; omega
  have g1 : ∀ x ∈ List.zipWith plusP p ((1, 1) :: List.replicate ns.length ((0 : Int), (1 : Int))), GQ 6 4 x := fun x hx => by
    obtain ⟨y, hy, z, hz, rfl⟩ := zwm hx
    exact GQ.pl (n := 5) (hp y hy).q (oneN z hz).q (by decide) (by decide)
  walk_at "gl"
  refine ⟨4, rfl, by decide, by decide, fun w w0 w1 => ?_⟩
  walk_at "gl"
  refine ⟨fun z => ?_, fun z => ?_⟩
  · walk_at "gl"
    refine gNe_nil (okd_lst.mpr fun x hx => ?_) ?_
    · obtain ⟨n, _, rfl⟩ := List.mem_map.mp hx
      rfl
    refine ⟨fun ze => ?_, fun _ => ?_⟩
    · have ne : ns ≠ [] := fun h => by
        subst h
        cases ze
      have n1 : 1 ≤ ns.length := by
        cases ns with
        | nil => exact absurd rfl ne
        | cons _ _ => simp
      have n2 : 2 ≤ areaN ns.length := Nat.le_trans (by decide : 2 ≤ 2 ^ 1) (Nat.pow_le_pow_right (by decide) n1)
      have eN : (((f.map ratP).length : Nat) : Int).toNat = f.length := by rw [List.length_map]; exact Int.toNat_natCast _
      refine ds_cons (ds_setF 6 nd rfl (by first | exact .inl rfl | exact .inr rfl) (df_rep ?_))
      walk_at "gl"
      refine ⟨_, rfl, ?_⟩
      walk_at "gl"
      refine gLen_seq (l := f.map ratP) rfl ?_
      refine ⟨by rw [List.length_map]; omega, by omega, by rw [List.length_map]; simp only [List.length_cons, List.length_nil, Int.toNat_natCast]; omega, ?_⟩
      rw [eN]
      show DSs _ _ _ _ (List.set _ 6 (.ow (List.replicate f.length [rat 0 1]).flatten)) _ _ _
      rw [nought_rep]
      walk_at "gl"
      refine gPow ⟨by decide, by decide +kernel⟩ ?_
      have S0 : 0 < (10 : Int) ^ Int.toNat 12 := by decide +kernel
      have Sz : sz 40 ((10 : Int) ^ Int.toNat 12) := by
        show ((10 : Int) ^ Int.toNat 12).natAbs < 2 ^ 40
        decide +kernel
      generalize (10 : Int) ^ Int.toNat 12 = S at *
      walk_at "gl"
      refine ⟨_, rfl, by rw [List.length_map]; omega, by rw [List.length_map]; omega, fun t t0 t1 => ?_⟩
      rw [List.length_map] at t1
      obtain ⟨m, rfl⟩ := Int.eq_ofNat_of_zero_le t0
      walk_at "gl"
      refine ds_setIt2 6 rfl rfl (by first | exact .inl rfl | exact .inr (.inl rfl) | exact .inr (.inr rfl)) rfl ?_
      walk_at "gl"
      refine ⟨ns, rfl, hn, hr7, ?_⟩
      walk_at "gl"
      have ea : 1 + (m : Int) = ((m + 1 : Nat) : Int) := by omega
      have hm1 : m + 1 < (Sgn.insA ns).length := by omega
      obtain ⟨i0, i14⟩ := hins _ (List.mem_of_getElem? (getD_someI hm1))
      show gIx (.lst ((Sgn.insA ns).map D.int)) (.int (1 + (m : Int))) _
      rw [ea]
      refine gIx_int (i := m + 1) (getD_someI hm1) ?_
      generalize (Sgn.insA ns).getD (m + 1) 0 = iv at *
      have N0 : 0 ≤ iv * S * S := Int.mul_nonneg (Int.mul_nonneg i0 (by omega)) (by omega)
      have sN : sz 94 (iv * S * S) := (i14.mul Sz).mul Sz
      have sF := sz_fl (n := 47) N0 sN (by decide)
      walk_at "gl"
      refine ⟨i14.cmul Sz (by decide) (by decide) (by decide), ?_⟩
      walk_at "gl"
      refine ⟨(i14.mul Sz).cmul Sz (by decide) (by decide) (by decide), ?_⟩
      walk_at "gl"
      refine ⟨_, rfl, N0, sN.mono (by decide), ?_⟩
      walk_at "gl"
      refine ⟨2, rfl, by decide, by decide, fun b b0 b1 => ?_⟩
      walk_at "gl"
      refine ⟨_, _, rfl, ?_⟩
      walk_at "gl"
      refine ⟨0, ixN_at (j := 0) (by rw [List.length_map, List.length_replicate]; omega), ?_⟩
      walk_at "gl"
      refine ⟨m + 1, ixN_at (by rw [List.length_map, List.length_replicate]; omega), ?_⟩
      have nk : ∀ x ∈ ((List.replicate f.length ((0 : Int), (1 : Int))).set 0 (Sgn.fl (iv * S * S) + b, S)).set (m + 1) (-1, 1), OkQ 48 40 x := fun x hx => by
        have sb : sz 47 b := show b.natAbs < 2 ^ 47 by omega
        rcases List.mem_or_eq_of_mem_set hx with hx | rfl
        · rcases List.mem_or_eq_of_mem_set hx with hx | rfl
          · rw [(List.mem_replicate.mp hx).2]
            exact gq01.q.mono (by decide) (by decide)
          · exact ⟨S0, sF.add sb, Sz⟩
        · exact gqm1.q.mono (by decide) (by decide)
      have eL : ((List.map ratP (List.replicate f.length ((0 : Int), (1 : Int)))).set 0 (.tup [.int (Sgn.fl (iv * S * S) + b), .int S])).set (m + 1) (.tup [.int (-1), .int 1]) = (((List.replicate f.length ((0 : Int), (1 : Int))).set 0 (Sgn.fl (iv * S * S) + b, S)).set (m + 1) (-1, 1)).map ratP := by
        rw [List.map_set, List.map_set]
      have nl : (((List.replicate f.length ((0 : Int), (1 : Int))).set 0 (Sgn.fl (iv * S * S) + b, S)).set (m + 1) (-1, 1)).length = areaN ns.length := by
        rw [List.length_set, List.length_set, List.length_replicate]; exact fl1
      show DSs _ _ _ _ (List.set _ 6 (.ow ((List.set _ 0 _).set (m + 1) _))) _ _ _
      rw [eL]
      generalize ((List.replicate f.length ((0 : Int), (1 : Int))).set 0 (Sgn.fl (iv * S * S) + b, S)).set (m + 1) (-1, 1) = L at *
      refine dss_give 6 rfl ?_
      walk_at "gl"
      refine lc_map (oneF fun x => pairP x.1 x.2) (by rw [List.length_map]; omega) (fun _ _ => trivial) (fun d hd A s H C cl fp => ?_) ?_
      · obtain ⟨x, hx, rfl⟩ := List.mem_map.mp hd
        walk_at "gl"
        exact ⟨x.1, x.2, rfl, (nk x hx).pos, (nk x hx).dn.mono (by decide), rfl⟩
      rw [one_map]
      walk_at "gl"
      refine k _ (by rw [List.length_map]; exact nl) fun x hx => ?_
      obtain ⟨y, hy, rfl⟩ := List.mem_map.mp hx
      exact ⟨(OkQ.szr (nk y hy).pos (nk y hy).up (nk y hy).dn).mono (by decide) (by decide), rpair_isRat (nk y hy).pos⟩
    · walk_at "gl"
      refine ⟨fun _ => ?_, fun _ => ?_⟩
      · walk_at "gl"
        refine ⟨ns, 1, rfl, hn, ?_⟩
        walk_at "gl"
        refine ⟨p, (1, 1) :: List.replicate ns.length (0, 1), rfl, by omega, fun x hx => (hp x hx).q.ok (by decide) (by decide), fun x hx => (oneN x hx).q.ok (by decide) (by decide), ?_⟩
        walk_at "gl"
        refine ⟨ns, List.zipWith plusP p ((1, 1) :: List.replicate ns.length (0, 1)), q, rfl, rk, l1, ql, fun x hx => (g1 x hx).q.mono (by decide) (by decide), fun x hx => (hq x hx).q.mono (by decide) (by decide), ?_⟩
        rw [prod_same hn l1 ql (fun x hx => (g1 x hx).q.pos) (fun x hx => (hq x hx).q.pos)]
        obtain ⟨l2, g2⟩ := prod_gq hn hr7 l1 ql (fun x hx => (g1 x hx).q) (fun x hx => (hq x hx).q)
        walk_at "gl"
        refine ⟨f, _, rfl, by omega, fun x hx => (fg x hx).q.ok (by decide) (by decide), fun x hx => (g2 x hx).q.ok (by decide) (by decide), ?_⟩
        refine k _ (by rw [List.length_zipWith]; omega) fun x hx => ?_
        obtain ⟨y, hy, z, hz, rfl⟩ := zwm hx
        exact GQ.mi (n := 54) (fg y hy).q (g2 z hz).q (by decide) (by decide)
      · walk_at "gl"
        refine ⟨fun _ => ?_, fun _ => ?_⟩
        · walk_at "gl"
          exact k f fl1 fun x hx => (fg x hx).mono (by decide) (by decide)
        · walk_at "gl"
          refine ⟨f, (-1, 3), rfl, by omega, fun x hx => (fg x hx).q.ok (by decide) (by decide), gqm3.q.ok (by decide) (by decide), ?_⟩
          refine k _ (by rw [List.length_map]; exact fl1) fun x hx => ?_
          obtain ⟨y, hy, rfl⟩ := List.mem_map.mp hx
          exact (GQ.tm (fg y hy).q gqm3.q).mono (by decide) (by decide)
  · walk_at "gl"
    refine ⟨fun _ => ?_, fun _ => ?_⟩
    · walk_at "gl"
      refine ⟨ns, 1, rfl, hn, ?_⟩
      walk_at "gl"
      refine ⟨p, (1, 1) :: List.replicate ns.length (0, 1), rfl, by omega, fun x hx => (hp x hx).q.ok (by decide) (by decide), fun x hx => (oneN x hx).q.ok (by decide) (by decide), ?_⟩
      walk_at "gl"
      refine ⟨ns, List.zipWith plusP p ((1, 1) :: List.replicate ns.length (0, 1)), q, rfl, rk, l1, ql, fun x hx => (g1 x hx).q.mono (by decide) (by decide), fun x hx => (hq x hx).q.mono (by decide) (by decide), ?_⟩
      rw [prod_same hn l1 ql (fun x hx => (g1 x hx).q.pos) (fun x hx => (hq x hx).q.pos)]
      obtain ⟨l2, g2⟩ := prod_gq hn hr7 l1 ql (fun x hx => (g1 x hx).q) (fun x hx => (hq x hx).q)
      walk_at "gl"
      refine ⟨f, _, rfl, by omega, fun x hx => (fg x hx).q.ok (by decide) (by decide), fun x hx => (g2 x hx).q.ok (by decide) (by decide), ?_⟩
      refine k _ (by rw [List.length_zipWith]; omega) fun x hx => ?_
      obtain ⟨y, hy, z, hz, rfl⟩ := zwm hx
      exact GQ.mi (n := 54) (fg y hy).q (g2 z hz).q (by decide) (by decide)
    · walk_at "gl"
      refine ⟨fun _ => ?_, fun _ => ?_⟩
      · walk_at "gl"
        exact k f fl1 fun x hx => (fg x hx).mono (by decide) (by decide)
      · walk_at "gl"
        refine ⟨f, (-1, 3), rfl, by omega, fun x hx => (fg x hx).q.ok (by decide) (by decide), gqm3.q.ok (by decide) (by decide), ?_⟩
        refine k _ (by rw [List.length_map]; exact fl1) fun x hx => ?_
        obtain ⟨y, hy, rfl⟩ := List.mem_map.mp hx
        exact (GQ.tm (fg y hy).q gqm3.q).mono (by decide) (by decide)
/-! ### the law's areas: what is drawn, told by data -/
theorem menuR_rok : ∀ ns ∈ menuR, Sgn.Rok ns := by
  intro ns h
  simp only [menuR, List.mem_cons, List.mem_nil_iff, or_false] at h
  rcases h with rfl | rfl | rfl | rfl | rfl | rfl | rfl | rfl | rfl | rfl | rfl | rfl
  · trivial
  · exact ⟨by decide, 1, by decide, by decide⟩
  · exact ⟨by decide, 1, by decide, by decide⟩
  · exact ⟨by decide, 1, by decide, by decide⟩
  · exact ⟨by decide, 2, by decide, by decide⟩
  · exact ⟨by decide, 2, by decide, by decide⟩
  · exact ⟨by decide, by decide, ⟨1, by decide, by decide⟩, ⟨1, by decide, by decide⟩, ⟨2, by decide, by decide⟩⟩
  · exact ⟨by decide, by decide, ⟨1, by decide, by decide⟩, ⟨1, by decide, by decide⟩, ⟨2, by decide, by decide⟩⟩
  · exact ⟨by decide, by decide, ⟨1, by decide, by decide⟩, ⟨2, by decide, by decide⟩, ⟨3, by decide, by decide⟩⟩
  · exact ⟨by decide, by decide, ⟨1, by decide, by decide⟩, ⟨2, by decide, by decide⟩, ⟨3, by decide, by decide⟩⟩
  · exact ⟨by decide, by decide, ⟨2, by decide, by decide⟩, ⟨3, by decide, by decide⟩, ⟨7, by decide, by decide⟩⟩
  · exact ⟨by decide, by decide, ⟨9, by decide, by decide⟩, ⟨9, by decide, by decide⟩, ⟨94, by decide, by decide⟩⟩
/-- what is known of drawn ratios p as a datum d -/
structure AreaP (n a b : Nat) (p : List (Int × Int)) : Prop where
  len : p.length = n
  gq : ∀ x ∈ p, GQ a b x
theorem AreaP.is {n a b : Nat} {p : List (Int × Int)} (h : AreaP n a b p) (ha : a ≤ 900) (hb : b ≤ 900) : isLen n (lenD p) = true := by
  unfold isLen
  show ((p.map ratP).length == n && (p.map ratP).all isGiv) = true
  simp only [Bool.and_eq_true, beq_iff_eq, List.all_eq_true, List.length_map]
  refine ⟨h.len, fun x hx => ?_⟩
  obtain ⟨y, hy, rfl⟩ := List.mem_map.mp hx
  have g := h.gq y hy
  show (isRat (ratP y) && few y.1 y.2) = true
  rw [g.rat, few_of (g.q.ok ha hb) (Nat.le_refl 900)]
  rfl
theorem sum4_same : ∀ {p q r s : List (Int × Int)}, q.length = p.length → r.length = p.length → s.length = p.length → (∀ x ∈ p, 0 < x.2) → (∀ x ∈ q, 0 < x.2) → (∀ x ∈ r, 0 < x.2) → (∀ x ∈ s, 0 < x.2) →
    List.zipWith plusP (List.zipWith plusP (List.zipWith plusP (List.zipWith plusP (List.replicate p.length (0, 1)) p) q) r) s = List.zipWith plusP (List.zipWith plusP p q) (List.zipWith plusP r s)
  | [], q, r, s, h1, h2, h3, _, _, _, _ => by
    rw [List.length_eq_zero_iff.mp h1, List.length_eq_zero_iff.mp h2, List.length_eq_zero_iff.mp h3]; rfl
  | a :: p, b :: q, c :: r, d :: s, h1, h2, h3, g1, g2, g3, g4 => by
    have va := vX (g1 a (by simp))
    have vb := vX (g2 b (by simp))
    have vc := vX (g3 c (by simp))
    have vd := vX (g4 d (by simp))
    rw [List.length_cons, List.replicate_succ]
    simp only [List.zipWith_cons_cons]
    rw [sum4_same (p := p) (q := q) (r := r) (s := s) (by simpa using h1) (by simpa using h2) (by simpa using h3) (fun x hx => g1 x (List.mem_cons_of_mem _ hx)) (fun x hx => g2 x (List.mem_cons_of_mem _ hx)) (fun x hx => g3 x (List.mem_cons_of_mem _ hx)) (fun x hx => g4 x (List.mem_cons_of_mem _ hx)),
      CP.eq ((((v01.pl va).v.pl vb).v.pl vc).v.pl vd) ((va.pl vb).v.pl (vc.pl vd).v) (by grind)]
  | _ :: _, [], _, _, h, _, _, _, _, _, _ => by simp at h
  | _ :: _, _ :: _, [], _, _, h, _, _, _, _, _ => by simp at h
  | _ :: _, _ :: _, _ :: _, [], _, _, h, _, _, _, _ => by simp at h
theorem zw_gq {a d b e n : Nat} {p q : List (Int × Int)} (hp : ∀ x ∈ p, OkQ a d x) (hq : ∀ x ∈ q, OkQ b e x) (h1 : a + e ≤ n) (h2 : b + d ≤ n) : ∀ x ∈ List.zipWith plusP p q, GQ (n + 1) (d + e) x := fun x hx => by
  obtain ⟨y, hy, z, hz, rfl⟩ := zwm hx
  exact GQ.pl (hp y hy) (hq z hz) h1 h2
theorem sumA4 {n : Nat} {p q r s : List (Int × Int)} (hn : n ≤ 4) (hp : AreaP n 55 43 p) (hq : AreaP n 55 43 q) (hr : AreaP n 55 43 r) (hs : AreaP n 55 43 s) : SumA n [p, q, r, s] := by
  have z0 : ∀ x ∈ List.replicate n ((0 : Int), (1 : Int)), OkQ 1 1 x := fun x hx => by
    rw [(List.mem_replicate.mp hx).2]
    exact gq01.q
  have z1 := zw_gq (n := 56) z0 (fun x hx => (hp.gq x hx).q) (by decide) (by decide)
  have z2 := zw_gq (n := 100) (fun x hx => (z1 x hx).q) (fun x hx => (hq.gq x hx).q) (by decide) (by decide)
  have z3 := zw_gq (n := 144) (fun x hx => (z2 x hx).q) (fun x hx => (hr.gq x hx).q) (by decide) (by decide)
  have z4 := zw_gq (n := 188) (fun x hx => (z3 x hx).q) (fun x hx => (hs.gq x hx).q) (by decide) (by decide)
  refine ⟨fun l hl x hx => ?_, fun i x hx => ?_, fun i => ?_⟩
  · simp only [List.mem_cons, List.mem_nil_iff, or_false] at hl
    rcases hl with rfl | rfl | rfl | rfl
    · exact (hp.gq x hx).q.ok (by decide) (by decide)
    · exact (hq.gq x hx).q.ok (by decide) (by decide)
    · exact (hr.gq x hx).q.ok (by decide) (by decide)
    · exact (hs.gq x hx).q.ok (by decide) (by decide)
  · match i, hx with
    | 0, hx => exact (z0 x hx).ok (by decide) (by decide)
    | 1, hx => exact (z1 x hx).q.ok (by decide) (by decide)
    | 2, hx => exact (z2 x hx).q.ok (by decide) (by decide)
    | 3, hx => exact (z3 x hx).q.ok (by decide) (by decide)
    | i + 4, hx =>
      rw [show [p, q, r, s].take (i + 4) = [p, q, r, s] from List.take_of_length_le (by simp)] at hx
      exact (z4 x hx).q.ok (by decide) (by decide)
  · have l1 := hp.len
    have l2 := hq.len
    match i with
    | 0 => show (List.replicate n ((0 : Int), (1 : Int))).length ≤ 4; rw [List.length_replicate]; exact hn
    | 1 => show (List.zipWith plusP (List.replicate n ((0 : Int), (1 : Int))) p).length ≤ 4; rw [List.length_zipWith, List.length_replicate]; omega
    | 2 => show (List.zipWith plusP (List.zipWith plusP (List.replicate n ((0 : Int), (1 : Int))) p) q).length ≤ 4; rw [List.length_zipWith]; omega
    | 3 => show (List.zipWith plusP (List.zipWith plusP (List.zipWith plusP (List.replicate n ((0 : Int), (1 : Int))) p) q) r).length ≤ 4; rw [List.length_zipWith, List.length_zipWith]; omega
    | i + 4 =>
      rw [show [p, q, r, s].take (i + 4) = [p, q, r, s] from List.take_of_length_le (by simp)]
      show (List.zipWith plusP (List.zipWith plusP (List.zipWith plusP (List.zipWith plusP (List.replicate n ((0 : Int), (1 : Int))) p) q) r) s).length ≤ 4
      rw [List.length_zipWith, List.length_zipWith, List.length_zipWith]; omega
theorem sumA_rep {p : List (Int × Int)} (hn : p.length ≤ 4) (h : ∀ x ∈ p, GoodP 998 x) : SumA p.length (List.replicate 400 p) := by
  have h0 : ∀ x ∈ p, 0 < x.2 := fun x hx => (h x hx).ok.pos
  refine ⟨fun q hq x hx => ?_, fun i x hx => ?_, fun i => ?_⟩
  · rw [(List.mem_replicate.mp hq).2] at hx
    exact (h x hx).ok.mono (by decide)
  · rw [rep_take, sumL_rep h0] at hx
    obtain ⟨y, hy, rfl⟩ := List.mem_map.mp hx
    have hy2 := (h y hy).ok
    have hi : min i 400 ≤ 400 := Nat.min_le_right _ _
    have s1 : sz 1007 (((min i 400 : Nat) : Int) * y.1) := by
      have : sz 9 (((min i 400 : Nat) : Int)) := by
        show (((min i 400 : Nat) : Int)).natAbs < 2 ^ 9
        omega
      exact (sz.mul this hy2.up).mono (by decide)
    exact (pairP_good hy2.pos s1 (hy2.dn.mono (by decide))).ok.mono (by decide)
  · rw [rep_take, sumL_rep h0, List.length_map]; exact hn
theorem prod_comm {ns : List Int} {p q : List (Int × Int)} (hn : ns.length ≤ 2) (pl : p.length = ns.length + 1) (ql : q.length = ns.length + 1) (hp : ∀ x ∈ p, 0 < x.2) (hq : ∀ x ∈ q, 0 < x.2) : prodP ns q p = prodP ns p q := by
  match ns, p, q, hn, pl, ql with
  | [], [a], [x], _, _, _ =>
    have va := vX (hp a (by simp))
    have vx := vX (hq x (by simp))
    show [timesP x a] = [timesP a x]
    rw [CP.eq (vx.tm va) (va.tm vx) (by grind)]
  | [r], [a, b], [x, y], _, _, _ =>
    have va := vX (hp a (by simp))
    have vb := vX (hp b (by simp))
    have vx := vX (hq x (by simp))
    have vy := vX (hq y (by simp))
    show [plusP (timesP x a) (timesP (r, 1) (timesP y b)), plusP (timesP x b) (timesP y a)] = [plusP (timesP a x) (timesP (r, 1) (timesP b y)), plusP (timesP a y) (timesP b x)]
    rw [CP.eq ((vx.tm va).v.pl ((vI r).tm (vy.tm vb).v).v) ((va.tm vx).v.pl ((vI r).tm (vb.tm vy).v).v) (by grind),
      CP.eq ((vx.tm vb).v.pl (vy.tm va).v) ((va.tm vy).v.pl (vb.tm vx).v) (by grind)]
  | [r, t], [a, b, c], [x, y, z], _, _, _ =>
    have va := vX (hp a (by simp))
    have vb := vX (hp b (by simp))
    have vc := vX (hp c (by simp))
    have vx := vX (hq x (by simp))
    have vy := vX (hq y (by simp))
    have vz := vX (hq z (by simp))
    show [plusP (plusP (timesP x a) (timesP (r, 1) (timesP y b))) (timesP (t, 1) (timesP z c)), plusP (timesP x b) (timesP y a), plusP (timesP x c) (timesP z a), plusP (timesP y c) (timesP z b)]
      = [plusP (plusP (timesP a x) (timesP (r, 1) (timesP b y))) (timesP (t, 1) (timesP c z)), plusP (timesP a y) (timesP b x), plusP (timesP a z) (timesP c x), plusP (timesP b z) (timesP c y)]
    rw [CP.eq (((vx.tm va).v.pl ((vI r).tm (vy.tm vb).v).v).v.pl ((vI t).tm (vz.tm vc).v).v) (((va.tm vx).v.pl ((vI r).tm (vb.tm vy).v).v).v.pl ((vI t).tm (vc.tm vz).v).v) (by grind),
      CP.eq ((vx.tm vb).v.pl (vy.tm va).v) ((va.tm vy).v.pl (vb.tm vx).v) (by grind),
      CP.eq ((vx.tm vc).v.pl (vz.tm va).v) ((va.tm vz).v.pl (vc.tm vx).v) (by grind),
      CP.eq ((vy.tm vc).v.pl (vz.tm vb).v) ((vb.tm vz).v.pl (vc.tm vy).v) (by grind)]
  | [], [], _, _, h, _ => simp at h
  | [], _ :: _ :: _, _, _, h, _ => simp at h
  | [], [_], [], _, _, h => simp at h
  | [], [_], _ :: _ :: _, _, _, h => simp at h
  | [_], [], _, _, h, _ => simp at h
  | [_], [_], _, _, h, _ => simp at h
  | [_], _ :: _ :: _ :: _, _, _, h, _ => simp at h
  | [_], [_, _], [], _, _, h => simp at h
  | [_], [_, _], [_], _, _, h => simp at h
  | [_], [_, _], _ :: _ :: _ :: _, _, _, h => simp at h
  | [_, _], [], _, _, h, _ => simp at h
  | [_, _], [_], _, _, h, _ => simp at h
  | [_, _], [_, _], _, _, h, _ => simp at h
  | [_, _], _ :: _ :: _ :: _ :: _, _, _, h, _ => simp at h
  | [_, _], [_, _, _], [], _, _, h => simp at h
  | [_, _], [_, _, _], [_], _, _, h => simp at h
  | [_, _], [_, _, _], [_, _], _, _, h => simp at h
  | [_, _], [_, _, _], _ :: _ :: _ :: _ :: _, _, _, h => simp at h
  | _ :: _ :: _ :: _, _, _, h, _, _ => exact absurd h (by simp only [List.length_cons]; omega)
/-! ### the law of areas -/
/-- a value that is asked whether it is an area -/
structure TOkA (t : D) : Prop where
  pl : pl t = true
  th : ThingOk t
theorem okd_many {l : List D} (h : ∀ x ∈ l, okd 3 x = true) : okd 60 (.lst l) = true := okd_mono ((okd_lst (n := 3)).mpr h) (by decide)
theorem size_ratsA : ∀ p : List (Int × Int), sizeL (p.map ratP) = 3 * p.length
  | [] => rfl
  | x :: p => by
    rw [List.map_cons, sizeL, size_ratsA p, List.length_cons]
    simp only [sizeD, sizeL]; omega
theorem size_lenDA (p : List (Int × Int)) : sizeD (lenD p) = 1 + 3 * p.length := by
  show 1 + sizeL (p.map ratP) = _
  rw [size_ratsA]
theorem flat_oneA {α : Type} (x : α) : ∀ n : Nat, (List.replicate n [x]).flatten = List.replicate n x
  | 0 => rfl
  | n + 1 => by rw [List.replicate_succ, List.flatten_cons, flat_oneA x n, List.replicate_succ]; rfl
theorem lenOf_len (p : List (Int × Int)) : lenOf (lenD p) = lenD p := by
  rw [lenOf_seq (l := p.map ratP) rfl, List.map_map]; rfl
theorem lenOf_lst (p : List (Int × Int)) : lenOf (.lst (p.map ratP)) = lenD p := by
  rw [lenOf_seq (l := p.map ratP) rfl, List.map_map]; rfl
theorem isLen_lst (n : Nat) (p : List (Int × Int)) : isLen n (.lst (p.map ratP)) = isLen n (lenD p) := rfl
theorem pl_lst (p : List (Int × Int)) : pl (.lst (p.map ratP)) = true := plD_len p
theorem okd_lstD (p : List (Int × Int)) : okd 3 (.lst (p.map ratP)) = true := okd_lenD p
theorem AreaP.q {n a b : Nat} {p : List (Int × Int)} (h : AreaP n a b p) {x : Int × Int} (hx : x ∈ p) : OkQ a b x := (h.gq x hx).q
theorem AreaP.pos {n a b : Nat} {p : List (Int × Int)} (h : AreaP n a b p) : ∀ x ∈ p, 0 < x.2 := fun x hx => (h.q hx).pos
theorem AreaP.tok {n a b : Nat} {p : List (Int × Int)} (_ : AreaP n a b p) : TOkA (lenD p) := ⟨plD_len p, ⟨rfl, fun m hm => by
  cases hm
  intro x hx
  obtain ⟨y, _, rfl⟩ := List.mem_map.mp hx
  rfl⟩⟩
theorem AreaP.tokL {n a b : Nat} {p : List (Int × Int)} (_ : AreaP n a b p) : TOkA (.lst (p.map ratP)) := ⟨plD_len p, ⟨rfl, fun m hm => by
  cases hm
  intro x hx
  obtain ⟨y, _, rfl⟩ := List.mem_map.mp hx
  rfl⟩⟩
theorem AreaP.len_le {ns : List Int} {a b : Nat} {p : List (Int × Int)} (h : AreaP (areaN ns.length) a b p) (hn : ns.length ≤ 2) : p.length ≤ 4 := by
  rw [h.len]; exact areaN_le hn
theorem areLenA {n : Nat} {l : List D} {d : D} (hd : seqD d = some l) (hl : l.length ≤ 400) (h : ∀ x ∈ l, isLen n x = true) : areLen n d = true := by
  unfold areLen
  rw [hd]
  show (decide (l.length ≤ 400) && l.all (isLen n)) = true
  rw [decide_eq_true hl, Bool.true_and, List.all_eq_true]
  exact h
theorem rat_okd3 (x : Int × Int) : okd 60 (ratP x) = true := rfl
theorem sumA0 {n : Nat} (hn : n ≤ 4) : SumA n [] := ⟨fun _ h => by simp at h, fun i x hx => by
  rw [List.take_nil] at hx
  have hx : x ∈ List.replicate n ((0 : Int), (1 : Int)) := hx
  rw [(List.mem_replicate.mp hx).2]
  exact ok01, fun i => by
  rw [List.take_nil]
  show (List.replicate n ((0 : Int), (1 : Int))).length ≤ 4
  rw [List.length_replicate]; exact hn⟩
theorem cutD_memA {l : List D} {a b : Option Int} {x : D} (h : x ∈ Lay.cutD l a b) : x ∈ l := List.mem_of_mem_drop (List.mem_of_mem_take h)
theorem gMul_rep {n : Nat} {m : Int} {k : KD} (hm : m = (n : Int)) (h1 : 1 ≤ n) (h2 : n ≤ 1000) (q : k (lenD (List.replicate n (0, 1)))) : gMul (.tup [.tup [.int 0, .int 1]]) (.int m) k := by
  subst hm
  refine ⟨by simp, by omega, by omega, by simp, ?_⟩
  rw [Int.toNat_natCast]
  show k (.tup (List.replicate n [rat 0 1]).flatten)
  rw [nought_rep]
  exact q
theorem thing_seq {d : D} {l : List D} (hs : seqD d = some l) (h : ∀ x ∈ l, okd 60 x = true) (hp : pl d = true) : TOkA d := ⟨hp, ⟨pl_prim hp, fun m hm => by rw [hs] at hm; cases hm; exact h⟩⟩
theorem thing_tup {l : List D} (h : ∀ x ∈ l, okd 60 x = true) : TOkA (.tup l) := thing_seq rfl h (okdL_pl 60 l (okdL_iff.mpr h))
/-- the difference of two areas, its sign -/
theorem less_same {ns : List Int} (rk : Sgn.Rok ns) {a b : List (Int × Int)} (ha : AreaP (areaN ns.length) 55 43 a) (hb : AreaP (areaN ns.length) 55 43 b) :
    areaS ns (List.zipWith minusP a b) = Sgn.areaSgn ns (List.zipWith minusP a b) ∧ (List.zipWith minusP a b).length = areaN ns.length ∧ ∀ x ∈ List.zipWith minusP a b, OkQ 100 90 x := by
  have g : ∀ x ∈ List.zipWith minusP a b, OkQ 100 90 x := fun x hx => by
    obtain ⟨y, hy, z, hz, rfl⟩ := zwm hx
    exact (GQ.mi (n := 98) (ha.q hy) (hb.q hz) (by decide) (by decide)).q.mono (by decide) (by decide)
  have l : (List.zipWith minusP a b).length = areaN ns.length := by
    rw [List.length_zipWith, ha.len, hb.len]; exact Nat.min_self _
  exact ⟨area_same rk l fun x hx => (g x hx).pos, l, g⟩
def f__law_right (u : Ua) : FS := fun ds Kp _ => as1 (fun d => d = .drw ∧ Kp (.bl true)) ds
abbrev s__law_right : Stmt := top 85
theorem sc__law_right : FnScope ["draw", "roots", "units", "one", "other", "due", "some", "area", "mark", "late", "is_one", "whole", "at", "bent", "thing", "is_right", "errors", "lap"] ["draw"] (defScope s__law_right) := ⟨rfl, rfl, rfl, by decide +kernel, rfl, by decide +kernel, by decide +kernel⟩
theorem ok__law_right {G : Pg} {k : Nat} {u : Ua} (T : Tx G) (U : UnF G u) {fa : Addr} {fd : FuncData} (F : FunD G.K "_law_right" "_law_right" (defArgs s__law_right) (defBody s__law_right) (defScope s__law_right) [] [] fa fd) (hm : G.mg "_law_right" = some (.ref fa)) {cc cp CP : Addr} (LF : LamF G "_law_right" fd cc cp) (CF : CauF G.K G.mg CP) {j : Nat} (hk : j + 4 ≤ k) (c__law_roots : Fn G "_law_roots" j ["draw"] f__law_roots) (c__law_place : Fn G "_law_place" j ["draw", "roots"] f__law_place) (c__law_side : Fn G "_law_side" j ["draw", "roots"] f__law_side) (c__law_product : Fn G "_law_product" j ["roots", "one", "other"] f__law_product) (c__law_says : Fn G "_law_says" j ["told", "due"] f__law_says) (c__law_some : Fn G "_law_some" j ["draw", "roots"] f__law_some) (c__law_area_sign : Fn G "_law_area_sign" j ["roots", "amount"] f__law_area_sign) (c__law_less : Fn G "_law_less" j ["one", "other"] f__law_less) (c__law_add : Fn G "_law_add" j ["one", "other"] f__law_add) (c__law_take : Fn G "_law_take" j ["draw", "amount"] f__law_take) (c__law_pick : Fn G "_law_pick" j ["draw", "some"] f__law_pick) (c__law_odd : Fn G "_law_odd" j ["draw"] f__law_odd) (c__law_is_area : Fn G "_law_is_area" j ["roots", "thing"] f__law_is_area) (c__law_scaled : Fn G "_law_scaled" j ["length", "ratio"] f__law_scaled) (c_product : Fn G "product" j ["units", "one", "other"] (f_product u)) (c_area_sign : Fn G "area_sign" j ["units", "area"] (f_area_sign u)) (c_is_lesser : Fn G "is_lesser" j ["units", "one", "other"] (f_is_lesser u)) (c_area_sum : Fn G "area_sum" j ["units", "areas"] (f_area_sum u)) (c_is_area : Fn G "is_area" j ["units", "thing"] (f_is_area u)) (UW : UnW G u j) (d_product : FnD G "product" s_product j ["units", "one", "other"] (f_product u)) (d_area_sign : FnD G "area_sign" s_area_sign j ["units", "area"] (f_area_sign u)) (d_is_lesser : FnD G "is_lesser" s_is_lesser j ["units", "one", "other"] (f_is_lesser u)) (d_area_sum : FnD G "area_sum" s_area_sum j ["units", "areas"] (f_area_sum u)) (d_is_area : FnD G "is_area" s_is_area j ["units", "thing"] (f_is_area u)) (XA : XF G CP u.bArea) (XAs : XF G CP u.bAreas) (XO : XF G CP u.bOne) (XT : XF G CP u.bOther) (XU : XF G CP u.bUnits) : Fn G "_law_right" (k + 1) ["draw"] (f__law_right u) := by
  refine Fn.ofC F hm sc__law_right (fun _ _ _ _ _ _ us hl => match us, hl with | [_], _ => rfl) ?_
  intro cdv A outer s H E dr M ds Kp Ke hcd tk po hr hl hf
  have hcd := hcd.symm.trans LF.code
  subst hcd
  have hrk := hr
  have hrc := hr.mono (by omega : j + 2 ≤ k)
  replace hr := hr.mono (by omega : j ≤ k)
  have tb := T.b
  have nd := sc__law_right.nd
  obtain ⟨d, rfl, rfl, k0⟩ := as1_ex hf
  walk_at "gl"
  refine ⟨rfl, fun ns hnm => ?_⟩
  have hn := menuR_good ns hnm
  have rk := menuR_rok ns hnm
  have hn2 := hn.len
  have hr7 := rok_sz rk
  have h4 := areaN_le hn2
  walk_at "gl"
  refine ds_asg (.t [2, 3, 4]) (pg_tup3 nd rfl rfl rfl (by first | exact .inl rfl | exact .inr rfl) (by first | exact .inl rfl | exact .inr rfl) (by first | exact .inl rfl | exact .inr rfl) (by first | exact .inl rfl | exact .inr rfl) (by first | exact .inl rfl | exact .inr rfl) (by first | exact .inl rfl | exact .inr rfl)) ?_
  walk_at "gl"
  refine dx_make U.mkr UW.ini (hrk.mono (by omega : j + 1 ≤ k)) tk rfl U.nm ?_
  walk_at "gl"
  refine ⟨rfl, init_good hn (.inl rfl) ?_⟩
  walk_at "gl"
  refine ⟨ns, rfl, rk, fun p pl hp => ?_⟩
  walk_at "gl"
  refine ⟨ns, rfl, rk, fun q ql hq => ?_⟩
  have ap : AreaP (ns.length + 1) 5 5 p := ⟨pl, hp⟩
  have aq : AreaP (ns.length + 1) 4 3 q := ⟨ql, hq⟩
  have ip := ap.is (by decide) (by decide)
  have iq := aq.is (by decide) (by decide)
  walk_at "gl"
  refine ⟨ns, p, q, rfl, rk, pl, ql, fun x hx => (hp x hx).q.mono (by decide) (by decide), fun x hx => (hq x hx).q.mono (by decide) (by decide), ?_⟩
  rw [prod_same hn2 pl ql ap.pos aq.pos]
  have pc := prod_comm hn2 pl ql ap.pos aq.pos
  have hp2 : ∀ x ∈ p, OkP 200 x := fun x hx => (ap.q hx).ok (by decide) (by decide)
  have hq2 : ∀ x ∈ q, OkP 200 x := fun x hx => (aq.q hx).ok (by decide) (by decide)
  have af : AreaP (areaN ns.length) 55 43 (prodP ns p q) := by
    obtain ⟨l, g⟩ := prod_gq hn2 hr7 pl ql (fun x hx => (hp x hx).q) (fun x hx => (hq x hx).q)
    exact ⟨l, fun x hx => (g x hx).mono (by decide) (by decide)⟩
  generalize hF : prodP ns p q = f at *
  walk_at "gl"
  refine ⟨_, lenD p, lenD q, rfl, .inl ⟨ns, rfl, hn2, hr7, plD_len p, ?_⟩⟩
  rw [if_pos ip]
  refine ⟨plD_len q, ?_⟩
  rw [if_pos iq]
  refine ⟨p, q, lenOf_len p, lenOf_len q, pl, ql, hp2, hq2, ?_⟩
  rw [hF]
  walk_at "gl"
  refine ⟨_, lenD q, lenD p, rfl, .inl ⟨ns, rfl, hn2, hr7, plD_len q, ?_⟩⟩
  rw [if_pos iq]
  refine ⟨plD_len p, ?_⟩
  rw [if_pos ip]
  refine ⟨q, p, lenOf_len q, lenOf_len p, ql, pl, hq2, hp2, ?_⟩
  rw [pc]
  walk_at "gl"
  refine dx_callR d_product hr tk rfl ["other", "one", "units"] rfl rfl (fun _ _ _ _ _ _ ws hl => match ws, hl with | [_, _, _], _ => rfl) ?_
  refine dk_cons ?_
  walk_at "gl"
  refine dk_cons ?_
  walk_at "gl"
  refine dk_cons ?_
  walk_at "gl"
  refine dk_nil ⟨rfl, ?_⟩
  refine ⟨_, lenD p, .lst (q.map ratP), rfl, .inl ⟨ns, rfl, hn2, hr7, plD_len p, ?_⟩⟩
  rw [if_pos ip]
  refine ⟨pl_lst q, ?_⟩
  rw [isLen_lst, if_pos iq]
  refine ⟨p, q, lenOf_len p, lenOf_lst q, pl, ql, hp2, hq2, ?_⟩
  rw [hF]
  walk_at "gl"
  refine ⟨by decide, by decide, Nat.le_of_ble_eq_true rfl, ?_⟩
  walk_at "gl"
  have fl4 := af.len_le hn2
  have zf := size_lenDA f
  refine ⟨.lst [lenD f, lenD f, lenD f], rfl, okd_many (fun x hx => ?_), ?_, ?_⟩
  · simp only [List.mem_cons, List.mem_nil_iff, or_false] at hx
    rcases hx with rfl | rfl | rfl <;> exact okd_lenD f
  · simp only [sizeD, sizeL] at zf ⊢; omega
  walk_at "gl"
  refine dx_lcN 17 rfl nd rfl rfl rfl (by walk_at "lc") ?_
  walk_at "gl"
  refine ⟨by decide, by decide, ?_⟩
  refine lc_all (fun d => ∃ x, d = lenD x ∧ AreaP (areaN ns.length) 55 43 x) (by decide) (fun _ _ => trivial) (fun d hd A s H C cl fp => ?_) (fun l hl hp => ?_)
  · walk_at "gl"
    exact ⟨ns, rfl, rk, fun x xl hx => ⟨x, rfl, xl, hx⟩⟩
  obtain ⟨a, b, c, rfl, aa, ab, ac⟩ : ∃ a b c, l = [lenD a, lenD b, lenD c] ∧ AreaP (areaN ns.length) 55 43 a ∧ AreaP (areaN ns.length) 55 43 b ∧ AreaP (areaN ns.length) 55 43 c := by
    have hl : l.length = 3 := hl
    match l, hl, hp with
    | [x, y, z], _, hp =>
      obtain ⟨a, rfl, aa⟩ := hp x (by simp)
      obtain ⟨b, rfl, ab⟩ := hp y (by simp)
      obtain ⟨c, rfl, ac⟩ := hp z (by simp)
      exact ⟨a, b, c, rfl, aa, ab, ac⟩
  clear hp hl
  walk_at "gl"
  have all4 : ∀ t, t ∈ [lenD a, lenD b, lenD c, lenD f] → ∃ x, t = lenD x ∧ AreaP (areaN ns.length) 55 43 x := fun t ht => by
    simp only [List.mem_cons, List.mem_nil_iff, or_false] at ht
    rcases ht with rfl | rfl | rfl | rfl
    · exact ⟨_, rfl, aa⟩
    · exact ⟨_, rfl, ab⟩
    · exact ⟨_, rfl, ac⟩
    · exact ⟨_, rfl, af⟩
  refine ⟨by simp, ?_⟩
  walk_at "gl"
  refine ds_for (.n 7) po rfl (pg_name nd rfl (by first | exact .inl rfl | exact .inr rfl) (by first | exact .inl rfl | exact .inr rfl)) ?_
  walk_at "gl"
  refine ⟨fun _ δ' => ∃ o7 o8 o9 o10, δ' = [.im .drw, .im (.lst (ns.map D.int)), .im (unD u ns), .im (lenD p), .im (lenD q), .im (lenD f), .im (.lst [lenD a, lenD b, lenD c, lenD f]), o7, o8, o9, o10, .un, .un, .un, .un, .un, .un, .un], ⟨_, _, _, _, rfl⟩, ?_, ?_⟩
  · rintro i t δ' hd ⟨o7, o8, o9, o10, rfl⟩
    obtain ⟨x, rfl, ax⟩ := all4 t (List.mem_of_getElem? hd)
    clear hd
    have ix := ax.is (by decide) (by decide)
    refine ⟨trivial, ?_⟩
    walk_at "gl"
    refine ⟨ns, x, rfl, rk, ax.len, fun y hy => (ax.q hy).mono (by decide) (by decide), ?_⟩
    walk_at "gl"
    refine ⟨_, _, rfl, ns, rfl, hn2, hr7, plD_len x, ?_⟩
    rw [if_pos ix]
    refine ⟨x, lenOf_len x, ax.len, fun y hy => (ax.q hy).mono (by decide) (by decide), ?_⟩
    rw [area_same rk ax.len ax.pos]
    walk_at "gl"
    refine dx_callR d_area_sign hr tk rfl ["area", "units"] rfl rfl (fun _ _ _ _ _ _ ws hl => match ws, hl with | [_, _], _ => rfl) ?_
    refine dk_cons ?_
    walk_at "gl"
    refine dk_cons ?_
    walk_at "gl"
    refine dk_nil ⟨rfl, ?_⟩
    refine ⟨_, .lst (x.map ratP), rfl, ns, rfl, hn2, hr7, pl_lst x, ?_⟩
    rw [isLen_lst, if_pos ix]
    refine ⟨x, lenOf_lst x, ax.len, fun y hy => (ax.q hy).mono (by decide) (by decide), ?_⟩
    rw [area_same rk ax.len ax.pos]
    walk_at "gl"
    generalize Sgn.areaSgn ns x = m
    refine ⟨.lst [.int m, .int m], rfl, rfl, Nat.le_of_ble_eq_true rfl, ?_⟩
    walk_at "gl"
    refine ds_for (.n 9) po rfl (pg_name nd rfl (by first | exact .inl rfl | exact .inr rfl) (by first | exact .inl rfl | exact .inr rfl)) ?_
    walk_at "gl"
    refine ⟨fun _ δ' => ∃ o9 o10, δ' = [.im .drw, .im (.lst (ns.map D.int)), .im (unD u ns), .im (lenD p), .im (lenD q), .im (lenD f), .im (.lst [lenD a, lenD b, lenD c, lenD f]), .im (lenD x), .im (.int m), o9, o10, .un, .un, .un, .un, .un, .un, .un], ⟨_, _, rfl⟩, ?_, ?_⟩
    · rintro i2 t2 δ' hd ⟨p9, p10, rfl⟩
      obtain ⟨y, rfl, ay⟩ := all4 t2 (by
        have hm2 : t2 ∈ [lenD a, lenD b] := List.mem_of_getElem? hd
        rcases List.mem_cons.mp hm2 with rfl | hm2
        · exact List.mem_cons_self
        · rw [List.mem_singleton.mp hm2]
          exact List.mem_cons_of_mem _ List.mem_cons_self)
      clear hd
      have iy := ay.is (by decide) (by decide)
      obtain ⟨ls, ll, lg⟩ := less_same rk ax ay
      refine ⟨trivial, ?_⟩
      walk_at "gl"
      refine ⟨x, y, rfl, by have := ax.len_le hn2; omega, fun z hz => (ax.q hz).ok (by decide) (by decide), fun z hz => (ay.q hz).ok (by decide) (by decide), ?_⟩
      walk_at "gl"
      refine ⟨ns, _, rfl, rk, ll, lg, ?_⟩
      walk_at "gl"
      refine ⟨_, _, _, rfl, ns, rfl, hn2, hr7, plD_len x, ?_⟩
      rw [if_pos ix]
      refine ⟨plD_len y, ?_⟩
      rw [if_pos iy]
      refine ⟨x, y, lenOf_len x, lenOf_len y, ax.len, ay.len, fun z hz => ax.q hz, fun z hz => ay.q hz, ?_⟩
      rw [ls]
      walk_at "gl"
      refine dx_callR d_is_lesser hr tk rfl ["other", "one", "units"] rfl rfl (fun _ _ _ _ _ _ ws hl => match ws, hl with | [_, _, _], _ => rfl) ?_
      refine dk_cons ?_
      walk_at "gl"
      refine dk_cons ?_
      walk_at "gl"
      refine dk_cons ?_
      walk_at "gl"
      refine dk_nil ⟨rfl, ?_⟩
      refine ⟨_, _, _, rfl, ns, rfl, hn2, hr7, plD_len x, ?_⟩
      rw [if_pos ix]
      refine ⟨plD_len y, ?_⟩
      rw [if_pos iy]
      refine ⟨x, y, lenOf_len x, lenOf_len y, ax.len, ay.len, fun z hz => ax.q hz, fun z hz => ay.q hz, ?_⟩
      rw [ls]
      walk_at "gl"
      refine ⟨.lst [.bl (decide (Sgn.areaSgn ns (List.zipWith minusP x y) < 0)), .bl (decide (Sgn.areaSgn ns (List.zipWith minusP x y) < 0))], rfl, rfl, Nat.le_of_ble_eq_true rfl, ?_⟩
      walk_at "gl"
      exact ⟨_, _, rfl⟩
    · rintro δ' ⟨p9, p10, rfl⟩
      walk_at "gl"
      exact ⟨_, _, _, _, rfl⟩
  · rintro δ' ⟨o7, o8, o9, o10, rfl⟩
    walk_at "gl"
    have l4 : ∀ {x : List (Int × Int)}, AreaP (areaN ns.length) 55 43 x → x.length ≤ 16777216 := fun h => by have := h.len_le hn2; omega
    have o4 : ∀ {x : List (Int × Int)}, AreaP (areaN ns.length) 55 43 x → ∀ z ∈ x, OkP 4000 z := fun h z hz => (h.q hz).ok (by decide) (by decide)
    have s1 := zw_gq (n := 99) (fun x hx => aa.q hx) (fun x hx => ab.q hx) (by decide) (by decide)
    have s2 := zw_gq (n := 99) (fun x hx => ac.q hx) (fun x hx => af.q hx) (by decide) (by decide)
    refine ⟨a, b, rfl, l4 aa, o4 aa, o4 ab, ?_⟩
    walk_at "gl"
    refine ⟨c, f, rfl, l4 ac, o4 ac, o4 af, ?_⟩
    walk_at "gl"
    refine ⟨_, _, rfl, by have := l4 aa; rw [List.length_zipWith]; omega, fun z hz => (s1 z hz).q.ok (by decide) (by decide), fun z hz => (s2 z hz).q.ok (by decide) (by decide), ?_⟩
    walk_at "gl"
    have esum : sumL (areaN ns.length) [a, b, c, f] = List.zipWith plusP (List.zipWith plusP a b) (List.zipWith plusP c f) := by
      rw [← aa.len]
      exact sum4_same (by rw [ab.len, aa.len]) (by rw [ac.len, aa.len]) (by rw [af.len, aa.len]) aa.pos ab.pos ac.pos af.pos
    have a4 : areLen (areaN ns.length) (.lst [lenD a, lenD b, lenD c, lenD f]) = true := areLenA rfl (by simp) fun x hx => by
      obtain ⟨y, rfl, ay⟩ := all4 x hx
      exact ay.is (by decide) (by decide)
    have e4 : [lenD a, lenD b, lenD c, lenD f].map lenOf = [a, b, c, f].map lenD := by simp only [List.map_cons, List.map_nil, lenOf_len]
    have p4 : plL [lenD a, lenD b, lenD c, lenD f] = true := by simp [plL, plD_len]
    generalize hS : List.zipWith plusP (List.zipWith plusP a b) (List.zipWith plusP c f) = S at *
    refine ⟨_, _, rfl, ns, rfl, hn2, p4, ?_⟩
    rw [if_pos a4]
    refine ⟨_, [a, b, c, f], rfl, e4, sumA4 h4 aa ab ac af, ?_⟩
    rw [esum]
    walk_at "gl"
    refine dx_callR d_area_sum hr tk rfl ["areas", "units"] rfl rfl (fun _ _ _ _ _ _ ws hl => match ws, hl with | [_, _], _ => rfl) ?_
    refine dk_cons ?_
    walk_at "gl"
    refine dk_cons ?_
    walk_at "gl"
    refine dk_nil ⟨rfl, ?_⟩
    refine ⟨_, .tup [lenD a, lenD b, lenD c, lenD f], rfl, ns, rfl, hn2, p4, ?_⟩
    rw [if_pos (show areLen (areaN ns.length) (.tup [lenD a, lenD b, lenD c, lenD f]) = true from a4)]
    refine ⟨_, [a, b, c, f], rfl, e4, sumA4 h4 aa ab ac af, ?_⟩
    rw [esum]
    walk_at "gl"
    refine ⟨_, .lst [], rfl, ns, rfl, hn2, rfl, ?_⟩
    rw [if_pos (show areLen (areaN ns.length) (.lst []) = true from rfl)]
    refine ⟨[], [], rfl, rfl, sumA0 h4, ?_⟩
    walk_at "gl"
    refine gLen_seq (l := f.map ratP) rfl ?_
    refine gMul_rep (n := areaN ns.length) (by rw [List.length_map, af.len]) (Nat.pow_pos (by decide)) (by omega) ?_
    walk_at "gl"
    refine ⟨.lst [lenD S, lenD S, lenD (List.replicate (areaN ns.length) (0, 1))], rfl, okd_many (fun x hx => ?_), ?_, ?_⟩
    · simp only [List.mem_cons, List.mem_nil_iff, or_false] at hx
      rcases hx with rfl | rfl | rfl <;> exact okd_lenD _
    · have z1 := size_lenDA S
      have z2 := size_lenDA (List.replicate (areaN ns.length) (0, 1))
      rw [List.length_replicate] at z2
      have z3 : S.length ≤ 4 := by rw [← hS, List.length_zipWith, List.length_zipWith, List.length_zipWith, aa.len]; omega
      simp only [sizeD, sizeL] at z1 z2 ⊢; omega
    walk_at "gl"
    refine ⟨_, rfl, by rw [List.length_map, af.len]; have : 0 < areaN ns.length := Nat.pow_pos (by decide); omega, by rw [List.length_map]; omega, fun t t0 t1 => ?_⟩
    walk_at "gl"
    refine ⟨⟨by decide, by decide +kernel⟩, ?_⟩
    walk_at "gl"
    refine ⟨⟨by decide, by decide +kernel⟩, ?_⟩
    walk_at "gl"
    refine ⟨_, rfl, by simp, by simp, fun x hx => ?_⟩
    have ox : okd 60 x = true := by
      simp only [List.mem_cons, List.mem_nil_iff, or_false] at hx
      rcases hx with rfl | rfl | rfl | rfl | rfl <;> first | rfl | decide +kernel
    clear hx
    walk_at "gl"
    have c1 := cutD_len (l := f.map ratP) (a := none) (b := some t)
    have c2 := cutD_len (l := f.map ratP) (a := some (t + 1)) (b := none)
    have fl5 : (f.map ratP).length ≤ 4 := by rw [List.length_map]; exact fl4
    refine ⟨by simp only [List.length_singleton]; omega, ?_⟩
    walk_at "gl"
    refine ⟨by simp only [List.length_append, List.length_singleton]; omega, ?_⟩
    walk_at "gl"
    have tbt : TOkA (.tup (Lay.cutD (List.map ratP f) none (some t) ++ [x] ++ Lay.cutD (List.map ratP f) (some (t + 1)) none)) := thing_tup fun y hy => by
      have okf : ∀ z ∈ f.map ratP, okd 60 z = true := fun z hz => by
        obtain ⟨w, _, rfl⟩ := List.mem_map.mp hz
        rfl
      rcases List.mem_append.mp hy with hy | hy
      · rcases List.mem_append.mp hy with hy | hy
        · exact okf y (cutD_memA hy)
        · rw [List.mem_singleton.mp hy]; exact ox
      · exact okf y (cutD_memA hy)
    generalize hB : D.tup (Lay.cutD (List.map ratP f) none (some t) ++ [x] ++ Lay.cutD (List.map ratP f) (some (t + 1)) none) = bent at *
    refine ds_for (.n 14) po rfl (pg_name nd rfl (by first | exact .inl rfl | exact .inr rfl) (by first | exact .inl rfl | exact .inr rfl)) ?_
    walk_at "gl"
    refine ⟨by simp only [List.length_map, List.length_singleton]; omega, ?_⟩
    walk_at "gl"
    refine ⟨rfl, fun t6 q1 q2 q3 => ?_⟩
    walk_at "gl"
    have inv0 : ∀ i : Nat, i = i := fun _ => rfl
    refine ⟨fun _ δ' => ∃ o14 o15 o16, δ' = [.im .drw, .im (.lst (ns.map D.int)), .im (unD u ns), .im (lenD p), .im (lenD q), .im (lenD f), .im (.lst [lenD a, lenD b, lenD c, lenD f]), o7, o8, o9, o10, .im (lenD S), .im (.int t), .im bent, o14, o15, o16, .un], ⟨_, _, _, rfl⟩, ?_, ?_⟩
    · rintro i th δ' hd ⟨o14, o15, o16, rfl⟩
      have ht : TOkA th := by
        have := List.mem_of_getElem? hd
        simp only [List.mem_cons, List.mem_nil_iff, or_false] at this
        rcases this with rfl | rfl | rfl | rfl | rfl | rfl
        · exact tbt
        · exact af.tok
        · exact af.tokL
        · exact thing_tup fun y hy => by
            obtain ⟨w, _, rfl⟩ := List.mem_map.mp (cutD_memA hy)
            rfl
        · exact thing_tup fun y hy => by
            rcases List.mem_append.mp hy with hy | hy
            · obtain ⟨w, _, rfl⟩ := List.mem_map.mp hy
              rfl
            · rw [List.mem_singleton.mp hy]; rfl
        · exact ⟨q2, q3⟩
      clear hd
      refine ⟨trivial, ?_⟩
      walk_at "gl"
      refine ⟨ns, th, rfl, rk, ht.th, ?_⟩
      walk_at "gl"
      refine ⟨_, th, rfl, .inl ⟨ns, rfl, hn2, ht.pl, ?_⟩⟩
      walk_at "gl"
      refine dx_callR d_is_area hr tk rfl ["thing", "units"] rfl rfl (fun _ _ _ _ _ _ ws hl => match ws, hl with | [_, _], _ => rfl) ?_
      refine dk_cons ?_
      walk_at "gl"
      refine dk_cons ?_
      walk_at "gl"
      refine dk_nil ⟨rfl, ?_⟩
      refine ⟨_, th, rfl, .inl ⟨ns, rfl, hn2, ht.pl, ?_⟩⟩
      walk_at "gl"
      refine ⟨.lst [.bl (isLen (areaN ns.length) th), .bl (isLen (areaN ns.length) th)], rfl, rfl, Nat.le_of_ble_eq_true rfl, ?_⟩
      walk_at "gl"
      cases he : isLen (areaN ns.length) th with
      | true =>
        refine brF rfl ?_
        walk_at "gl"
        exact ⟨_, _, _, rfl⟩
      | false =>
        have hne : ¬ (isLen (areaN ns.length) th = true) := by rw [he]; exact Bool.false_ne_true
        refine brT rfl ?_
        walk_at "gl"
        refine dx_isiO rfl (Bt.isinstance tb) rfl U.xArea.g XA.b ?_
        refine dx_cau CF LF.tab rfl LF.mem LF.only hrc rfl (fun A2 outer2 s2 H2 E2 f2 c2 tk2 hr3 => ?_) rfl rfl (fun _ _ _ _ _ => rfl)
        walk_at "gl"
        refine ⟨_, th, rfl, ns, rfl, hn2, hr7, ht.pl, ?_⟩
        rw [if_neg hne]
        refine ⟨rfl, XA.m, true, .exc XA.c XA.k, ?_⟩
        walk_at "gl"
        refine dx_isiO rfl (Bt.isinstance tb) rfl U.xOne.g XO.b ?_
        refine dx_cau CF LF.tab rfl LF.mem LF.only hrc rfl (fun A2 outer2 s2 H2 E2 f2 c2 tk2 hr3 => ?_) rfl rfl (fun _ _ _ _ _ => rfl)
        walk_at "gl"
        refine ⟨_, th, _, rfl, ns, rfl, hn2, hr7, ht.pl, ?_⟩
        rw [if_neg hne]
        refine ⟨rfl, XO.m, true, .exc XO.c XO.k, ?_⟩
        walk_at "gl"
        refine dx_isiO rfl (Bt.isinstance tb) rfl U.xOther.g XT.b ?_
        refine dx_cau CF LF.tab rfl LF.mem LF.only hrc rfl (fun A2 outer2 s2 H2 E2 f2 c2 tk2 hr3 => ?_) rfl rfl (fun _ _ _ _ _ => rfl)
        walk_at "gl"
        refine ⟨_, _, th, rfl, ns, rfl, hn2, hr7, plD_len f, ?_⟩
        rw [if_pos (af.is (by decide) (by decide))]
        refine ⟨ht.pl, ?_⟩
        rw [if_neg hne]
        refine ⟨rfl, XT.m, true, .exc XT.c XT.k, ?_⟩
        walk_at "gl"
        refine dx_isiO rfl (Bt.isinstance tb) rfl U.xAreas.g XAs.b ?_
        refine dx_cau CF LF.tab rfl LF.mem LF.only hrc rfl (fun A2 outer2 s2 H2 E2 f2 c2 tk2 hr3 => ?_) rfl rfl (fun _ _ _ _ _ => rfl)
        walk_at "gl"
        refine ⟨_, .lst [th], rfl, ns, rfl, hn2, by show (KK.pl th && true) = true; rw [ht.pl]; rfl, ?_⟩
        rw [if_neg (by
          have e : areLen (areaN ns.length) (.lst [th]) = (isLen (areaN ns.length) th && true) := rfl
          rw [e, he, Bool.false_and]
          exact Bool.false_ne_true)]
        refine ⟨rfl, XAs.m, true, .exc XAs.c XAs.k, ?_⟩
        walk_at "gl"
        refine ⟨by decide, by decide, Nat.le_of_ble_eq_true rfl, ?_⟩
        refine ⟨by decide +kernel, by decide +kernel, brF (by decide +kernel) ?_⟩
        walk_at "gl"
        exact ⟨_, _, _, rfl⟩
    · rintro δ' ⟨o14, o15, o16, rfl⟩
      walk_at "gl"
      refine dx_isiO rfl (Bt.isinstance tb) rfl U.xOne.g XO.b ?_
      refine dx_cau CF LF.tab rfl LF.mem LF.only hrc rfl (fun A2 outer2 s2 H2 E2 f2 c2 tk2 hr3 => ?_) rfl rfl (fun _ _ _ _ _ => rfl)
      walk_at "gl"
      refine ⟨_, .non, .non, rfl, .inl ⟨ns, rfl, hn2, hr7, rfl, ?_⟩⟩
      rw [if_neg (by exact Bool.false_ne_true)]
      refine ⟨rfl, XO.m, true, .exc XO.c XO.k, ?_⟩
      walk_at "gl"
      refine dx_isiO rfl (Bt.isinstance tb) rfl U.xOther.g XT.b ?_
      refine dx_cau CF LF.tab rfl LF.mem LF.only hrc rfl (fun A2 outer2 s2 H2 E2 f2 c2 tk2 hr3 => ?_) rfl rfl (fun _ _ _ _ _ => rfl)
      walk_at "gl"
      refine ⟨_, _, _, rfl, .inl ⟨ns, rfl, hn2, hr7, plD_len p, ?_⟩⟩
      rw [if_pos ip]
      refine ⟨rfl, ?_⟩
      rw [if_neg (by
        have e : isLen (ns.length + 1) (.tup [.int 1, .int 2, .int 3, .int 4]) = false := by
          show ((4 : Nat) == ns.length + 1 && _) = false
          rw [show ((4 : Nat) == ns.length + 1) = false by simp only [beq_eq_false_iff_ne]; omega, Bool.false_and]
        rw [e]
        exact Bool.false_ne_true)]
      refine ⟨rfl, XT.m, true, .exc XT.c XT.k, ?_⟩
      walk_at "gl"
      refine dx_isiO rfl (Bt.isinstance tb) rfl U.xAreas.g XAs.b ?_
      refine dx_cau CF LF.tab rfl LF.mem LF.only hrc rfl (fun A2 outer2 s2 H2 E2 f2 c2 tk2 hr3 => ?_) rfl rfl (fun _ _ _ _ _ => rfl)
      walk_at "gl"
      refine ⟨by decide, by decide, Nat.le_of_ble_eq_true rfl, ?_⟩
      rw [flat_oneA]
      walk_at "gl"
      refine ⟨_, _, rfl, ns, rfl, hn2, okd_pl 60 _ (okd_many fun x hx => by rw [(List.mem_replicate.mp hx).2]; exact okd_lenD f), ?_⟩
      rw [if_neg (by
        have e : areLen (areaN ns.length) (.lst (List.replicate (401 : Int).toNat (lenD f))) = false := by
          show (decide ((List.replicate (401 : Int).toNat (lenD f)).length ≤ 400) && (List.replicate (401 : Int).toNat (lenD f)).all (isLen (areaN ns.length))) = false
          rw [List.length_replicate]; rfl
        rw [e]
        exact Bool.false_ne_true)]
      refine ⟨rfl, XAs.m, true, .exc XAs.c XAs.k, ?_⟩
      walk_at "gl"
      refine ⟨by decide, by decide, Nat.le_of_ble_eq_true rfl, ?_⟩
      rw [flat_oneA]
      walk_at "gl"
      have gf : ∀ x ∈ f, GoodP 998 x := fun x hx => ⟨(af.q hx).ok (by decide) (by decide), (af.gq x hx).rat⟩
      refine ⟨_, _, rfl, ns, rfl, hn2, okd_pl 60 _ (okd_many fun x hx => by rw [(List.mem_replicate.mp hx).2]; exact okd_lenD f), ?_⟩
      rw [if_pos (areLenA rfl (by rw [List.length_replicate]; decide) fun x hx => by rw [(List.mem_replicate.mp hx).2]; exact af.is (by decide) (by decide))]
      refine ⟨_, List.replicate 400 f, rfl, by rw [List.map_replicate, List.map_replicate, lenOf_len]; rfl, by rw [← af.len]; exact sumA_rep fl4 gf, ?_⟩
      rw [← af.len, sum400 gf]
      walk_at "gl"
      refine ⟨f, (400, 1), rfl, by omega, fun z hz => (af.q hz).ok (by decide) (by decide), ⟨by decide, sz_dec (by decide +kernel), sz_dec (by decide +kernel)⟩, ?_⟩
      have hdk := okd_dok (okd_mono (okd_lenD (f.map fun x => timesP x (400, 1))) (by decide : 3 ≤ 64))
      refine gEq_of hdk hdk ?_
      rw [deq_refl hdk]
      walk_at "gl"
      refine dx_isiO rfl (Bt.isinstance tb) rfl U.xUnits.g XU.b ?_
      refine dx_cau CF LF.tab rfl LF.mem LF.only hrc rfl (fun A2 outer2 s2 H2 E2 f2 c2 tk2 hr3 => ?_) rfl rfl (fun _ _ _ _ _ => rfl)
      walk_at "gl"
      refine ⟨rfl, fun x hx1 hx2 hx3 => ?_⟩
      walk_at "gl"
      refine ⟨x, _, _, rfl, .inr ⟨hx1, ?_⟩⟩
      refine ⟨rfl, XU.m, true, .exc XU.c XU.k, ?_⟩
      walk_at "gl"
      refine dx_isiO rfl (Bt.isinstance tb) rfl U.xUnits.g XU.b ?_
      refine dx_cau CF LF.tab rfl LF.mem LF.only hrc rfl (fun A2 outer2 s2 H2 E2 f2 c2 tk2 hr3 => ?_) rfl rfl (fun _ _ _ _ _ => rfl)
      walk_at "gl"
      refine ⟨_, _, rfl, .inr ⟨rfl, ?_⟩⟩
      refine ⟨rfl, XU.m, true, .exc XU.c XU.k, ?_⟩
      walk_at "gl"
      refine ⟨by decide, by decide, Nat.le_of_ble_eq_true rfl, ?_⟩
      have fin : ∀ b : Bool, b = true → Kp (.bl b) := fun b hb => by rw [hb]; exact k0
      exact gEq_of (by decide +kernel) (by decide +kernel) (fin _ (by decide +kernel))
/-! ### the law -/
-- LAW _law_right _law_says product | (U : UnF G u) {j : Nat} (UW : UnW G u j) (hk : j + 1 ≤ k)
theorem good26 : GoodR [2, 6] := ⟨by decide, by decide +kernel, by decide⟩
theorem ok_cells {l : List (Int × Int)} (h : (l.all fun x => decide (0 < x.2) && Nat.blt x.1.natAbs 16 && Nat.blt x.2.natAbs 16) = true) : ∀ x ∈ l, OkP 200 x := fun x hx => by
  have := List.all_eq_true.mp h x hx
  simp only [Bool.and_eq_true, decide_eq_true_eq] at this
  obtain ⟨⟨a, b⟩, c⟩ := this
  have b : x.1.natAbs < 2 ^ 4 := Nat.le_of_ble_eq_true b
  have c : x.2.natAbs < 2 ^ 4 := Nat.le_of_ble_eq_true c
  exact (show OkP 4 x from ⟨a, b, c⟩).mono (by decide)
abbrev s_law : Stmt := top 86
theorem sc_law : FnScope ["script", "draw", "lap", "units"] ["script"] (defScope s_law) := ⟨rfl, rfl, rfl, by decide +kernel, rfl, by decide +kernel, by decide +kernel⟩
def spLaw (K : PySem.W.Frag) (T : List (Addr × Str)) : Sp := fun vs H Q _ => ∃ (a : Addr) (ns : List Int), vs = [.ref a] ∧ SqL K H a (ns.map V.int) ∧ ns.length ≤ 63 ∧ LamX.Tabs T H ∧ ∀ H', Q (.bl true) H'
theorem ok_law {G : Pg} {u : Ua} {k : Nat} (T : Tx G) {fa fb : Addr} {fd fdb : FuncData} (F : FunD G.K "law" "law" (defArgs s_law) (defBody s_law) (defScope s_law) [] [] fa fd)
    (FB : FunD G.K "_law_begun" "_law_begun" (defArgs s__law_begun) (defBody s__law_begun) (defScope s__law_begun) [] [] fb fdb) (hb : G.mg "_law_begun" = some (.ref fb))
    (BG : FnOk G.P G.w G.K G.mg G.base (L2.CX G.P G.w) k fb fdb ["script"] (spBeg G.K G.T)) (c__law_right : Fn G "_law_right" k ["draw"] (f__law_right u)) (c__law_says : Fn G "_law_says" k ["told", "due"] f__law_says) (c_product : Fn G "product" k ["units", "one", "other"] (f_product u)) (U : UnF G u) {j : Nat} (UW : UnW G u j) (hk : j + 1 ≤ k) :
    FnOk G.P G.w G.K G.mg G.base (L2.CX G.P G.w) (k + 1) fa fd ["script"] (spLaw G.K G.T) := by
  have bB : Binds G.K fdb ["script"] [] := FB.bindsN fun _ _ _ _ _ _ us hl => match us, hl with | [_], _ => rfl
  have kB := FB.kp
  obtain ⟨oc, od, dV, kV, doc, pm, an, cdv, ct, osl, e0, lk, hcd, _, _⟩ := F.ex
  subst e0
  refine fn_of lk hcd sc_law (fun vs H Q E h => by obtain ⟨a, ns, rfl, _⟩ := h; rfl) fun A outer s H vs Q E hr h => ?_
  obtain ⟨a, ns, rfl, ha, hn, hT, q⟩ := h
  have tb := T.b
  have nd := sc_law.nd
  have tk : Takes (FX G ["script", "draw", "lap", "units"] "law" s_law fa cdv A outer s H E) (wxE E) := takes_of rfl rfl rfl rfl
  have po : PassesOwn (model G.P G.w) (FX G ["script", "draw", "lap", "units"] "law" s_law fa cdv A outer s H E).A (FX G ["script", "draw", "lap", "units"] "law" s_law fa cdv A outer s H E).env (FX G ["script", "draw", "lap", "units"] "law" s_law fa cdv A outer s H E).xe := PassesOwn.leaving
  have rest : ∀ (d : Dr), DSs (FX G ["script", "draw", "lap", "units"] "law" s_law fa cdv A outer s H E) ⟨G.T, some d⟩ [] (wxE E) [.im (.frz ns), .im .drw, .un, .un] (defBody s_law).tail { nx := fun _ => False, rt := fun d => d = .bl true } kx0 := fun d => by
    have hr := hr
    refine ds_cons (ds_for (.n 2) po rfl (pg_name nd rfl (.inl rfl) (.inl rfl)) ?_)
    walk_at "gl"
    refine ⟨by split <;> omega, by split <;> omega, ?_⟩
    refine ⟨fun _ δ' => ∃ o2, δ' = [.im (.frz ns), .im .drw, o2, .un], ⟨_, rfl⟩, ?_, ?_⟩
    · rintro i x δ' hd ⟨o2, rfl⟩
      refine ⟨trivial, ?_⟩
      walk_at "gl"
      refine ⟨rfl, ?_⟩
      walk_at "gl"
      exact ⟨_, rfl⟩
    · rintro δ' ⟨o2, rfl⟩
      walk_at "gl"
      refine dx_make U.mkr UW.ini (hr.mono (by omega : j + 1 ≤ k)) tk rfl U.nm ?_
      walk_at "gl"
      refine ⟨rfl, init_good good26 (.inl rfl) ?_⟩
      walk_at "gl"
      refine ⟨_, _, _, rfl, .inl ⟨[2, 6], rfl, by decide, rok_sz (ns := [2, 6]) (menuR_rok _ (by simp [menuR])), rfl, ?_⟩⟩
      rw [if_pos (by decide +kernel)]
      refine ⟨rfl, ?_⟩
      rw [if_pos (by decide +kernel)]
      refine ⟨[(0, 1), (1, 1), (0, 1)], [(0, 1), (0, 1), (1, 1)], rfl, rfl, rfl, rfl, ok_cells (by decide +kernel), ok_cells (by decide +kernel), ?_⟩
      rw [show prodP [2, 6] [(0, 1), (1, 1), (0, 1)] [(0, 1), (0, 1), (1, 1)] = [(0, 1), (0, 1), (0, 1), (1, 1)] from by decide +kernel]
      walk_at "gl"
      refine ⟨_, _, _, rfl, .inl ⟨[2, 6], rfl, by decide, rok_sz (ns := [2, 6]) (menuR_rok _ (by simp [menuR])), rfl, ?_⟩⟩
      rw [if_pos (by decide +kernel)]
      refine ⟨rfl, ?_⟩
      rw [if_pos (by decide +kernel)]
      refine ⟨[(1, 1), (1, 1), (1, 1)], [(1, 1), (0, 1), (1, 1)], rfl, rfl, rfl, rfl, ok_cells (by decide +kernel), ok_cells (by decide +kernel), ?_⟩
      rw [show prodP [2, 6] [(1, 1), (1, 1), (1, 1)] [(1, 1), (0, 1), (1, 1)] = [(7, 1), (1, 1), (2, 1), (1, 1)] from by decide +kernel]
      walk_at "gl"
      refine ⟨.lst [lenD [(0, 1), (0, 1), (0, 1), (1, 1)], lenD [(7, 1), (1, 1), (2, 1), (1, 1)]], rfl, by decide +kernel, by decide +kernel, ?_⟩
      rfl
  refine ⟨_, pss_cons (ps_set (i := 1) nd rfl (.inl rfl) (pe_callS BG hr rfl hb kB bB (fun σ => passAt tk σ) (pa_cons (pe_var (i := 0) rfl (.inl rfl)) pa_nil))) pss_any, ?_⟩
  refine seq_asg ⟨.ref a, rfl, a, ns, rfl, ha, by omega, hT, fun H' d kp hT' ap ok => ?_⟩
  have sq : SqL G.K (hide [d.dw, d.lg, d.cl] H') a (ns.map V.int) := by
    rcases ha with (ha | ⟨o, ha⟩) | ha
    · obtain ⟨n1, n2, n3⟩ := ap a _ ha fun _ z => by cases z
      exact .inl (.inl (hide_of (by simp [n1, n2, n3]) (kp a _ ha fun _ z => by cases z)))
    · obtain ⟨n1, n2, n3⟩ := ap a _ ha fun _ z => by cases z
      exact .inl (.inr ⟨o, hide_of (by simp [n1, n2, n3]) (kp a _ ha fun _ z => by cases z)⟩)
    · exact .inr ha
  have w' : WOk ⟨G.T, some d⟩ H' := ⟨hT', fun d' hd => by cases hd; exact ok⟩
  have env : EnvOk G.K ⟨G.T, some d⟩ [] [.im (.frz ns), .im .drw, .un, .un] [some (.ref a), some (.ref d.dw), none, none] H' :=
    ⟨w', fun a ha => by simp at ha, List.Pairwise.nil, fun a ha => by simp [ownA] at ha, ⟨⟨.ref a, rfl, a, rfl, by
      have e : hidA ⟨G.T, some d⟩ [] [.im (.frz ns), .im .drw, .un, .un] [some (.ref a), some (.ref d.dw), none, none] = [d.dw, d.lg, d.cl] := by simp [hidA, Wd.rg, ownA]
      rw [e]; exact sq⟩, ⟨.ref d.dw, rfl, d, rfl, rfl⟩, trivial, trivial, trivial⟩⟩
  refine (rest d).run (H0 := H') (N := []) ⟨env, fun b o _ _ e _ => e, fun a ha => by
    have ha : a ∈ ([] : List Addr) := ha
    simp at ha⟩ (fun _ _ _ _ z => z.elim) (fun _ _ _ _ z => z.elim) (fun _ _ _ _ z => z.elim) (fun v H2 d' _ rp e => ?_) (fun _ _ _ _ _ _ _ z => z.elim)
  subst e
  cases rp
  exact q H2
open He HandSHeadRun
def uaOf (K : PySem.W.Frag) : Ua := ⟨ga K "Units", ma K (ga K "Units") "__init__", propAt "Units" "roots" K, getAt "Units" "roots" K, propAt "Units" "many" K, getAt "Units" "many" K, ma K (ga K "Units") "__eq__", fun x => ga K x⟩
def csOf (K : PySem.W.Frag) : List (Addr × Addr) := [cT K ("_law_right", none)]
def TTof (K : PySem.W.Frag) : List (Addr × Str) := [((cT K ("_law_right", none)).2, ("_law_right" ++ ".<locals>.") ++ "<lambda>")]
section
variable {K : PySem.W.Frag} {h : Heap} {mg : Str → Option Value} {w : World}
theorem code_at {x : Str} {st : Stmt} {fd : FuncData} (F : FunD K x x (defArgs st) (defBody st) (defScope st) [] [] (fAd K (x, none)) fd) : fd.code = .ref (cT K (x, none)).1 := by
  obtain ⟨oc, od, dV, kV, doc, pm, an, cdv, ct, osl, e0, lk, hcd, _, _⟩ := F.ex
  obtain ⟨c, hc⟩ := codeIn_ref hcd
  have e : codeOf K (x, none) = c := codeOf_eq lk (by rw [e0] at *; exact hc)
  show fd.code = .ref (codeOf K (x, none))
  rw [e, e0]; exact hc
theorem at_of {G : Pg} (X : G.K.In h) (N : h.Ns mainGlobals G.mg) (c : SaysD fa fn G.K) (i : Nat) {x : Str} {st : Stmt} (h1 : fn[i]? = some (dd x st)) (h2 : fa[i]? = some (.glo x)) : At G x st := by
  obtain ⟨fd, F⟩ := c.def_ i h1
  exact ⟨_, fd, F, glo_ok X N (c.fact i h2)⟩
theorem bt_of (X : K.In h) (N : h.Ns mainGlobals mg) (c : SaysD fa fn K) : Bt mg := ⟨free_ok X N (c.fact 67 rfl), free_ok X N (c.fact 68 rfl), free_ok X N (c.fact 69 rfl), free_ok X N (c.fact 70 rfl), free_ok X N (c.fact 71 rfl), free_ok X N (c.fact 72 rfl), free_ok X N (c.fact 73 rfl), free_ok X N (c.fact 74 rfl), free_ok X N (c.fact 75 rfl), free_ok X N (c.fact 76 rfl), free_ok X N (c.fact 77 rfl), free_ok X N (c.fact 78 rfl), free_ok X N (c.fact 79 rfl), free_ok X N (c.fact 80 rfl), free_ok X N (c.fact 81 rfl), free_ok X N (c.fact 82 rfl), free_ok X N (c.fact 83 rfl), free_ok X N (c.fact 84 rfl), free_ok X N (c.fact 85 rfl), free_ok X N (c.fact 86 rfl), free_ok X N (c.fact 87 rfl)⟩
theorem xf_of {G : Pg} (X : G.K.In h) (c : SaysD fa fn G.K) (e : (exs.all fun x => excB G.K (ga G.K x)) = true) {x : Str} (hx : x ∈ exs) (i : Nat) (h2 : fa[i]? = some (.exm x "PlateError" true)) : XF G (ga G.K "PlateError") (ga G.K x) := by
  obtain ⟨a, b, d⟩ := excB_ok (List.all_eq_true.mp e x hx)
  exact ⟨a, d, exm_ok (c.fact i h2), b⟩
theorem ef_of (X : K.In h) (N : h.Ns mainGlobals mg) (c : SaysD fa fn K) {x : Str} (i j : Nat) (h1 : fa[i]? = some (.glo x)) (h2 : fa[j]? = some (.exc x)) : ExF K mg x (ga K x) := exF_ok (glo_ok X N (c.fact i h1)) (c.fact j h2)
end
theorem law_fn {K : PySem.W.Frag} {h : Heap} {mg : Str → Option Value} {w : World} {P : Program} (X : K.In h) (N : h.Ns mainGlobals mg) (c : SaysY fa fn gs tf ex w h K) {base : Heap} (TB : ∀ p ∈ csOf K, LamX.TabB base mg p.1 p.2) {fd : FuncData}
    (FL : FunD K "law" "law" (defArgs s_law) (defBody s_law) (defScope s_law) [] [] (ga K "law") fd) : FnOk P w K mg base (L2.CX P w) 23 (ga K "law") fd ["script"] (spLaw K (TTof K)) := by
  have cd := c.x.t.d
  have ce := c.x.more
  obtain ⟨e1, ce⟩ := ba ce
  obtain ⟨e2, ce⟩ := ba ce
  obtain ⟨e3, ce⟩ := ba ce
  obtain ⟨e4, ce⟩ := ba ce
  obtain ⟨e5, ce⟩ := ba ce
  obtain ⟨e6, ce⟩ := ba ce
  obtain ⟨e7, ce⟩ := ba ce
  obtain ⟨e8, e9⟩ := ba ce
  have em : exM K = true := e5
  unfold exM at em
  have ed : exD K = true := e9
  unfold exD at ed
  simp only [Bool.and_eq_true, decide_eq_true_eq] at em ed
  let G : Pg := ⟨P, w, K, mg, base, TTof K⟩
  let u : Ua := uaOf K
  have N' : h.Ns mainGlobals G.mg := N
  have X' : G.K.In h := X
  have T : Tx G := ⟨bt_of X N cd, PySem.W.mg_of X N em, int_ok X N (cd.fact 88 rfl), int_ok X N (cd.fact 89 rfl), int_ok X N (cd.fact 90 rfl), int_ok X N (cd.fact 91 rfl)⟩
  have hcls := cls_ok (cd.fact 94 (f := .cls "Units") rfl)
  obtain ⟨i1, i2, i3⟩ := insB_ok hcls e1
  have hex : ∀ e ∈ exs, ExF G.K G.mg e (u.ex e) := fun e he => by
    simp only [exs, List.mem_cons, List.mem_nil_iff, or_false] at he
    rcases he with rfl | rfl | rfl | rfl | rfl | rfl
    · exact ef_of X N cd 98 99 rfl rfl
    · exact ef_of X N cd 101 102 rfl rfl
    · exact ef_of X N cd 104 105 rfl rfl
    · exact ef_of X N cd 107 108 rfl rfl
    · exact ef_of X N cd 110 111 rfl rfl
    · exact ef_of X N cd 113 114 rfl rfl
  have U : UnF G u := { nm := glo_ok X N (cd.fact 93 rfl), cls := hcls, clB := i2, insF := i1, self := i3, na := noat_ok (cd.fact 95 (f := .noat "Units" "u_roots") rfl), mkr := mkr_ok (cd.fact 96 (f := .mkr "Units") rfl), fi := cd.def_ 67 (d := dm "__init__" m_init) rfl, pr := propB_ok e2, fr := c.get e8 0 (d := gD "roots" m_roots) rfl, pm := propB_ok e3, fm := c.get e8 1 (d := gD "many" m_many) rfl, eq := ownEB_ok e4, fe := cd.def_ 68 (d := dm "__eq__" m_eq) rfl, x := hex }
  have NO : GTup G.K G.mg "NOUGHT" [0, 1] := ⟨_, glo_ok X N (cd.fact 92 rfl), fun H => tupB_ok e6 H⟩
  have mm : FnA G u.gM 1 ["self"] (f_mmany u) := ok_mmany (k := 0) T U
  have mr : FnA G u.gR 1 ["self"] (f_mroots u) := ok_mroots (k := 0) T U
  have c_is_number : Fn G "is_number" 1 ["thing"] f_is_number := ok_is_number (k := 0) T (at_of X' N' cd 3 rfl rfl)  
  have c_is_ratio : Fn G "is_ratio" 2 ["thing"] f_is_ratio := ok_is_ratio (k := 1) T (at_of X' N' cd 4 rfl rfl) (c_is_number.mono (by decide : 1 ≤ 1)) 
  have c_as_ratio : Fn G "as_ratio" 1 ["number"] f_as_ratio := ok_as_ratio (k := 0) T (at_of X' N' cd 5 rfl rfl)  
  have c_has_few_digits : Fn G "has_few_digits" 1 ["ratio"] f_has_few_digits := ok_has_few_digits (k := 0) T (at_of X' N' cd 6 rfl rfl)  
  have c_is_given_number : Fn G "is_given_number" 3 ["thing"] f_is_given_number := ok_is_given_number (k := 2) T (at_of X' N' cd 7 rfl rfl) (c_is_number.mono (by decide : 1 ≤ 2)) (c_is_ratio.mono (by decide : 2 ≤ 2)) (c_as_ratio.mono (by decide : 1 ≤ 2)) (c_has_few_digits.mono (by decide : 1 ≤ 2)) 
  have c_as_pair : Fn G "as_pair" 1 ["above", "below"] f_as_pair := ok_as_pair (k := 0) T (at_of X' N' cd 8 rfl rfl)  
  have c_plus : Fn G "plus" 2 ["one", "other"] f_plus := ok_plus (k := 1) T (at_of X' N' cd 9 rfl rfl) (c_as_pair.mono (by decide : 1 ≤ 1)) 
  have c_minus : Fn G "minus" 2 ["one", "other"] f_minus := ok_minus (k := 1) T (at_of X' N' cd 10 rfl rfl) (c_as_pair.mono (by decide : 1 ≤ 1)) 
  have c_times : Fn G "times" 2 ["one", "other"] f_times := ok_times (k := 1) T (at_of X' N' cd 11 rfl rfl) (c_as_pair.mono (by decide : 1 ≤ 1)) 
  have c_as_length : Fn G "as_length" 2 ["thing"] f_as_length := ok_as_length (k := 1) T (at_of X' N' cd 12 rfl rfl) (c_as_ratio.mono (by decide : 1 ≤ 1)) 
  have c__law_gcd : Fn G "_law_gcd" 1 ["one", "other"] f__law_gcd := ok__law_gcd (k := 0) T (at_of X' N' cd 13 rfl rfl)  
  have c__law_pair : Fn G "_law_pair" 2 ["above", "bottom"] f__law_pair := ok__law_pair (k := 1) T (at_of X' N' cd 14 rfl rfl) (c__law_gcd.mono (by decide : 1 ≤ 1)) 
  have c__law_ratio : Fn G "_law_ratio" 1 ["number"] f__law_ratio := ok__law_ratio (k := 0) T (at_of X' N' cd 15 rfl rfl)  
  have c__law_plus : Fn G "_law_plus" 3 ["one", "other"] f__law_plus := ok__law_plus (k := 2) T (at_of X' N' cd 16 rfl rfl) (c__law_pair.mono (by decide : 2 ≤ 2)) 
  have c__law_minus : Fn G "_law_minus" 3 ["one", "other"] f__law_minus := ok__law_minus (k := 2) T (at_of X' N' cd 17 rfl rfl) (c__law_pair.mono (by decide : 2 ≤ 2)) 
  have c__law_times : Fn G "_law_times" 3 ["one", "other"] f__law_times := ok__law_times (k := 2) T (at_of X' N' cd 18 rfl rfl) (c__law_pair.mono (by decide : 2 ≤ 2)) 
  have c__law_add : Fn G "_law_add" 4 ["one", "other"] f__law_add := ok__law_add (k := 3) T (at_of X' N' cd 19 rfl rfl) (c__law_plus.mono (by decide : 3 ≤ 3)) 
  have c__law_less : Fn G "_law_less" 4 ["one", "other"] f__law_less := ok__law_less (k := 3) T (at_of X' N' cd 20 rfl rfl) (c__law_minus.mono (by decide : 3 ≤ 3)) 
  have c__law_scaled : Fn G "_law_scaled" 4 ["length", "ratio"] f__law_scaled := ok__law_scaled (k := 3) T (at_of X' N' cd 21 rfl rfl) (c__law_times.mono (by decide : 3 ≤ 3)) 
  have c__law_is_ratio : Fn G "_law_is_ratio" 2 ["thing"] f__law_is_ratio := ok__law_is_ratio (k := 1) T (at_of X' N' cd 22 rfl rfl) (c__law_gcd.mono (by decide : 1 ≤ 1)) 
  have c__law_is_given : Fn G "_law_is_given" 3 ["thing"] f__law_is_given := ok__law_is_given (k := 2) T (at_of X' N' cd 23 rfl rfl) (c__law_is_ratio.mono (by decide : 2 ≤ 2)) (c__law_ratio.mono (by decide : 1 ≤ 2)) 
  have c__law_nought : Fn G "_law_nought" 1 ["roots"] f__law_nought := ok__law_nought (k := 0) T (at_of X' N' cd 24 rfl rfl)  
  have c_is_root : Fn G "is_root" 2 ["thing"] f_is_root := ok_is_root (k := 1) T (at_of X' N' cd 25 rfl rfl) (c_is_number.mono (by decide : 1 ≤ 1)) 
  have c_need_units : Fn G "need_units" 1 ["units"] (f_need_units u) := ok_need_units (k := 0) T U (at_of X' N' cd 26 rfl rfl)  
  have c_is_length_of : Fn G "is_length_of" 4 ["units", "thing"] (f_is_length_of u) := ok_is_length_of (k := 3) T U (at_of X' N' cd 27 rfl rfl) (c_is_given_number.mono (by decide : 3 ≤ 3)) mm (by decide)
  have c_need_two : Fn G "need_two" 5 ["units", "one", "other"] (f_need_two u) := ok_need_two (k := 4) T U (at_of X' N' cd 28 rfl rfl) (c_need_units.mono (by decide : 1 ≤ 4)) (c_is_length_of.mono (by decide : 4 ≤ 4)) 
  have c__law_kinds : Fn G "_law_kinds" 1 ["thing"] f__law_kinds := ok__law_kinds (k := 0) T (at_of X' N' cd 29 rfl rfl)  
  have c__law_mixed : Fn G "_law_mixed" 1 ["draw"] f__law_mixed := ok__law_mixed (k := 0) T (at_of X' N' cd 30 rfl rfl)  
  have c__law_take : Fn G "_law_take" 2 ["draw", "amount"] f__law_take := ok__law_take (k := 1) T (at_of X' N' cd 31 rfl rfl) (c__law_mixed.mono (by decide : 1 ≤ 1)) 
  have c__law_pick : Fn G "_law_pick" 3 ["draw", "some"] f__law_pick := ok__law_pick (k := 2) T (at_of X' N' cd 32 rfl rfl) (c__law_take.mono (by decide : 2 ≤ 2)) 
  have c__law_says : Fn G "_law_says" 2 ["told", "due"] f__law_says := ok__law_says (k := 1) T (at_of X' N' cd 33 rfl rfl) (c__law_kinds.mono (by decide : 1 ≤ 1)) 
  have c__law_roots : Fn G "_law_roots" 4 ["draw"] f__law_roots := ok__law_roots (k := 3) T (at_of X' N' cd 34 rfl rfl) (c__law_pick.mono (by decide : 3 ≤ 3)) 
  have c__law_item : Fn G "_law_item" 4 ["draw"] f__law_item := ok__law_item (k := 3) T (at_of X' N' cd 35 rfl rfl) (c__law_pick.mono (by decide : 3 ≤ 3)) (c__law_take.mono (by decide : 2 ≤ 3)) (c__law_pair.mono (by decide : 2 ≤ 3)) 
  have c__law_odd : Fn G "_law_odd" 4 ["draw"] f__law_odd := ok__law_odd (k := 3) T (at_of X' N' cd 36 rfl rfl) (c__law_pick.mono (by decide : 3 ≤ 3)) 
  have c_sign_of : Fn G "sign_of" 1 ["one"] f_sign_of := ok_sign_of (k := 0) T (at_of X' N' cd 37 rfl rfl)  
  have c_two_sign : Fn G "two_sign" 3 ["whole", "times_root", "root"] f_two_sign := ok_two_sign (k := 2) T (at_of X' N' cd 38 rfl rfl) (c_sign_of.mono (by decide : 1 ≤ 2)) (c_minus.mono (by decide : 2 ≤ 2)) (c_times.mono (by decide : 2 ≤ 2)) 
  have c_area_items : Fn G "area_items" 3 ["units"] (f_area_items u) := ok_area_items (k := 2) T U (at_of X' N' cd 39 rfl rfl)  mm (by decide)
  have c_is_area_of : Fn G "is_area_of" 4 ["units", "thing"] (f_is_area_of u) := ok_is_area_of (k := 3) T U (at_of X' N' cd 40 rfl rfl) (c_is_given_number.mono (by decide : 3 ≤ 3)) (c_area_items.mono (by decide : 3 ≤ 3)) 
  have c_as_area : Fn G "as_area" 2 ["thing"] f_as_area := ok_as_area (k := 1) T (at_of X' N' cd 41 rfl rfl) (c_as_ratio.mono (by decide : 1 ≤ 1)) 
  have c_nought_area : Fn G "nought_area" 4 ["units"] (f_nought_area u) := ok_nought_area (k := 3) T U (at_of X' N' cd 42 rfl rfl) (c_area_items.mono (by decide : 3 ≤ 3)) NO
  have c_area_plus : Fn G "area_plus" 3 ["one", "other"] f_area_plus := ok_area_plus (k := 2) T (at_of X' N' cd 43 rfl rfl) (c_plus.mono (by decide : 2 ≤ 2)) 
  have c_area_minus : Fn G "area_minus" 3 ["one", "other"] f_area_minus := ok_area_minus (k := 2) T (at_of X' N' cd 44 rfl rfl) (c_minus.mono (by decide : 2 ≤ 2)) 
  have c_crossed : Fn G "crossed" 3 ["one", "other", "first", "second"] f_crossed := ok_crossed (k := 2) T (at_of X' N' cd 45 rfl rfl) (c_plus.mono (by decide : 2 ≤ 2)) (c_times.mono (by decide : 2 ≤ 2)) 
  have c_product_of : Fn G "product_of" 4 ["units", "one", "other"] (f_product_of u) := ok_product_of (k := 3) T U (at_of X' N' cd 46 rfl rfl) (c_times.mono (by decide : 2 ≤ 3)) (c_plus.mono (by decide : 2 ≤ 3)) (c_crossed.mono (by decide : 3 ≤ 3)) mm mr (by decide)
  have c_square_pair : Fn G "square_pair" 3 ["one", "root"] f_square_pair := ok_square_pair (k := 2) T (at_of X' N' cd 47 rfl rfl) (c_plus.mono (by decide : 2 ≤ 2)) (c_times.mono (by decide : 2 ≤ 2)) 
  have c_area_sign_of : Fn G "area_sign_of" 4 ["units", "area"] (f_area_sign_of u) := ok_area_sign_of (k := 3) T U (at_of X' N' cd 48 rfl rfl) (c_sign_of.mono (by decide : 1 ≤ 3)) (c_two_sign.mono (by decide : 3 ≤ 3)) (c_square_pair.mono (by decide : 3 ≤ 3)) (c_minus.mono (by decide : 2 ≤ 3)) (c_times.mono (by decide : 2 ≤ 3)) mm mr (by decide)
  have c_area_total : Fn G "area_total" 5 ["units", "areas"] (f_area_total u) := ok_area_total (k := 4) T U (at_of X' N' cd 49 rfl rfl) (c_nought_area.mono (by decide : 4 ≤ 4)) (c_area_plus.mono (by decide : 3 ≤ 4)) 
  have d_is_area : FnD G "is_area" s_is_area 5 ["units", "thing"] (f_is_area u) := okd_is_area (k := 4) T U (at_of X' N' cd 50 rfl rfl) (c_need_units.mono (by decide : 1 ≤ 4)) (c_is_area_of.mono (by decide : 4 ≤ 4)) 
  have c_is_area : Fn G "is_area" 5 ["units", "thing"] (f_is_area u) := d_is_area.fn fun _ _ _ _ _ _ us hl => match us, hl with | [_, _], _ => rfl
  have d_product : FnD G "product" s_product 6 ["units", "one", "other"] (f_product u) := okd_product (k := 5) T U (at_of X' N' cd 51 rfl rfl) (c_need_two.mono (by decide : 5 ≤ 5)) (c_as_length.mono (by decide : 2 ≤ 5)) (c_product_of.mono (by decide : 4 ≤ 5)) 
  have c_product : Fn G "product" 6 ["units", "one", "other"] (f_product u) := d_product.fn fun _ _ _ _ _ _ us hl => match us, hl with | [_, _, _], _ => rfl
  have d_area_sum : FnD G "area_sum" s_area_sum 6 ["units", "areas"] (f_area_sum u) := okd_area_sum (k := 5) T U (at_of X' N' cd 52 rfl rfl) (c_need_units.mono (by decide : 1 ≤ 5)) (c_is_area_of.mono (by decide : 4 ≤ 5)) (c_as_area.mono (by decide : 2 ≤ 5)) (c_area_total.mono (by decide : 5 ≤ 5)) 
  have c_area_sum : Fn G "area_sum" 6 ["units", "areas"] (f_area_sum u) := d_area_sum.fn fun _ _ _ _ _ _ us hl => match us, hl with | [_, _], _ => rfl
  have d_area_sign : FnD G "area_sign" s_area_sign 5 ["units", "area"] (f_area_sign u) := okd_area_sign (k := 4) T U (at_of X' N' cd 53 rfl rfl) (c_need_units.mono (by decide : 1 ≤ 4)) (c_is_area_of.mono (by decide : 4 ≤ 4)) (c_as_area.mono (by decide : 2 ≤ 4)) (c_area_sign_of.mono (by decide : 4 ≤ 4)) 
  have c_area_sign : Fn G "area_sign" 5 ["units", "area"] (f_area_sign u) := d_area_sign.fn fun _ _ _ _ _ _ us hl => match us, hl with | [_, _], _ => rfl
  have d_is_lesser : FnD G "is_lesser" s_is_lesser 5 ["units", "one", "other"] (f_is_lesser u) := okd_is_lesser (k := 4) T U (at_of X' N' cd 54 rfl rfl) (c_need_units.mono (by decide : 1 ≤ 4)) (c_is_area_of.mono (by decide : 4 ≤ 4)) (c_as_area.mono (by decide : 2 ≤ 4)) (c_area_minus.mono (by decide : 3 ≤ 4)) (c_area_sign_of.mono (by decide : 4 ≤ 4)) 
  have c_is_lesser : Fn G "is_lesser" 5 ["units", "one", "other"] (f_is_lesser u) := d_is_lesser.fn fun _ _ _ _ _ _ us hl => match us, hl with | [_, _, _], _ => rfl
  have c__law_root_floor : Fn G "_law_root_floor" 1 ["number"] f__law_root_floor := ok__law_root_floor (k := 0) T (at_of X' N' cd 55 rfl rfl)  
  have c__law_sign_of : Fn G "_law_sign_of" 2 ["insides", "items"] f__law_sign_of := ok__law_sign_of (k := 1) T (at_of X' N' cd 56 rfl rfl) (c__law_gcd.mono (by decide : 1 ≤ 1)) (c__law_root_floor.mono (by decide : 1 ≤ 1)) 
  have c__law_insides : Fn G "_law_insides" 1 ["roots"] f__law_insides := ok__law_insides (k := 0) T (at_of X' N' cd 57 rfl rfl)  
  have c__law_sign : Fn G "_law_sign" 3 ["roots", "length"] f__law_sign := ok__law_sign (k := 2) T (at_of X' N' cd 58 rfl rfl) (c__law_sign_of.mono (by decide : 2 ≤ 2)) 
  have c__law_area_sign : Fn G "_law_area_sign" 3 ["roots", "amount"] f__law_area_sign := ok__law_area_sign (k := 2) T (at_of X' N' cd 59 rfl rfl) (c__law_insides.mono (by decide : 1 ≤ 2)) (c__law_sign_of.mono (by decide : 2 ≤ 2)) 
  have c__law_item_length : Fn G "_law_item_length" 2 ["roots", "number"] f__law_item_length := ok__law_item_length (k := 1) T (at_of X' N' cd 60 rfl rfl) (c__law_nought.mono (by decide : 1 ≤ 1)) 
  have c__law_is_area : Fn G "_law_is_area" 4 ["roots", "thing"] f__law_is_area := ok__law_is_area (k := 3) T (at_of X' N' cd 61 rfl rfl) (c__law_insides.mono (by decide : 1 ≤ 3)) (c__law_is_given.mono (by decide : 3 ≤ 3)) 
  have c__law_product : Fn G "_law_product" 4 ["roots", "one", "other"] f__law_product := ok__law_product (k := 3) T (at_of X' N' cd 62 rfl rfl) (c__law_insides.mono (by decide : 1 ≤ 3)) (c__law_times.mono (by decide : 3 ≤ 3)) (c__law_plus.mono (by decide : 3 ≤ 3)) 
  have c__law_side : Fn G "_law_side" 5 ["draw", "roots"] f__law_side := ok__law_side (k := 4) T (at_of X' N' cd 63 rfl rfl) (c__law_item.mono (by decide : 4 ≤ 4)) (c__law_sign.mono (by decide : 3 ≤ 4)) (c__law_scaled.mono (by decide : 4 ≤ 4)) 
  have c__law_place : Fn G "_law_place" 6 ["draw", "roots"] f__law_place := ok__law_place (k := 5) T (at_of X' N' cd 64 rfl rfl) (c__law_side.mono (by decide : 5 ≤ 5)) (c__law_pick.mono (by decide : 3 ≤ 5)) (c__law_scaled.mono (by decide : 4 ≤ 5)) 
  have c__law_some : Fn G "_law_some" 6 ["draw", "roots"] f__law_some := ok__law_some (k := 5) T (at_of X' N' cd 65 rfl rfl) (c__law_side.mono (by decide : 5 ≤ 5)) (c__law_product.mono (by decide : 4 ≤ 5)) (c__law_take.mono (by decide : 2 ≤ 5)) (c__law_root_floor.mono (by decide : 1 ≤ 5)) (c__law_insides.mono (by decide : 1 ≤ 5)) (c__law_pair.mono (by decide : 2 ≤ 5)) (c__law_less.mono (by decide : 4 ≤ 5)) (c__law_add.mono (by decide : 4 ≤ 5)) (c__law_item_length.mono (by decide : 2 ≤ 5)) (c__law_scaled.mono (by decide : 4 ≤ 5)) 
  have UW : UnW G u 14 := ⟨ok_init (k := 13) T U (c_is_root.mono (by decide : 2 ≤ 13)), mr, mm, ok_meq (k := 12) T U (mr.mono (by decide))⟩
  obtain ⟨fcg, fcd, FC, hmc⟩ := at_of (G := G) X' N' cd 2 (x := "_law_caught") (st := s__law_caught) rfl rfl
  have CF : CauF G.K G.mg (ga K "PlateError") := ⟨⟨fcg, fcd, hmc, FC⟩, glo_ok X N (cd.fact 97 rfl)⟩
  obtain ⟨fu0, Fu0⟩ := cd.def_ 66 (d := dd "_law_right" s__law_right) rfl
  have LF0 : LamF G "_law_right" fu0 (cT K ("_law_right", none)).1 (cT K ("_law_right", none)).2 := ⟨code_at (x := "_law_right") (st := s__law_right) Fu0, TB _ (by simp [csOf]), by simp [G, TTof], fun p hp e => by
    have hp : p ∈ TTof K := hp
    simp only [TTof, List.mem_cons, List.mem_nil_iff, or_false] at hp
    rcases hp with rfl
    · rfl⟩
  have c__law_right : Fn G "_law_right" 19 ["draw"] (f__law_right u) := ok__law_right (k := 18) T U Fu0 (glo_ok X N (cd.fact 66 rfl)) LF0 CF (j := 14) (by decide) (c__law_roots.mono (by decide : 4 ≤ 14)) (c__law_place.mono (by decide : 6 ≤ 14)) (c__law_side.mono (by decide : 5 ≤ 14)) (c__law_product.mono (by decide : 4 ≤ 14)) (c__law_says.mono (by decide : 2 ≤ 14)) (c__law_some.mono (by decide : 6 ≤ 14)) (c__law_area_sign.mono (by decide : 3 ≤ 14)) (c__law_less.mono (by decide : 4 ≤ 14)) (c__law_add.mono (by decide : 4 ≤ 14)) (c__law_take.mono (by decide : 2 ≤ 14)) (c__law_pick.mono (by decide : 3 ≤ 14)) (c__law_odd.mono (by decide : 4 ≤ 14)) (c__law_is_area.mono (by decide : 4 ≤ 14)) (c__law_scaled.mono (by decide : 4 ≤ 14)) (c_product.mono (by decide : 6 ≤ 14)) (c_area_sign.mono (by decide : 5 ≤ 14)) (c_is_lesser.mono (by decide : 5 ≤ 14)) (c_area_sum.mono (by decide : 6 ≤ 14)) (c_is_area.mono (by decide : 5 ≤ 14)) UW (d_product.mono (by decide : 6 ≤ 14)) (d_area_sign.mono (by decide : 5 ≤ 14)) (d_is_lesser.mono (by decide : 5 ≤ 14)) (d_area_sum.mono (by decide : 6 ≤ 14)) (d_is_area.mono (by decide : 5 ≤ 14)) (xf_of X' cd e7 (x := "BadArea") (by simp [exs]) 100 rfl) (xf_of X' cd e7 (x := "BadAreas") (by simp [exs]) 103 rfl) (xf_of X' cd e7 (x := "BadOne") (by simp [exs]) 106 rfl) (xf_of X' cd e7 (x := "BadOther") (by simp [exs]) 109 rfl) (xf_of X' cd e7 (x := "BadUnits") (by simp [exs]) 115 rfl)
  obtain ⟨fb, FB⟩ := cd.def_ 1 (d := dd "_law_begun" s__law_begun) rfl
  exact ok_law (G := G) (u := u) (k := 22) T FL FB (glo_ok X N (cd.fact 1 rfl)) (ok_begun (G := G) (k := 21) T FB) (c__law_right.mono (by decide : 19 ≤ 22)) (c__law_says.mono (by decide : 2 ≤ 22)) (c_product.mono (by decide : 6 ≤ 22)) U (j := 14) UW (by decide)
end KK
open PySem PySem.W PySem.Calls PyProof.Rows
theorem PySem.Challenge.cw_laidanew_k02_whole_areas_holds : PySem.Challenge.rw_laidanew_k02_whole_areas.Holds := by
  w_on; o_law
  refine HandSHeadRun.head_imp (r := OpenLaw.row PySem.Challenge.rw_laidanew_k02_whole_areas) (q := view (OpenLaw.row PySem.Challenge.rw_laidanew_k02_whole_areas).prog [86]) (H := KK.hk) (ob := KK.ob) (M := 6000) (loose := KK.looseN) (d := HandSHeadRun.topDef (OpenLaw.row PySem.Challenge.rw_laidanew_k02_whole_areas).prog 86) (kwd := []) KK.ob_eq KK.run
    (by kernel_rfl) (by kernel_rfl) (by kernel_rfl) (by rfl) (by first | assumption | decide +kernel) (by decide +kernel) ⟨rfl, rfl, rfl, rfl, rfl, by decide +kernel⟩ ?hw ?hc
  case hw => w_witness2
  case hc =>
    refine LamX.walk_ofTsE (l := PySem.Challenge.rw_laidanew_k02_whole_areas) (n := 63) (k := 23) (x := "script") (CX := fun w => L2.CX (PySem.Challenge.rw_laidanew_k02_whole_areas).prog w) rfl (by decide) (by kernel_rfl) ⟨rfl, by decide, by decide⟩ ?F (fun w H s e s' z => by
      obtain ⟨_, _, _, _, _, _, _, _, _, _, _, _, z⟩ := z
      exact z)
    intro w mg fa h Y N hmg0
    obtain ⟨K, KX, c⟩ := Y
    have hmg : mg ("law" : PySem.Str) = some (.ref fa) := by
      have e : (HandSHeadRun.topDef (OpenLaw.row PySem.Challenge.rw_laidanew_k02_whole_areas).prog 86).name = ("law" : PySem.Str) := by kernel_rfl
      rw [← e]
      exact hmg0
    have cd := c.x.t.d
    have e := hmg.symm.trans (He.glo_ok KX N (cd.fact 0 (f := .glo "law") rfl))
    cases e
    obtain ⟨fd, FL⟩ := cd.def_ 0 (d := KK.dd "law" KK.s_law) rfl
    have b := L2.FunD.bindsA (ps := ["script"]) FL fun _ _ _ _ _ _ us hl => match us, hl with | [_], _ => rfl
    refine ⟨K, KX, fd, KK.csOf K, KK.spLaw K (KK.TTof K), fun p hp => ?_, fun p hp => ?_, fun p hp => ?_, fun s v => b s [v] rfl, fun H a ns hn _ hT hS => ⟨a, ns, rfl, hS, hn, fun p hp => ?_, fun _ => rfl⟩, fun base _ _ TB => KK.law_fn KX N c TB FL⟩
    · have hp : p ∈ KK.tf.map (He.cT K) := hp
      obtain ⟨z, hz, rfl⟩ := List.mem_map.mp hp
      exact c.x.empty z hz
    · have hp : p ∈ KK.tf.map (He.cT K) := hp
      obtain ⟨z, hz, rfl⟩ := List.mem_map.mp hp
      exact c.x.out z hz
    · have hp : p ∈ KK.tf.map (He.cT K) := hp
      obtain ⟨z, hz, rfl⟩ := List.mem_map.mp hp
      exact PySem.W.codeHd_of_K KX (c.x.hd z hz)
    · simp only [KK.TTof, List.mem_cons, List.mem_nil_iff, or_false] at hp
      rcases hp with rfl
      · exact LamX.TabS.nil (hT _ (by simp [KK.csOf]))
namespace KK
end KK
