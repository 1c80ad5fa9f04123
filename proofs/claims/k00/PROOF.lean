import PyProof.Rows.All
import Wide.All
import OpenK.AllK
import Wide.FinOn
import HandS.Defaults
import HandS.Exc
import HandS.ForExc
import HandS.HeadHook4
import HandS.Head3
import HandS.ForMost
import HandS.Flow
import HandS.HeadWalk
import HandS.IsInst
import HandS.ExcIs
import HandS.ExcValue
import HandS.Gcd
import HandS.Wide
import HandS.TupMul
import HandS.Property
import HandS.MakeKw
import HandS.OwnEq
import HandS.Conv
import HandS.Zip
import HandS.Style
import HandS.Walk
import HandS.TupAny
import HandS.Strs
import HandS.SetKeys
import HandS.SetFor
import HandS.Lambda
import PySem.Challenge.RW_laidanew_k00_whole_units_and_lengths
set_option Elab.async false
set_option linter.all false
set_option maxRecDepth 100000
set_option maxHeartbeats 4000000
/-! # HA0: a Hook that tells defs at addresses of one's own, too (getters of properties); facts as Bools -/
namespace Lay
open PySem PySem.Spec PyProof.Rows L2 He
def clsB (K : PySem.W.Frag) (C : Addr) : Bool := (PySem.W.clsIn K C).isSome && PySem.W.typeIn K (.ref C) == some (.type "type")
/-- a def that stands at an address told by what is looked at -/
structure GetD where
  at_ : PySem.W.Frag → Addr
  d : DefD
def GetD.see (K : PySem.W.Frag) (g : GetD) : FnW := match K.lookup (g.at_ K) with
  | some ⟨_, _, .func fd, _⟩ => some (fd.name, fd.qualname, fd.params, fd.body, fd.scope, fd.globals, fd.closure, fd.builtins)
  | _ => none
def GetD.ok (K : PySem.W.Frag) (g : GetD) : Bool := match K.lookup (g.at_ K) with
  | some ⟨_, _, .func fd, _⟩ => PySem.W.keepIn K (.ref (g.at_ K)) && (PySem.W.codeIn K fd.code g.d.qual && (dflB K fd.defaults [] && kwdB K fd.kwdefaults []))
  | _ => false
theorem GetD.fun_ {K : PySem.W.Frag} {g : GetD} (e : g.see K = g.d.val) (c : g.ok K = true) : ∃ fd, FunD K g.d.name g.d.qual g.d.params g.d.body g.d.scope [] [] (g.at_ K) fd := by
  unfold GetD.see at e
  unfold GetD.ok at c
  split at e
  · rename_i oc od fd osl lk
    rw [lk] at c
    obtain ⟨kp, c⟩ := ba c
    obtain ⟨c1, c⟩ := ba c
    obtain ⟨c2, c3⟩ := ba c
    obtain ⟨m1, m2, m3, m4, m5, m6, m7, m8, m9, m10, m11, m12, m13, m14, m15⟩ := fd
    unfold DefD.val at e
    simp only [Option.some.injEq, Prod.mk.injEq] at e
    obtain ⟨z1, z2, z3, z4, z5, z6, z7, z8⟩ := e
    subst z1 z2 z3 z4 z5 z6 z7 z8
    exact ⟨_, ⟨oc, od, m8, m9, m10, m11, m12, m13, m14, osl, rfl, lk, c1, dflB_ok c2, kwdB_ok c3⟩, kp⟩
  · rename_i lk
    split at c
    · rename_i q
      exact absurd q (lk _ _ _ _)
    · cases c
abbrev AlY : Type := AlX × List FnW
def seeY (n : Nat) (fa : List Fa) (fn : List DefD) (gs : List GetD) (tf : List Defn) (ex : PySem.W.Frag → Bool) (g : Addr → Option Obj) : AlY := (obsX n fa fn [] tf ex g, gs.map fun d => d.see (frT g (asD g n)))
structure SaysY (fa : List Fa) (fn : List DefD) (gs : List GetD) (tf : List Defn) (ex : PySem.W.Frag → Bool) (w : World) (h : Heap) (K : PySem.W.Frag) : Prop where
  x : SaysX fa fn [] tf ex w h K
  g : gs.map (fun d => d.see K) = gs.map fun d => d.d.val
def hookY (n : Nat) (fa : List Fa) (fn : List DefD) (gs : List GetD) (tf : List Defn) (ex : PySem.W.Frag → Bool) : PySem.W.Hook where
  α := AlY
  obs := fun s => seeY n fa fn gs tf ex s.heap.get?
  val := fun w => (valX fn [] w, gs.map fun d : GetD => d.d.val)
  says := fun w h => ∃ K : PySem.W.Frag, K.In h ∧ SaysY fa fn gs tf ex w h K
  of := fun _ _ e => ⟨_, frT_in, saysX_of (congrArg (fun z : AlY => z.1) e), by have z := congrArg (fun z : AlY => z.2) e; exact z⟩
  keeps := fun _ _ _ ⟨K, hK, c⟩ k => ⟨K, PySem.W.Frag.In.keeps hK k, ⟨c.x.t, c.x.more, c.x.hd, c.x.out, fun p hp => k _ _ (c.x.empty p hp)⟩, c.g⟩
theorem seeY_eq {n : Nat} {fa : List Fa} {fn : List DefD} {gs : List GetD} {tf : List Defn} {ex : PySem.W.Frag → Bool} {g : Addr → Option Obj} {s : Shared} (h : ∀ a, g a = s.heap.get? a) : seeY n fa fn gs tf ex g = (hookY n fa fn gs tf ex).obs s := by
  obtain rfl : g = s.heap.get? := funext h
  rfl
theorem SaysY.get {fa : List Fa} {fn : List DefD} {gs : List GetD} {tf : List Defn} {ex : PySem.W.Frag → Bool} {w : World} {h : Heap} {K : PySem.W.Frag} (c : SaysY fa fn gs tf ex w h K) (ok : gs.all (fun d => d.ok K) = true) (i : Nat) {d : GetD} (hi : gs[i]? = some d := by rfl) :
    ∃ fd, FunD K d.d.name d.d.qual d.d.params d.d.body d.d.scope [] [] (d.at_ K) fd := by
  have e2 : (gs.map fun d => d.see K)[i]? = (gs.map fun d => d.d.val)[i]? := by rw [c.g]
  rw [List.getElem?_map, List.getElem?_map, hi] at e2
  exact GetD.fun_ (Option.some.inj e2) (List.all_eq_true.mp ok d (List.mem_of_getElem? hi))
def propAt (C m : Str) (K : PySem.W.Frag) : Addr := ma K (ga K C) m
def getAt (C m : Str) (K : PySem.W.Frag) : Addr := match PySem.W.recIn K (propAt C m K) "property" with
  | some (.ref g :: _) => g
  | _ => 0
def propB (K : PySem.W.Frag) (C m : Str) : Bool := decide (PySem.W.findIn K (.ref (ga K C)) m = some (some (.ref (propAt C m K)))) && (decide (PySem.W.specialIn K (.ref (propAt C m K)) "__get__" = some (some (.builtin "property.__get__"))) && (decide (PySem.W.takesIn K (.ref (propAt C m K)) = some true) && (match PySem.W.recIn K (propAt C m K) "property" with
  | some (.ref _ :: _) => true
  | _ => false)))
def insB (K : PySem.W.Frag) (C : Addr) : Bool := decide (PySem.W.findIn K (.ref C) "__class__" = some (some (.builtin "object.__class__"))) && (decide (PySem.W.specialIn K (.builtin "object.__class__") "__get__" = some (some (.builtin "getset_descriptor.__get__"))) && (decide (PySem.W.takesIn K (.builtin "object.__class__") = some true) && (decide (PySem.W.mroIn K C (.type "object") = some true) && (clsB K C && decide (PySem.W.kitOne K (.ref C) (.ref C) = some true)))))
def ownEB (K : PySem.W.Frag) (C : Addr) : Bool := decide (PySem.W.findIn K (.ref C) "__eq__" = some (some (.ref (ma K C "__eq__")))) && (decide (PySem.W.findIn K (.ref C) "__ne__" = some (some (.builtin "object.__ne__"))) && (PySem.W.isFn K (.ref (ma K C "__eq__")) && (PySem.W.clsIn K C).isSome))
def excB (K : PySem.W.Frag) (C : Addr) : Bool := decide (PySem.W.findIn K (.ref C) "__getattribute__" = some (some (.builtin "BaseException.__getattribute__"))) && (decide (PySem.W.findIn K (.ref C) "__getattr__" = some none) && (decide (PySem.W.subIn K (.ref C) (.type "BaseException") = some true) && (PySem.W.hasDictIn K C && (decide (PySem.W.findIn K (.ref C) "__class__" = some (some (.builtin "object.__class__"))) && (decide (PySem.W.specialIn K (.builtin "object.__class__") "__get__" = some (some (.builtin "getset_descriptor.__get__"))) &&
  (decide (PySem.W.takesIn K (.builtin "object.__class__") = some true) && (decide (PySem.W.mroIn K C (.type "object") = some true) && (clsB K C && decide (PySem.W.kitOne K (.ref C) (.ref C) = some true)))))))))
end Lay

namespace KK
open PySem PySem.Spec PyProof.Rows L2 Lay He
def top (i : Nat) : Stmt := PySem.Challenge.pw_laidanew_k00_whole_units_and_lengths.main.body.getD i (.Pass ⟨0, 0, 0, 0⟩)
def clsBody (i : Nat) : List Stmt := match top i with
  | .ClassDef _ _ _ b _ _ _ _ _ _ _ => b
  | _ => []
def meth (i j : Nat) : Stmt := (clsBody i).getD j (.Pass ⟨0, 0, 0, 0⟩)
def dd (x : Str) (st : Stmt) : DefD := ⟨(x, none), x, x, defArgs st, defBody st, defScope st, [], []⟩
def dm (x : Str) (st : Stmt) : DefD := ⟨("Units", some x), x, "Units." ++ x, defArgs st, defBody st, defScope st, [], []⟩
def gD (x : Str) (st : Stmt) : GetD := ⟨getAt "Units" x, ⟨(x, none), x, "Units." ++ x, defArgs st, defBody st, defScope st, [], []⟩⟩
def fn : List DefD := [dd "law" (top 77), dd "_law_begun" (top 48), dd "_law_caught" (top 52), dd "is_number" (top 13), dd "is_ratio" (top 14), dd "as_ratio" (top 15), dd "has_few_digits" (top 16), dd "is_given_number" (top 17), dd "as_pair" (top 18), dd "plus" (top 19), dd "minus" (top 20), dd "times" (top 21), dd "as_length" (top 32), dd "length_plus" (top 34), dd "length_minus" (top 35), dd "length_times" (top 36), dd "_law_gcd" (top 56), dd "_law_pair" (top 57), dd "_law_ratio" (top 58), dd "_law_plus" (top 59), dd "_law_minus" (top 60), dd "_law_times" (top 61), dd "_law_length" (top 65), dd "_law_add" (top 67), dd "_law_less" (top 68), dd "_law_scaled" (top 69), dd "_law_is_ratio" (top 62), dd "_law_is_given" (top 63), dd "_law_is_length" (top 64), dd "_law_nought" (top 66), dd "_law_is_root" (top 72), dd "is_root" (top 25), dd "need_units" (top 27), dd "is_length_of" (top 30), dd "are_lengths" (top 31), dd "nought_length" (top 33), dd "length_sum" (top 37), dd "need_length" (top 38), dd "need_lengths" (top 39), dd "need_two" (top 40), dd "is_given" (top 41), dd "is_length" (top 42), dd "plain" (top 43), dd "total" (top 44), dd "difference" (top 45), dd "multiple" (top 46), dd "_law_kinds" (top 53), dd "_law_mixed" (top 49), dd "_law_take" (top 50), dd "_law_pick" (top 51), dd "_law_says" (top 54), dd "_law_roots" (top 70), dd "_law_item" (top 71), dd "_law_given" (top 73), dd "_law_near" (top 74), dd "_law_odd" (top 55), dd "_law_units_right" (top 75), dd "_law_sums_right" (top 76), dm "__init__" (meth 26 0), dm "__eq__" (meth 26 3)]
def fa : List Fa := [.glo "law", .glo "_law_begun", .glo "_law_caught", .glo "is_number", .glo "is_ratio", .glo "as_ratio", .glo "has_few_digits", .glo "is_given_number", .glo "as_pair", .glo "plus", .glo "minus", .glo "times", .glo "as_length", .glo "length_plus", .glo "length_minus", .glo "length_times", .glo "_law_gcd", .glo "_law_pair", .glo "_law_ratio", .glo "_law_plus", .glo "_law_minus", .glo "_law_times", .glo "_law_length", .glo "_law_add", .glo "_law_less", .glo "_law_scaled", .glo "_law_is_ratio", .glo "_law_is_given", .glo "_law_is_length", .glo "_law_nought", .glo "_law_is_root", .glo "is_root", .glo "need_units", .glo "is_length_of", .glo "are_lengths", .glo "nought_length", .glo "length_sum", .glo "need_length", .glo "need_lengths", .glo "need_two", .glo "is_given", .glo "is_length", .glo "plain", .glo "total", .glo "difference", .glo "multiple", .glo "_law_kinds", .glo "_law_mixed", .glo "_law_take", .glo "_law_pick", .glo "_law_says", .glo "_law_roots", .glo "_law_item", .glo "_law_given", .glo "_law_near", .glo "_law_odd", .glo "_law_units_right", .glo "_law_sums_right", .free "isinstance", .free "int", .free "bool", .free "tuple", .free "list", .free "dict", .free "str", .free "len", .free "all", .free "any", .free "abs", .free "min", .free "max", .free "range", .free "zip", .free "enumerate", .free "set", .free "sorted", .free "repr", .free "sum", .free "reversed", .int "MOST" (10 ^ 300), .int "MOST_ROOT" 99, .int "MOST_ROOTS" 2, .int "MOST_LENGTHS" 400, .glo "NOUGHT", .glo "Units", .cls "Units", .noat "Units" "u_roots", .mkr "Units", .glo "PlateError", .glo "BadRoots", .exc "BadRoots", .exm "BadRoots" "PlateError" true, .glo "BadUnits", .exc "BadUnits", .exm "BadUnits" "PlateError" true, .glo "BadLength", .exc "BadLength", .exm "BadLength" "PlateError" true, .glo "BadLengths", .exc "BadLengths", .exm "BadLengths" "PlateError" true, .glo "BadOne", .exc "BadOne", .exm "BadOne" "PlateError" true, .glo "BadOther", .exc "BadOther", .exm "BadOther" "PlateError" true, .glo "BadRatio", .exc "BadRatio", .exm "BadRatio" "PlateError" true]
def gs : List GetD := [gD "roots" (meth 26 1), gD "many" (meth 26 2)]
def tf : List Defn := [("_law_units_right", none), ("_law_sums_right", none)]
def exs : List Str := ["BadRoots", "BadUnits", "BadLength", "BadLengths", "BadOne", "BadOther", "BadRatio"]
def ex (K : PySem.W.Frag) : Bool := insB K (ga K "Units") && (propB K "Units" "roots" && (propB K "Units" "many" && (ownEB K (ga K "Units") && (decide (PySem.W.nsIn K mainGlobals "gcd" = some (some (.builtin "math.gcd"))) && (tupB K "NOUGHT" [.int 0, .int 1] &&
  ((exs.all fun x => excB K (ga K x)) && (gs.all (fun d => d.ok K) && decide ((cT K ("_law_units_right", none)).2 ≠ (cT K ("_law_sums_right", none)).2))))))))
abbrev R : PySem.W.OpenRow := PySem.W.OpenLaw.row PySem.Challenge.rw_laidanew_k00_whole_units_and_lengths
abbrev hk : PySem.W.Hook := hookY 5 fa fn gs tf ex
def ob (s : PySem.W.SharedT) : AlY := seeY 5 fa fn gs tf ex (HandSHeadRun.getT s)
theorem ob_eq (s : PySem.W.SharedT) : ob s = hk.obs s.abs := seeY_eq (HandSHeadRun.getT_eq s)
def loose0 : List Str := ["gcd", "PlateError", "BadLength", "BadLengths", "BadOne", "BadOther", "BadRatio", "BadRoots", "BadUnits", "MOST", "NOUGHT", "is_number", "is_ratio", "as_ratio", "has_few_digits", "is_given_number", "as_pair", "plus", "minus", "times", "MOST_ROOT", "MOST_ROOTS", "is_root", "Units", "need_units", "MOST_LENGTHS", "is_length_of", "are_lengths", "as_length", "nought_length"]
def loose1 : List Str := ["length_plus", "length_minus", "length_times", "length_sum", "need_length", "need_lengths", "need_two", "is_given", "is_length", "plain", "total", "difference", "multiple", "_law_begun", "_law_mixed", "_law_take", "_law_pick", "_law_caught", "_law_kinds", "_law_says", "_law_odd", "_law_gcd", "_law_pair", "_law_ratio", "_law_plus", "_law_minus", "_law_times", "_law_is_ratio", "_law_is_given", "_law_is_length"]
def loose2 : List Str := ["_law_length", "_law_nought", "_law_add", "_law_less", "_law_scaled", "_law_roots", "_law_item", "_law_is_root", "_law_given", "_law_near", "_law_units_right", "_law_sums_right"]
def looseN : List Str := loose0 ++ loose1 ++ loose2
theorem run (w : World) : HandSHeadRun.RunEqI R (PySem.W.view R.prog [77]) hk ob 6000 looseN w := by
  unfold HandSHeadRun.RunEqI
  kernel_rfl
end KK

/-! # DS1: data over the hand layer. A value is told by the datum that it bears; a def by what it makes of data. -/
namespace Lay
open PySem PySem.Spec PyProof.Rows L2

/-- data -/
inductive D where
  | non | bl (b : Bool) | int (i : Int) | str (x : Str)
  | tup (l : List D) | lst (l : List D)
  | dic (ks : List Key) (ds : List D)
  | ins (C : Addr) (fs : List Str) (ds : List D)
  | exc (C : Addr) (fs : List Str) (ds : List D)
  | drw
  /-- the list of ints from outside -/
  | frz (ns : List Int)

/-- where the draws' state stands: its dict, its list of great numbers, its list of cells -/
structure Dr where
  dw : Addr
  lg : Addr
  cl : Addr
  cs : List Int
/-- an exception object, held as a value -/
def ExV (C : Addr) (dd : Option Addr) (a : Addr) : HO := .ext fun h => ∃ (oe : Obj) (vs : Array Value), h.get? a = some oe ∧ oe.cls = .ref C ∧ oe.dict = dd ∧ oe.data = .fields vs

mutual
/-- the value bears the datum -/
def Rep (K : PySem.W.Frag) (dr : Option Dr) (H : Hp) : D → V → Prop
  | .non, v => v = .non
  | .bl b, v => v = .bl b
  | .int i, v => v = .int i
  | .str x, v => v = .str x
  | .tup l, v => ∃ a xs, v = .ref a ∧ SqT K H a xs ∧ RepL K dr H l xs
  | .lst l, v => ∃ a xs, v = .ref a ∧ H a = some (.lst xs) ∧ RepL K dr H l xs
  | .dic ks ds, v => ∃ a xs, v = .ref a ∧ H a = some (.dK (ks.zip xs)) ∧ ks.length = xs.length ∧ RepL K dr H ds xs
  | .ins C fs ds, v => ∃ a dx xs, v = .ref a ∧ H a = some (.ins C dx (fs.zip xs)) ∧ fs.length = xs.length ∧ RepL K dr H ds xs
  | .exc C fs ds, v => ∃ a dd, v = .ref a ∧ H a = some (ExV C dd a) ∧ ((dd = none ∧ fs = [] ∧ ds = []) ∨ (fs ≠ [] ∧ ∃ d xs, dd = some d ∧ H d = some (.xd (fs.zip xs)) ∧ fs.length = xs.length ∧ RepL K dr H ds xs))
  | .drw, v => ∃ d, dr = some d ∧ v = .ref d.dw
  | .frz ns, v => ∃ a, v = .ref a ∧ SqL K H a (ns.map V.int)
def RepL (K : PySem.W.Frag) (dr : Option Dr) (H : Hp) : List D → List V → Prop
  | [], xs => xs = []
  | d :: ds, xs => ∃ v vs, xs = v :: vs ∧ Rep K dr H d v ∧ RepL K dr H ds vs
end

theorem ext_ne_tbl {φ : Heap → Prop} (ps : Array Value) : HO.ext φ ≠ .tbl ps := fun z => by cases z
/-- a heap with more -/
abbrev ExN := LamX.ExtN
theorem ExN.rd {H H' : Hp} (e : ExN H H') {a : Addr} {u : HO} (r : Rd H a u) (hu : ∀ ps, u ≠ .tbl ps) : Rd H' a u := by
  rcases r with r | ⟨o, r⟩
  · exact .inl (e _ _ r hu)
  · exact .inr ⟨o, e _ _ r fun ps z => by cases z⟩
theorem ExN.seqL {K : PySem.W.Frag} {H H' : Hp} (e : ExN H H') {a : Addr} {xs : List V} (r : SqL K H a xs) : SqL K H' a xs := by
  rcases r with r | r
  · exact .inl (ExN.rd e r fun ps z => by cases z)
  · exact .inr r
theorem ExN.seqT {K : PySem.W.Frag} {H H' : Hp} (e : ExN H H') {a : Addr} {xs : List V} (r : SqT K H a xs) : SqT K H' a xs := by
  rcases r with r | r
  · exact .inl (ExN.rd e r fun ps z => by cases z)
  · exact .inr r

mutual
theorem Rep.mono {K : PySem.W.Frag} {dr : Option Dr} {H H' : Hp} (e : ExN H H') : ∀ (d : D) (v : V), Rep K dr H d v → Rep K dr H' d v
  | .non, _, h => h
  | .bl _, _, h => h
  | .int _, _, h => h
  | .str _, _, h => h
  | .tup l, _, h => by
    obtain ⟨a, xs, h1, h2, h3⟩ := h
    exact ⟨a, xs, h1, ExN.seqT e h2, RepL.mono e l xs h3⟩
  | .lst l, _, h => by
    obtain ⟨a, xs, h1, h2, h3⟩ := h
    exact ⟨a, xs, h1, e _ _ h2 (fun ps z => by cases z), RepL.mono e l xs h3⟩
  | .dic ks ds, _, h => by
    obtain ⟨a, xs, h1, h2, h3, h4⟩ := h
    exact ⟨a, xs, h1, e _ _ h2 (fun ps z => by cases z), h3, RepL.mono e ds xs h4⟩
  | .ins C fs ds, _, h => by
    obtain ⟨a, dx, xs, h1, h2, h3, h4⟩ := h
    exact ⟨a, dx, xs, h1, e _ _ h2 (fun ps z => by cases z), h3, RepL.mono e ds xs h4⟩
  | .exc C fs ds, _, h => by
    obtain ⟨a, dd, h1, h2, h3⟩ := h
    refine ⟨a, dd, h1, e _ _ h2 ext_ne_tbl, ?_⟩
    rcases h3 with h3 | ⟨h0, d, xs, h4, h5, h6, h7⟩
    · exact .inl h3
    · exact .inr ⟨h0, d, xs, h4, e _ _ h5 (fun ps z => by cases z), h6, RepL.mono e ds xs h7⟩
  | .drw, _, h => h
  | .frz _, _, h => by
    obtain ⟨a, h1, h2⟩ := h
    exact ⟨a, h1, ExN.seqL e h2⟩
theorem RepL.mono {K : PySem.W.Frag} {dr : Option Dr} {H H' : Hp} (e : ExN H H') : ∀ (ds : List D) (vs : List V), RepL K dr H ds vs → RepL K dr H' ds vs
  | [], _, h => h
  | d :: ds, _, h => by
    obtain ⟨v, vs, h1, h2, h3⟩ := h
    exact ⟨v, vs, h1, Rep.mono e d v h2, RepL.mono e ds vs h3⟩
end
section
variable {K : PySem.W.Frag} {dr : Option Dr} {H H' : Hp}
theorem RepL.nil : RepL K dr H [] [] := rfl
theorem RepL.cons {d : D} {ds : List D} {v : V} {vs : List V} (h : Rep K dr H d v) (t : RepL K dr H ds vs) : RepL K dr H (d :: ds) (v :: vs) := ⟨v, vs, rfl, h, t⟩
theorem RepL.length : ∀ {ds : List D} {vs : List V}, RepL K dr H ds vs → ds.length = vs.length
  | [], _, h => by cases h; rfl
  | d :: ds, _, h => by
    obtain ⟨v, vs, rfl, h2, h3⟩ := h
    rw [List.length_cons, List.length_cons, RepL.length h3]
theorem RepL.get : ∀ {ds : List D} {vs : List V} {i : Nat} {v : V}, RepL K dr H ds vs → vs[i]? = some v → ∃ d, ds[i]? = some d ∧ Rep K dr H d v
  | [], _, i, v, h, e => by cases h; simp at e
  | d :: ds, _, 0, v, h, e => by
    obtain ⟨v', vs, rfl, h2, h3⟩ := h
    simp at e; subst e; exact ⟨d, rfl, h2⟩
  | d :: ds, _, i + 1, v, h, e => by
    obtain ⟨v', vs, rfl, h2, h3⟩ := h
    obtain ⟨d', e1, r1⟩ := RepL.get (i := i) (v := v) h3 (by simpa using e)
    exact ⟨d', by simpa using e1, r1⟩
theorem RepL.getD : ∀ {ds : List D} {vs : List V} {i : Nat} {d : D}, RepL K dr H ds vs → ds[i]? = some d → ∃ v, vs[i]? = some v ∧ Rep K dr H d v
  | [], _, i, v, h, e => by simp at e
  | d :: ds, _, 0, _, h, e => by
    obtain ⟨v', vs, rfl, h2, h3⟩ := h
    simp at e; subst e; exact ⟨v', rfl, h2⟩
  | d :: ds, _, i + 1, _, h, e => by
    obtain ⟨v', vs, rfl, h2, h3⟩ := h
    obtain ⟨v2, e1, r1⟩ := RepL.getD (i := i) h3 (by simpa using e)
    exact ⟨v2, by simpa using e1, r1⟩
theorem RepL.append : ∀ {ds es : List D} {vs us : List V}, RepL K dr H ds vs → RepL K dr H es us → RepL K dr H (ds ++ es) (vs ++ us)
  | [], _, _, _, h, t => by cases h; exact t
  | d :: ds, _, _, _, h, t => by
    obtain ⟨v, vs, rfl, h2, h3⟩ := h
    exact ⟨v, _, rfl, h2, RepL.append h3 t⟩
theorem RepL.take : ∀ {ds : List D} {vs : List V} (n : Nat), RepL K dr H ds vs → RepL K dr H (ds.take n) (vs.take n)
  | _, _, 0, _ => rfl
  | [], _, n + 1, h => by cases h; exact rfl
  | d :: ds, _, n + 1, h => by
    obtain ⟨v, vs, rfl, h2, h3⟩ := h
    exact ⟨v, _, rfl, h2, RepL.take n h3⟩
theorem RepL.drop : ∀ {ds : List D} {vs : List V} (n : Nat), RepL K dr H ds vs → RepL K dr H (ds.drop n) (vs.drop n)
  | _, _, 0, h => h
  | [], _, n + 1, h => by cases h; exact rfl
  | d :: ds, _, n + 1, h => by
    obtain ⟨v, vs, rfl, h2, h3⟩ := h
    exact RepL.drop n h3
theorem RepL.dropLast {ds : List D} {vs : List V} (h : RepL K dr H ds vs) : RepL K dr H ds.dropLast vs.dropLast := by
  rw [List.dropLast_eq_take, List.dropLast_eq_take, ← h.length]
  exact RepL.take _ h
theorem RepL.set {d : D} {v : V} (r : Rep K dr H d v) : ∀ {ds : List D} {vs : List V} (i : Nat), RepL K dr H ds vs → RepL K dr H (ds.set i d) (vs.set i v)
  | [], _, _, h => by cases h; exact rfl
  | _ :: ds, _, 0, h => by
    obtain ⟨v, vs, rfl, h2, h3⟩ := h
    exact ⟨_, _, rfl, r, h3⟩
  | _ :: ds, _, i + 1, h => by
    obtain ⟨v, vs, rfl, h2, h3⟩ := h
    exact ⟨_, _, rfl, h2, RepL.set r i h3⟩
theorem RepL.replicate {d : D} {v : V} (r : Rep K dr H d v) : ∀ n : Nat, RepL K dr H (List.replicate n d) (List.replicate n v)
  | 0 => rfl
  | n + 1 => ⟨v, _, rfl, r, RepL.replicate r n⟩
theorem RepL.flatten {ds : List D} {vs : List V} (h : RepL K dr H ds vs) : ∀ n : Nat, RepL K dr H (List.replicate n ds).flatten (List.replicate n vs).flatten
  | 0 => rfl
  | n + 1 => by
    rw [List.replicate_succ, List.replicate_succ, List.flatten_cons, List.flatten_cons]
    exact h.append (RepL.flatten h n)
theorem RepL.reverse : ∀ {ds : List D} {vs : List V}, RepL K dr H ds vs → RepL K dr H ds.reverse vs.reverse
  | [], _, h => by cases h; exact rfl
  | d :: ds, _, h => by
    obtain ⟨v, vs, rfl, h2, h3⟩ := h
    rw [List.reverse_cons, List.reverse_cons]
    exact (RepL.reverse h3).append (.cons h2 .nil)
end

/-! ### the heap without some addresses -/
def hide (S : List Addr) (H : Hp) : Hp := fun b => if b ∈ S then none else H b
theorem hide_some {S : List Addr} {H : Hp} {b : Addr} {o : HO} (h : hide S H b = some o) : b ∉ S ∧ H b = some o := by
  unfold hide at h
  by_cases c : b ∈ S
  · rw [if_pos c] at h; cases h
  · rw [if_neg c] at h; exact ⟨c, h⟩
theorem hide_of {S : List Addr} {H : Hp} {b : Addr} {o : HO} (c : b ∉ S) (h : H b = some o) : hide S H b = some o := by
  unfold hide
  rw [if_neg c]
  exact h
theorem hide_none {S : List Addr} {H : Hp} {b : Addr} (h : H b = none) : hide S H b = none := by
  unfold hide
  by_cases c : b ∈ S
  · rw [if_pos c]
  · rw [if_neg c]; exact h
theorem hide_sub {S : List Addr} {H : Hp} : ExN (hide S H) H := fun b o h _ => (hide_some h).2
theorem hide_more {S S' : List Addr} {H : Hp} (h : ∀ a, a ∈ S → a ∈ S') : ExN (hide S' H) (hide S H) := fun b o e _ => by
  obtain ⟨c, e⟩ := hide_some e
  exact hide_of (fun z => c (h b z)) e

/-! ### the world of a def: its code objects' tables, the draws -/
structure Wd where
  T : List (Addr × Str)
  dr : Option Dr
def Wd.rg (W : Wd) : List Addr := match W.dr with
  | none => []
  | some d => [d.dw, d.lg, d.cl]
def drD (d : Dr) (rest turn : Int) : HO := .dK [(.inr "large", .ref d.lg), (.inr "rest", .int rest), (.inr "cells", .ref d.cl), (.inr "turn", .int turn)]
def DrOk (d : Dr) (H : Hp) : Prop := ∃ (rest turn : Int) (lg : List Int), H d.dw = some (drD d rest turn) ∧ H d.lg = some (.lst (lg.map V.int)) ∧ H d.cl = some (.lst (d.cs.map V.int)) ∧ d.lg ≠ d.cl
structure WOk (W : Wd) (H : Hp) : Prop where
  tabs : LamX.Tabs W.T H
  drs : ∀ d, W.dr = some d → DrOk d H
/-- what stood stands, but for the draws -/
structure Ext (W : Wd) (H H' : Hp) : Prop where
  keep : ∀ b o, b ∉ W.rg → H b = some o → (∀ ps, o ≠ .tbl ps) → H' b = some o
  ok : WOk W H'
theorem Ext.refl {W : Wd} {H : Hp} (h : WOk W H) : Ext W H H := ⟨fun _ _ _ h _ => h, h⟩
theorem Ext.trans {W : Wd} {H H1 H2 : Hp} (a : Ext W H H1) (b : Ext W H1 H2) : Ext W H H2 := ⟨fun c o n h t => b.keep c o n (a.keep c o n h t) t, b.ok⟩
theorem Ext.hide {W : Wd} {H H' : Hp} (e : Ext W H H') {S : List Addr} (hs : ∀ a, a ∈ W.rg → a ∈ S) : ExN (hide S H) (hide S H') := fun b o h t => by
  obtain ⟨c, h⟩ := hide_some h
  exact hide_of c (e.keep b o (fun z => c (hs b z)) h t)
theorem mem_rg {W : Wd} {d : Dr} (h : W.dr = some d) : W.rg = [d.dw, d.lg, d.cl] := by
  unfold Wd.rg
  rw [h]
theorem DrOk.stay {d : Dr} {H H' : Hp} (h : DrOk d H) (k : ∀ b o, H b = some o → (∀ ps, o ≠ .tbl ps) → (b = d.dw ∨ b = d.lg ∨ b = d.cl) → H' b = some o) : DrOk d H' := by
  obtain ⟨r, t, lg, h1, h2, h3, h4⟩ := h
  exact ⟨r, t, lg, k _ _ h1 (fun _ z => by cases z) (.inl rfl), k _ _ h2 (fun _ z => by cases z) (.inr (.inl rfl)), k _ _ h3 (fun _ z => by cases z) (.inr (.inr rfl)), h4⟩
/-- all is kept -/
theorem WOk.same {W : Wd} {H H' : Hp} (h : WOk W H) (k : ∀ b o, H b = some o → H' b = some o) : WOk W H' :=
  ⟨h.tabs.ext k, fun d e => (h.drs d e).stay fun b o x _ _ => k b o x⟩
theorem Ext.same {W : Wd} {H H' : Hp} (h : WOk W H) (k : ∀ b o, H b = some o → H' b = some o) : Ext W H H' := ⟨fun b o _ e _ => k b o e, h.same k⟩
/-- a new object -/
theorem Ext.new {W : Wd} {H : Hp} (h : WOk W H) {p : Addr} {o : HO} (n : H p = none) : Ext W H (upd H p o) := .same h fun b u e => by
  rw [upd_ne (ne_of_none e n)]
  exact e
/-- an object of one's own is changed: no table, no code object, none of the draws -/
theorem WOk.write {W : Wd} {H : Hp} (h : WOk W H) {a : Addr} {o u : HO} (e : H a = some o) (m : Mut (some o)) (hx : ∀ φ, o ≠ .ext φ) (hr : a ∉ W.rg) : WOk W (upd H a u) := by
  have nt : ∀ ps, o ≠ .tbl ps := fun ps z => by subst z; exact m
  refine ⟨fun p hp => ?_, fun d hd => (h.drs d hd).stay fun b o' x _ hb => ?_⟩
  · obtain ⟨ps, h1, h2, h3⟩ := h.tabs p hp
    refine ⟨ps, ?_, h2, fun pos cv hc => ?_⟩
    · rw [upd_ne (fun z => by rw [z, e] at h1; exact nt ps (Option.some.inj h1))]
      exact h1
    · obtain ⟨c, e1, e2⟩ := h3 pos cv hc
      refine ⟨c, e1, ?_⟩
      rw [upd_ne (fun z => by rw [z, e] at e2; exact hx _ (Option.some.inj e2))]
      exact e2
  · rw [upd_ne (fun z => by
      rw [mem_rg hd] at hr
      subst z
      simp only [List.mem_cons, List.mem_nil_iff, or_false, not_or] at hr
      rcases hb with z | z | z
      · exact hr.1 z
      · exact hr.2.1 z
      · exact hr.2.2 z)]
    exact x

/-! ### slots -/
inductive Sl where
  /-- nothing is known -/
  | un
  /-- a datum -/
  | im (d : D)
  /-- a list of one's own -/
  | ow (l : List D)
  /-- an instance of one's own -/
  | oi (p C : Addr) (fs : List Str) (ds : List D)
abbrev De := List Sl
def ownA : De → L2.St → List Addr
  | .ow _ :: δ, some (.ref a) :: σ => a :: ownA δ σ
  | .oi _ _ _ _ :: δ, some (.ref a) :: σ => a :: ownA δ σ
  | _ :: δ, _ :: σ => ownA δ σ
  | _, _ => []
def SlotOk (K : PySem.W.Frag) (dr : Option Dr) (S : List Addr) (H : Hp) : Sl → Option V → Prop
  | .un, _ => True
  | .im d, o => ∃ v, o = some v ∧ Rep K dr (hide S H) d v
  | .ow l, o => ∃ a xs, o = some (.ref a) ∧ H a = some (.lst xs) ∧ RepL K dr (hide S H) l xs
  | .oi p C fs ds, o => ∃ a dx xs, o = some (.ref a) ∧ H a = some (.ins C dx (fs.zip xs)) ∧ fs.length = xs.length ∧ RepL K dr (hide S H) ds xs ∧ a = p
def SlotsOk (K : PySem.W.Frag) (dr : Option Dr) (S : List Addr) (H : Hp) : De → L2.St → Prop
  | [], [] => True
  | s :: δ, o :: σ => SlotOk K dr S H s o ∧ SlotsOk K dr S H δ σ
  | _, _ => False
abbrev hidA (W : Wd) (M : List Addr) (δ : De) (σ : L2.St) : List Addr := W.rg ++ M ++ ownA δ σ
structure EnvOk (K : PySem.W.Frag) (W : Wd) (M : List Addr) (δ : De) (σ : L2.St) (H : Hp) : Prop where
  w : WOk W H
  m : ∀ a ∈ M, a ∉ W.rg ∧ ∃ o, H a = some o ∧ ∀ ps, o ≠ .tbl ps
  nd : (ownA δ σ).Nodup
  dj : ∀ a ∈ ownA δ σ, a ∉ W.rg ∧ a ∉ M
  sl : SlotsOk K W.dr (hidA W M δ σ) H δ σ
section
variable {K : PySem.W.Frag} {dr : Option Dr} {S S' : List Addr} {H H' : Hp}
theorem SlotOk.stay {s : Sl} {o : Option V} (h : SlotOk K dr S H s o) (k : ExN (hide S H) (hide S' H')) (ko : ∀ a u, a ∈ ownA [s] [o] → H a = some u → (∀ ps, u ≠ .tbl ps) → H' a = some u) : SlotOk K dr S' H' s o := by
  cases s with
  | un => trivial
  | im d =>
    obtain ⟨v, h1, h2⟩ := h
    exact ⟨v, h1, h2.mono k⟩
  | ow l =>
    obtain ⟨a, xs, rfl, h2, h3⟩ := h
    exact ⟨a, xs, rfl, ko a _ (by simp [ownA]) h2 (fun _ z => by cases z), h3.mono k⟩
  | oi p C fs ds =>
    obtain ⟨a, dx, xs, rfl, h2, h3, h4, h5⟩ := h
    exact ⟨a, dx, xs, rfl, ko a _ (by simp [ownA]) h2 (fun _ z => by cases z), h3, h4.mono k, h5⟩
theorem ownA_cons {s : Sl} {o : Option V} {δ : De} {σ : L2.St} {a : Addr} : a ∈ ownA (s :: δ) (o :: σ) ↔ a ∈ ownA [s] [o] ∨ a ∈ ownA δ σ := by
  cases s <;> (cases o with
    | none => simp [ownA]
    | some v => cases v <;> simp [ownA])
theorem SlotsOk.stay : ∀ {δ : De} {σ : L2.St}, SlotsOk K dr S H δ σ → ExN (hide S H) (hide S' H') → (∀ a u, a ∈ ownA δ σ → H a = some u → (∀ ps, u ≠ .tbl ps) → H' a = some u) → SlotsOk K dr S' H' δ σ
  | [], [], _, _, _ => trivial
  | s :: δ, o :: σ, h, k, ko => ⟨h.1.stay k fun a u m => ko a u (ownA_cons.mpr (.inl m)), SlotsOk.stay h.2 k fun a u m => ko a u (ownA_cons.mpr (.inr m))⟩
  | [], _ :: _, h, _, _ => h.elim
  | _ :: _, [], h, _, _ => h.elim
theorem SlotsOk.get : ∀ {δ : De} {σ : L2.St} {i : Nat} {s : Sl}, SlotsOk K dr S H δ σ → δ[i]? = some s → ∃ o, σ[i]? = some o ∧ SlotOk K dr S H s o
  | [], [], i, s, _, e => by simp at e
  | s :: δ, o :: σ, 0, _, h, e => by
    simp at e; subst e; exact ⟨o, rfl, h.1⟩
  | s :: δ, o :: σ, i + 1, _, h, e => by
    obtain ⟨o', e1, r⟩ := SlotsOk.get (i := i) h.2 (by simpa using e)
    exact ⟨o', by simpa using e1, r⟩
  | [], _ :: _, _, _, h, _ => h.elim
  | _ :: _, [], _, _, h, _ => h.elim
theorem SlotsOk.length : ∀ {δ : De} {σ : L2.St}, SlotsOk K dr S H δ σ → δ.length = σ.length
  | [], [], _ => rfl
  | s :: δ, o :: σ, h => by rw [List.length_cons, List.length_cons, SlotsOk.length h.2]
  | [], _ :: _, h => h.elim
  | _ :: _, [], h => h.elim
theorem mem_ownA : ∀ {δ : De} {σ : L2.St} {a : Addr}, a ∈ ownA δ σ → ∃ i : Nat, σ[i]? = some (some (.ref a))
  | [], _, a, h => by simp [ownA] at h
  | s :: δ, [], a, h => by cases s <;> simp [ownA] at h
  | s :: δ, o :: σ, a, h => by
    rcases ownA_cons.mp h with h | h
    · refine ⟨0, ?_⟩
      cases s <;> (cases o with
        | none => simp [ownA] at h
        | some v => cases v <;> first | (simp [ownA] at h; done) | (simp [ownA] at h; subst h; rfl))
    · obtain ⟨i, e⟩ := mem_ownA h
      exact ⟨i + 1, by simpa using e⟩
end
section
variable {K : PySem.W.Frag} {W : Wd} {M : List Addr} {δ : De} {σ : L2.St} {H H' : Hp}
theorem EnvOk.ext (h : EnvOk K W M δ σ H) (e : Ext W H H') : EnvOk K W M δ σ H' :=
  ⟨e.ok, fun a ha => by
    obtain ⟨h1, o, h2, h3⟩ := h.m a ha
    exact ⟨h1, o, e.keep a o h1 h2 h3, h3⟩, h.nd, h.dj, h.sl.stay (e.hide fun a ha => by simp [hidA, ha]) fun a u ha => e.keep a u (h.dj a ha).1⟩
/-- a slot's datum -/
theorem EnvOk.get (h : EnvOk K W M δ σ H) {i : Nat} {d : D} (e : δ[i]? = some (.im d)) : ∃ v, σ[i]? = some (some v) ∧ Rep K W.dr (hide (hidA W M δ σ) H) d v := by
  obtain ⟨o, e1, v, e2, r⟩ := h.sl.get e
  exact ⟨v, by rw [e1, e2], r⟩
end

/-! ### exceptions -/
structure Ex where
  C : Addr
  fs : List Str := []
  ds : List D := []
def XOk (K : PySem.W.Frag) (dr : Option Dr) (H : Hp) (x : Ex) (cls : Value) (dd : Option Addr) : Prop :=
  cls = .ref x.C ∧ ((dd = none ∧ x.fs = [] ∧ x.ds = []) ∨ (x.fs ≠ [] ∧ ∃ d xs, dd = some d ∧ H d = some (.xd (x.fs.zip xs)) ∧ x.fs.length = xs.length ∧ RepL K dr H x.ds xs))
theorem XOk.mono {K : PySem.W.Frag} {dr : Option Dr} {H H' : Hp} {x : Ex} {cls : Value} {dd : Option Addr} (h : XOk K dr H x cls dd) (e : ExN H H') : XOk K dr H' x cls dd := by
  obtain ⟨h1, h2⟩ := h
  refine ⟨h1, ?_⟩
  rcases h2 with h2 | ⟨z, d, xs, a, b, c, r⟩
  · exact .inl h2
  · exact .inr ⟨z, d, xs, a, e _ _ b (fun _ z => by cases z), c, r.mono e⟩

/-! ### readings of data -/
abbrev KD := D → Prop
abbrev KX := Ex → Prop
/-- an expression comes to a datum of which Kp holds, or raises what Ke tells -/
def tE (K : PySem.W.Frag) (W : Wd) (M : List Addr) (wx : WX) (δ : De) (Kp : KD) (Ke : KX) : TE := fun σ H Q =>
  EnvOk K W M δ σ H ∧ (∀ v H' d, Ext W H H' → Rep K W.dr (hide (hidA W M δ σ) H') d v → Kp d → Q v H') ∧
    ∀ x cls dd H', Ext W H H' → XOk K W.dr (hide (hidA W M δ σ) H') x cls dd → Ke x → wx cls dd σ H'
def tT (K : PySem.W.Frag) (W : Wd) (M : List Addr) (wx : WX) (δ : De) (Kp : Bool → Prop) (Ke : KX) : TT := fun σ H Q =>
  EnvOk K W M δ σ H ∧ (∀ b H', Ext W H H' → Kp b → Q b H') ∧
    ∀ x cls dd H', Ext W H H' → XOk K W.dr (hide (hidA W M δ σ) H') x cls dd → Ke x → wx cls dd σ H'
def tA (K : PySem.W.Frag) (W : Wd) (M : List Addr) (wx : WX) (δ : De) (Kp : List D → Prop) (Ke : KX) : TA := fun σ H Q =>
  EnvOk K W M δ σ H ∧ (∀ vs H' ds, Ext W H H' → RepL K W.dr (hide (hidA W M δ σ) H') ds vs → Kp ds → Q vs H') ∧
    ∀ x cls dd H', Ext W H H' → XOk K W.dr (hide (hidA W M δ σ) H') x cls dd → Ke x → wx cls dd σ H'
def DE (X : Cx) (W : Wd) (M : List Addr) (wx : WX) (δ : De) (e : Expr) (Kp : KD) (Ke : KX) : Prop := PE X e (tE X.K W M wx δ Kp Ke)
def DT (X : Cx) (W : Wd) (M : List Addr) (wx : WX) (δ : De) (e : Expr) (Kp : Bool → Prop) (Ke : KX) : Prop := PT X e (tT X.K W M wx δ Kp Ke)
def DA (X : Cx) (W : Wd) (M : List Addr) (wx : WX) (δ : De) (es : List Expr) (Kp : List D → Prop) (Ke : KX) : Prop := PA X es (tA X.K W M wx δ Kp Ke)

/-- any reading -/
def tAny (X : Cx) (e : Expr) : TE := fun σ H Q => ∃ t, PE X e t ∧ t σ H Q
theorem pe_any {X : Cx} {e : Expr} : PE X e (tAny X e) := ⟨fun pins s σ H Q I ⟨_, h, q⟩ => h.run pins s σ H Q I q⟩
def ttAny (X : Cx) (e : Expr) : TT := fun σ H Q => ∃ t, PT X e t ∧ t σ H Q
theorem pt_any {X : Cx} {e : Expr} : PT X e (ttAny X e) := ⟨fun pins s σ H Q I ⟨_, h, q⟩ => h.run pins s σ H Q I q⟩
def twAny (X : Cx) (e : Expr) : TT := fun σ H Q => ∃ t, PW X e t ∧ t σ H Q
theorem pw_any {X : Cx} {e : Expr} : PW X e (twAny X e) := ⟨fun wh pins s σ H Q I ⟨_, h, q⟩ => h.run wh pins s σ H Q I q⟩
def taAny (X : Cx) (es : List Expr) : TA := fun σ H Q => ∃ t, PA X es t ∧ t σ H Q
theorem pa_any {X : Cx} {es : List Expr} : PA X es (taAny X es) := ⟨fun pos pins s σ H Q I ⟨_, h, q⟩ => h.run pos pins s σ H Q I q⟩
def tsAny (X : Cx) (st : Stmt) : TS := fun Dn σ H => ∃ t, PS X st t ∧ t Dn σ H
theorem ps_any {X : Cx} {st : Stmt} : PS X st (tsAny X st) := ⟨fun pins s σ H Q I ⟨_, h, q⟩ => h.run pins s σ H Q I q⟩
def tssAny (X : Cx) (st : List Stmt) : TS := fun Dn σ H => ∃ t, PSs X st t ∧ t Dn σ H
theorem pss_any {X : Cx} {st : List Stmt} : PSs X st (tssAny X st) := ⟨fun pins s σ H Q I ⟨_, h, q⟩ => h.run pins s σ H Q I q⟩

section
variable {X : Cx} {W : Wd} {M : List Addr} {wx : WX} {δ : De} {e a b c : Expr} {es : List Expr} {Kp : KD} {Ke : KX} {pos : Pos}
theorem PE.imp {t t' : TE} (h : PE X e t) (k : ∀ σ H Q, t' σ H Q → t σ H Q) : PE X e t' := ⟨fun pins s σ H Q I q => h.run pins s σ H Q I (k σ H Q q)⟩
theorem PT.imp {t t' : TT} (h : PT X e t) (k : ∀ σ H Q, t' σ H Q → t σ H Q) : PT X e t' := ⟨fun pins s σ H Q I q => h.run pins s σ H Q I (k σ H Q q)⟩
theorem PA.imp {t t' : TA} (h : PA X es t) (k : ∀ σ H Q, t' σ H Q → t σ H Q) : PA X es t' := ⟨fun pos pins s σ H Q I q => h.run pos pins s σ H Q I (k σ H Q q)⟩
theorem PS.imp {st : Stmt} {t t' : TS} (h : PS X st t) (k : ∀ Dn σ H, t' Dn σ H → t Dn σ H) : PS X st t' := ⟨fun pins s σ H Q I q => h.run pins s σ H Q I (k Q σ H q)⟩
theorem PSs.imp {st : List Stmt} {t t' : TS} (h : PSs X st t) (k : ∀ Dn σ H, t' Dn σ H → t Dn σ H) : PSs X st t' := ⟨fun pins s σ H Q I q => h.run pins s σ H Q I (k Q σ H q)⟩
theorem DE.weak {Kp' : KD} {Ke' : KX} (h : DE X W M wx δ e Kp Ke) (k : ∀ d, Kp d → Kp' d) (kx : ∀ x, Ke x → Ke' x := by exact fun _ h => h) : DE X W M wx δ e Kp' Ke' :=
  PE.imp h fun σ H Q ⟨e1, q, qx⟩ => ⟨e1, fun v H' d x r p => q v H' d x r (k d p), fun x cls dd H' e r p => qx x cls dd H' e r (kx x p)⟩
theorem DE.run {σ : L2.St} {H : Hp} {Q : VK} (h : DE X W M wx δ e Kp Ke) (env : EnvOk X.K W M δ σ H) (q : ∀ v H' d, Ext W H H' → Rep X.K W.dr (hide (hidA W M δ σ) H') d v → Kp d → Q v H')
    (qx : ∀ x cls dd H', Ext W H H' → XOk X.K W.dr (hide (hidA W M δ σ) H') x cls dd → Ke x → wx cls dd σ H') : tAny X e σ H Q := ⟨_, h, env, q, qx⟩
end
end Lay

/-! # DS2: expressions -/
namespace Lay
open PySem PySem.Spec PyProof.Rows L2

/-- the heap around a value: what is hidden -/
structure Amb (W : Wd) (S : List Addr) (H : Hp) : Prop where
  w : WOk W H
  rg : ∀ a ∈ W.rg, a ∈ S
  tr : ∀ a ∈ S, a ∈ W.rg ∨ ∃ o, H a = some o ∧ ∀ ps, o ≠ .tbl ps
theorem DrOk.tr {d : Dr} {H : Hp} (h : DrOk d H) {a : Addr} (ha : a = d.dw ∨ a = d.lg ∨ a = d.cl) : ∃ o, H a = some o ∧ ∀ ps, o ≠ .tbl ps := by
  obtain ⟨r, t, lg, h1, h2, h3, h4⟩ := h
  rcases ha with rfl | rfl | rfl
  · exact ⟨_, h1, fun _ z => by cases z⟩
  · exact ⟨_, h2, fun _ z => by cases z⟩
  · exact ⟨_, h3, fun _ z => by cases z⟩
theorem WOk.tr {W : Wd} {H : Hp} (h : WOk W H) {a : Addr} (ha : a ∈ W.rg) : ∃ o, H a = some o ∧ ∀ ps, o ≠ .tbl ps := by
  unfold Wd.rg at ha
  cases e : W.dr with
  | none => rw [e] at ha; simp at ha
  | some d =>
    rw [e] at ha
    exact (h.drs d e).tr (by simpa using ha)
theorem Amb.some {W : Wd} {S : List Addr} {H : Hp} (h : Amb W S H) {a : Addr} (ha : a ∈ S) : ∃ o, H a = some o ∧ ∀ ps, o ≠ .tbl ps := (h.tr a ha).elim (fun z => h.w.tr z) id
theorem Amb.new {W : Wd} {S : List Addr} {H : Hp} (h : Amb W S H) {p : Addr} (n : H p = none) : p ∉ S := fun z => by
  obtain ⟨o, e, _⟩ := h.some z
  rw [n] at e; cases e
theorem Amb.ext {W : Wd} {S : List Addr} {H H' : Hp} (h : Amb W S H) (e : Ext W H H') : Amb W S H' := ⟨e.ok, h.rg, fun a ha => by
  by_cases c : a ∈ W.rg
  · exact .inl c
  · rcases h.tr a ha with z | ⟨o, h1, h2⟩
    · exact .inl z
    · exact .inr ⟨o, e.keep a o c h1 h2, h2⟩⟩
theorem Amb.hid {W : Wd} {S : List Addr} {H H' : Hp} (h : Amb W S H) (e : Ext W H H') : ExN (hide S H) (hide S H') := e.hide h.rg
theorem EnvOk.amb {K : PySem.W.Frag} {W : Wd} {M : List Addr} {δ : De} {σ : L2.St} {H : Hp} (h : EnvOk K W M δ σ H) : Amb W (hidA W M δ σ) H := ⟨h.w, fun a ha => by simp [hidA, ha], fun a ha => by
  simp only [hidA, List.mem_append] at ha
  rcases ha with (ha | ha) | ha
  · exact .inl ha
  · exact .inr (h.m a ha).2
  · refine .inr ?_
    have go : ∀ (δ : De) (σ : L2.St) (S : List Addr), SlotsOk K W.dr S H δ σ → a ∈ ownA δ σ → ∃ o, H a = some o ∧ ∀ ps, o ≠ .tbl ps := by
      intro δ
      induction δ with
      | nil => intro σ S _ hm; simp [ownA] at hm
      | cons s δ ih =>
        intro σ S hs hm
        cases σ with
        | nil => exact hs.elim
        | cons o σ =>
          rcases ownA_cons.mp hm with hm | hm
          · cases s with
            | un => simp [ownA] at hm
            | im d => simp [ownA] at hm
            | ow l =>
              obtain ⟨b, xs, rfl, h2, h3⟩ := hs.1
              simp [ownA] at hm
              subst hm
              exact ⟨_, h2, fun _ z => by cases z⟩
            | oi p C fs ds =>
              obtain ⟨b, dx, xs, rfl, h2, h3⟩ := hs.1
              simp [ownA] at hm
              subst hm
              exact ⟨_, h2, fun _ z => by cases z⟩
          · exact ih σ S hs.2 hm
    exact go δ σ _ h.sl ha⟩
/-- a new object that bears a datum -/
theorem rep_new {K : PySem.W.Frag} {W : Wd} {S : List Addr} {H : Hp} (h : Amb W S H) {p : Addr} (n : H p = none) {o : HO} : hide S (upd H p o) p = some o := hide_of (h.new n) upd_same
theorem rep_tup {K : PySem.W.Frag} {W : Wd} {S : List Addr} {H : Hp} {ds : List D} {xs : List V} (h : Amb W S H) {p : Addr} (n : H p = none) (r : RepL K W.dr (hide S H) ds xs) : Rep K W.dr (hide S (upd H p (.tup xs))) (.tup ds) (.ref p) :=
  ⟨p, xs, rfl, SqT.of (hide_of (h.new n) upd_same), r.mono (h.hid (Ext.new h.w n))⟩
theorem rep_lst {K : PySem.W.Frag} {W : Wd} {S : List Addr} {H : Hp} {ds : List D} {xs : List V} (h : Amb W S H) {p : Addr} (n : H p = none) (r : RepL K W.dr (hide S H) ds xs) : Rep K W.dr (hide S (upd H p (.lst xs))) (.lst ds) (.ref p) :=
  ⟨p, xs, rfl, hide_of (h.new n) upd_same, r.mono (h.hid (Ext.new h.w n))⟩
theorem hide_SqT {K : PySem.W.Frag} {S : List Addr} {H : Hp} {a : Addr} {xs : List V} (h : SqT K (hide S H) a xs) : SqT K H a xs := ExN.seqT hide_sub h
theorem hide_lst {S : List Addr} {H : Hp} {a : Addr} {o : HO} (h : hide S H a = some o) : H a = some o := (hide_some h).2

/-! ### operators by data -/
def OpD (X : Cx) (f : Value → Value → Sem Value) (g : D → D → KD → Prop) : Prop :=
  ∃ r, OpR X f r ∧ ∀ (W : Wd) (S : List Addr) (H : Hp) (x y : V) (d e : D) (Kp : KD) (Q : VK), Amb W S H → Rep X.K W.dr (hide S H) d x → Rep X.K W.dr (hide S H) e y → g d e Kp →
    (∀ v H' d', Ext W H H' → Rep X.K W.dr (hide S H') d' v → Kp d' → Q v H') → r x y H Q
section
variable {X : Cx} {W : Wd} {M : List Addr} {wx : WX} {δ : De} {e a b c : Expr} {es : List Expr} {Kp : KD} {Kb : Bool → Prop} {Ke : KX} {pos : Pos} {g g' : D → D → KD → Prop}
theorem dx_name (i : Nat) {x : Str} {d : D} (hN : X.N[i]? = some x) (hv : Vis X.env.scope x) (hd : δ[i]? = some (.im d)) (k : Kp d)
    (hdb : (x == ("__debug__" : Str)) = false := by decide) (hcd : (x == ("__classdict__" : Str)) = false := by decide) : DE X W M wx δ (.Name x pos) Kp Ke :=
  PE.imp (pe_var hN hv hdb hcd) fun σ H Q ⟨env, q, _⟩ => by
    obtain ⟨v, e, r⟩ := env.get hd
    exact ⟨v, e, q v H d (Ext.refl env.w) r k⟩
theorem dx_int {i : Int} {j} (k : Kp (.int i)) : DE X W M wx δ (.Constant (.int i) j pos) Kp Ke := PE.imp pe_int fun σ H Q ⟨env, q, _⟩ => q _ H (.int i) (Ext.refl env.w) rfl k
theorem dx_bl {i : Bool} {j} (k : Kp (.bl i)) : DE X W M wx δ (.Constant (.bool i) j pos) Kp Ke := PE.imp pe_bl fun σ H Q ⟨env, q, _⟩ => q _ H (.bl i) (Ext.refl env.w) rfl k
theorem dx_non {j} (k : Kp .non) : DE X W M wx δ (.Constant .none j pos) Kp Ke := PE.imp pe_non fun σ H Q ⟨env, q, _⟩ => q _ H .non (Ext.refl env.w) rfl k
theorem dx_str {x : Str} {j} (k : Kp (.str x)) : DE X W M wx δ (.Constant (.str x) j pos) Kp Ke := PE.imp pe_str fun σ H Q ⟨env, q, _⟩ => q _ H (.str x) (Ext.refl env.w) rfl k
/-- a constant of the module -/
theorem dx_glob {x : Str} {v : V} {u : Value} {d : D} (hg : Gl X x) (hm : X.mg x = some u) (r : RelV v u) (hr : ∀ H, Rep X.K none H d v) (hr2 : ∀ dr H, Rep X.K none H d v → Rep X.K dr H d v) (k : Kp d) (hdb : (x == ("__debug__" : Str)) = false := by decide) :
    DE X W M wx δ (.Name x pos) Kp Ke := PE.imp (pe_glob hg hm r hdb) fun σ H Q ⟨env, q, _⟩ => q v H d (Ext.refl env.w) (hr2 _ _ (hr _)) k

theorem dx_op {op : Operator} (ho : OpD X (binaryOp op) g) (h : DE X W M wx δ a (fun d1 => DE X W M wx δ b (fun d2 => g d1 d2 Kp) Ke) Ke) : DE X W M wx δ (.BinOp a op b pos) Kp Ke := by
  obtain ⟨r, hr, hD⟩ := ho
  refine PE.imp (pe_op hr pe_any pe_any) fun σ H Q ⟨env, q, qx⟩ => ?_
  refine h.run env (fun x H1 d1 e1 r1 hb => ?_) qx
  refine hb.run (env.ext e1) (fun y H2 d2 e2 r2 hg => ?_) fun x cls dd H' e => qx x cls dd H' (e1.trans e)
  exact hD W _ H2 x y d1 d2 Kp Q (env.ext (e1.trans e2)).amb (r1.mono ((env.ext e1).amb.hid e2)) r2 hg fun v H' d' e3 r3 k => q v H' d' ((e1.trans e2).trans e3) r3 k
theorem dx_cmp {op : CmpOp} (ho : OpD X (compareOp op) g) (hm : behindInMarks op b = false) (h : DE X W M wx δ a (fun d1 => DE X W M wx δ b (fun d2 => g d1 d2 Kp) Ke) Ke) : DE X W M wx δ (.Compare a [op] [b] pos) Kp Ke := by
  obtain ⟨r, hr, hD⟩ := ho
  refine PE.imp (pe_cmpR hr pe_any pe_any hm) fun σ H Q ⟨env, q, qx⟩ => ?_
  refine h.run env (fun x H1 d1 e1 r1 hb => ?_) qx
  refine hb.run (env.ext e1) (fun y H2 d2 e2 r2 hg => ?_) fun x cls dd H' e => qx x cls dd H' (e1.trans e)
  exact hD W _ H2 x y d1 d2 Kp Q (env.ext (e1.trans e2)).amb (r1.mono ((env.ext e1).amb.hid e2)) r2 hg fun v H' d' e3 r3 k => q v H' d' ((e1.trans e2).trans e3) r3 k
/-- a truth value asked -/
def asB (Kb : Bool → Prop) : KD
  | .bl b => Kb b
  | _ => False
theorem asB_ex {d : D} (h : asB Kb d) : ∃ b, d = .bl b ∧ Kb b := by
  cases d <;> first | exact ⟨_, rfl, h⟩ | exact h.elim
theorem dt_cmp {op : CmpOp} (ho : OpD X (compareOp op) g) (hm : behindInMarks op b = false) (h : DE X W M wx δ a (fun d1 => DE X W M wx δ b (fun d2 => g d1 d2 (asB Kb)) Ke) Ke) : DT X W M wx δ (.Compare a [op] [b] pos) Kb Ke := by
  obtain ⟨r, hr, hD⟩ := ho
  refine PT.imp (pt_cmpR hr pe_any pe_any hm) fun σ H Q ⟨env, q, qx⟩ => ?_
  refine h.run env (fun x H1 d1 e1 r1 hb => ?_) qx
  refine hb.run (env.ext e1) (fun y H2 d2 e2 r2 hg => ?_) fun x cls dd H' e => qx x cls dd H' (e1.trans e)
  refine hD W _ H2 x y d1 d2 _ _ (env.ext (e1.trans e2)).amb (r1.mono ((env.ext e1).amb.hid e2)) r2 hg fun v H' d' e3 r3 k => ?_
  obtain ⟨k', rfl, kb⟩ := asB_ex k
  exact ⟨k', r3, q k' H' ((e1.trans e2).trans e3) kb⟩
/-- a < b < c -/
theorem dx_chain {op op' : CmpOp} (ho : OpD X (compareOp op) g) (ho' : OpD X (compareOp op') g') (hm : lastMarks [op, op'] [b, c] = false)
    (h : DE X W M wx δ a (fun d1 => DE X W M wx δ b (fun d2 => g d1 d2 (asB fun k => (k = true → DE X W M wx δ c (fun d3 => g' d2 d3 Kp) Ke) ∧ (k = false → Kp (.bl false)))) Ke) Ke) : DE X W M wx δ (.Compare a [op, op'] [b, c] pos) Kp Ke := by
  obtain ⟨r, hr, hD⟩ := ho
  obtain ⟨r', hr', hD'⟩ := ho'
  refine PE.imp (pe_chain hr hr' pe_any pe_any pe_any hm) fun σ H Q ⟨env, q, qx⟩ => ?_
  refine h.run env (fun x H1 d1 e1 r1 hb => ?_) qx
  refine hb.run (env.ext e1) (fun y H2 d2 e2 r2 hg => ?_) fun x cls dd H' e => qx x cls dd H' (e1.trans e)
  refine hD W _ H2 x y d1 d2 _ _ (env.ext (e1.trans e2)).amb (r1.mono ((env.ext e1).amb.hid e2)) r2 hg fun v H' d' e3 r3 k => ?_
  obtain ⟨k', rfl, k1, k2⟩ := asB_ex k
  refine ⟨k', r3, ?_⟩
  have e4 := (e1.trans e2).trans e3
  cases k' with
  | false => exact q _ H' (.bl false) e4 rfl (k2 rfl)
  | true =>
    rw [if_pos rfl]
    refine (k1 rfl).run (env.ext e4) (fun z H4 d3 e5 r5 hg' => ?_) fun x cls dd H' e => qx x cls dd H' (e4.trans e)
    exact hD' W _ H4 y z d2 d3 Kp Q (env.ext (e4.trans e5)).amb (r2.mono ((env.ext (e1.trans e2)).amb.hid (e3.trans e5))) r5 hg' fun v H' d' e6 r6 k => q v H' d' ((e4.trans e5).trans e6) r6 k
theorem dt_chain {op op' : CmpOp} (ho : OpD X (compareOp op) g) (ho' : OpD X (compareOp op') g') (hm : lastMarks [op, op'] [b, c] = false)
    (h : DE X W M wx δ a (fun d1 => DE X W M wx δ b (fun d2 => g d1 d2 (asB fun k => (k = true → DE X W M wx δ c (fun d3 => g' d2 d3 (asB Kb)) Ke) ∧ (k = false → Kb false))) Ke) Ke) : DT X W M wx δ (.Compare a [op, op'] [b, c] pos) Kb Ke := by
  obtain ⟨r, hr, hD⟩ := ho
  obtain ⟨r', hr', hD'⟩ := ho'
  refine PT.imp (pt_chain hr hr' pe_any pe_any pe_any hm) fun σ H Q ⟨env, q, qx⟩ => ?_
  refine h.run env (fun x H1 d1 e1 r1 hb => ?_) qx
  refine hb.run (env.ext e1) (fun y H2 d2 e2 r2 hg => ?_) fun x cls dd H' e => qx x cls dd H' (e1.trans e)
  refine hD W _ H2 x y d1 d2 _ _ (env.ext (e1.trans e2)).amb (r1.mono ((env.ext e1).amb.hid e2)) r2 hg fun v H' d' e3 r3 k => ?_
  obtain ⟨k', rfl, k1, k2⟩ := asB_ex k
  refine ⟨k', r3, ?_⟩
  have e4 := (e1.trans e2).trans e3
  cases k' with
  | false => exact ⟨false, rfl, q _ H' e4 (k2 rfl)⟩
  | true =>
    rw [if_pos rfl]
    refine (k1 rfl).run (env.ext e4) (fun z H4 d3 e5 r5 hg' => ?_) fun x cls dd H' e => qx x cls dd H' (e4.trans e)
    refine hD' W _ H4 y z d2 d3 _ _ (env.ext (e4.trans e5)).amb (r2.mono ((env.ext (e1.trans e2)).amb.hid (e3.trans e5))) r5 hg' fun v H' d' e6 r6 k => ?_
    obtain ⟨k', rfl, kb⟩ := asB_ex k
    exact ⟨k', r6, q k' H' ((e4.trans e5).trans e6) kb⟩
/-! ### and, or, not, if -/
theorem dx_one {op} (h : DE X W M wx δ a Kp Ke) : DE X W M wx δ (.BoolOp op [a] pos) Kp Ke := pe_one h
theorem dx_and {rest : List Expr} (h : DE X W M wx δ a (asB fun k => (k = true → DE X W M wx δ (.BoolOp .And (b :: rest) pos) Kp Ke) ∧ (k = false → Kp (.bl false))) Ke) : DE X W M wx δ (.BoolOp .And (a :: b :: rest) pos) Kp Ke :=
  PE.imp (pe_and pe_any pe_any) fun σ H Q ⟨env, q, qx⟩ => h.run env (fun x H1 d1 e1 r1 k => by
    obtain ⟨k', rfl, k1, k2⟩ := asB_ex k
    refine ⟨k', r1, ?_⟩
    cases k' with
    | true => exact (k1 rfl).run (env.ext e1) (fun v H' d e r k => q v H' d (e1.trans e) r k) fun x cls dd H' e => qx x cls dd H' (e1.trans e)
    | false => exact q _ H1 (.bl false) e1 rfl (k2 rfl)) qx
theorem dx_or {rest : List Expr} (h : DE X W M wx δ a (asB fun k => (k = true → Kp (.bl true)) ∧ (k = false → DE X W M wx δ (.BoolOp .Or (b :: rest) pos) Kp Ke)) Ke) : DE X W M wx δ (.BoolOp .Or (a :: b :: rest) pos) Kp Ke :=
  PE.imp (pe_or pe_any pe_any) fun σ H Q ⟨env, q, qx⟩ => h.run env (fun x H1 d1 e1 r1 k => by
    obtain ⟨k', rfl, k1, k2⟩ := asB_ex k
    refine ⟨k', r1, ?_⟩
    cases k' with
    | false => exact (k2 rfl).run (env.ext e1) (fun v H' d e r k => q v H' d (e1.trans e) r k) fun x cls dd H' e => qx x cls dd H' (e1.trans e)
    | true => exact q _ H1 (.bl true) e1 rfl (k1 rfl)) qx
theorem dx_not (h : DE X W M wx δ a (asB fun k => Kp (.bl (!k))) Ke) : DE X W M wx δ (.UnaryOp .Not a pos) Kp Ke :=
  PE.imp (pe_not pe_any) fun σ H Q ⟨env, q, qx⟩ => h.run env (fun x H1 d1 e1 r1 k => by
    obtain ⟨k', rfl, k1⟩ := asB_ex k
    exact ⟨k', r1, q _ H1 (.bl (!k')) e1 rfl k1⟩) qx
theorem DT.run {σ : L2.St} {H : Hp} {Q : Bool → Hp → Prop} (h : DT X W M wx δ e Kb Ke) (env : EnvOk X.K W M δ σ H) (q : ∀ b H', Ext W H H' → Kb b → Q b H')
    (qx : ∀ x cls dd H', Ext W H H' → XOk X.K W.dr (hide (hidA W M δ σ) H') x cls dd → Ke x → wx cls dd σ H') : ttAny X e σ H Q := ⟨_, h, env, q, qx⟩
theorem DT.weak {Kb' : Bool → Prop} (h : DT X W M wx δ e Kb Ke) (k : ∀ b, Kb b → Kb' b) : DT X W M wx δ e Kb' Ke :=
  PT.imp h fun σ H Q ⟨e1, q, qx⟩ => ⟨e1, fun b H' x p => q b H' x (k b p), qx⟩
/-- the truth of a datum -/
def truB : D → Option Bool
  | .non => some false
  | .bl b => some b
  | .int i => some (i != 0)
  | .tup l => some (!l.isEmpty)
  | .lst l => some (!l.isEmpty)
  | _ => none
theorem tru_of {K : PySem.W.Frag} {dr : Option Dr} {H : Hp} {d : D} {v : V} {k : Bool} {S : List Addr} (r : Rep K dr (hide S H) d v) (h : truB d = some k) : TruV K v H k := by
  cases d with
  | non => cases r; cases h; rfl
  | bl b => cases r; cases h; rfl
  | int i => cases r; cases h; rfl
  | str x => cases h
  | tup l =>
    obtain ⟨a, xs, rfl, h1, h2⟩ := r
    cases h
    refine .inr (.inl ⟨xs, hide_SqT h1, ?_⟩)
    have := h2.length
    cases l <;> cases xs <;> simp at this ⊢
  | lst l =>
    obtain ⟨a, xs, rfl, h1, h2⟩ := r
    cases h
    refine .inl ⟨xs, SqL.of (hide_lst h1), ?_⟩
    have := h2.length
    cases l <;> cases xs <;> simp at this ⊢
  | _ => cases h
/-- an expression's truth -/
def tru (Kb : Bool → Prop) : KD := fun d => ∃ k, truB d = some k ∧ Kb k
theorem dt_val (he : ∀ whole, isTrue e X.env whole = (do let v ← whole; standAt e.pos; holding [v] (truthy v))) (h : DE X W M wx δ e (tru Kb) Ke) : DT X W M wx δ e Kb Ke :=
  PT.imp (pt_truth pe_any he) fun σ H Q ⟨env, q, qx⟩ => h.run env (fun x H1 d1 e1 r1 ⟨k, hk, kb⟩ => ⟨k, tru_of r1 hk, q k H1 e1 kb⟩) qx
theorem dt_not (h : DT X W M wx δ a (fun k => Kb (!k)) Ke) : DT X W M wx δ (.UnaryOp .Not a pos) Kb Ke :=
  PT.imp (pt_not pt_any) fun σ H Q ⟨env, q, qx⟩ => h.run env (fun b H' e k => q (!b) H' e k) qx
/-- chains of and, or -/
def DW (X : Cx) (W : Wd) (M : List Addr) (wx : WX) (δ : De) (e : Expr) (Kb : Bool → Prop) (Ke : KX) : Prop := PW X e (tT X.K W M wx δ Kb Ke)
theorem DW.run {σ : L2.St} {H : Hp} {Q : Bool → Hp → Prop} (h : DW X W M wx δ e Kb Ke) (env : EnvOk X.K W M δ σ H) (q : ∀ b H', Ext W H H' → Kb b → Q b H')
    (qx : ∀ x cls dd H', Ext W H H' → XOk X.K W.dr (hide (hidA W M δ σ) H') x cls dd → Ke x → wx cls dd σ H') : twAny X e σ H Q := ⟨_, h, env, q, qx⟩
theorem PW.imp {t t' : TT} (h : PW X e t) (k : ∀ σ H Q, t' σ H Q → t σ H Q) : PW X e t' := ⟨fun wh pins s σ H Q I q => h.run wh pins s σ H Q I (k σ H Q q)⟩
theorem dw_and1 (h : DT X W M wx δ a Kb Ke) : DW X W M wx δ (.BoolOp .And [a] pos) Kb Ke := pw_and1 h
theorem dw_or1 (h : DT X W M wx δ a Kb Ke) : DW X W M wx δ (.BoolOp .Or [a] pos) Kb Ke := pw_or1 h
theorem dw_and {rest : List Expr} (h : DT X W M wx δ a (fun k => (k = true → DW X W M wx δ (.BoolOp .And (b :: rest) pos) Kb Ke) ∧ (k = false → Kb false)) Ke) : DW X W M wx δ (.BoolOp .And (a :: b :: rest) pos) Kb Ke :=
  PW.imp (pw_and pt_any pw_any) fun σ H Q ⟨env, q, qx⟩ => h.run env (fun k H1 e1 ⟨k1, k2⟩ => by
    cases k with
    | true => exact (k1 rfl).run (env.ext e1) (fun b H' e k => q b H' (e1.trans e) k) fun x cls dd H' e => qx x cls dd H' (e1.trans e)
    | false => exact q _ H1 e1 (k2 rfl)) qx
theorem dw_or {rest : List Expr} (h : DT X W M wx δ a (fun k => (k = true → Kb true) ∧ (k = false → DW X W M wx δ (.BoolOp .Or (b :: rest) pos) Kb Ke)) Ke) : DW X W M wx δ (.BoolOp .Or (a :: b :: rest) pos) Kb Ke :=
  PW.imp (pw_or pt_any pw_any) fun σ H Q ⟨env, q, qx⟩ => h.run env (fun k H1 e1 ⟨k1, k2⟩ => by
    cases k with
    | false => exact (k2 rfl).run (env.ext e1) (fun b H' e k => q b H' (e1.trans e) k) fun x cls dd H' e => qx x cls dd H' (e1.trans e)
    | true => exact q _ H1 e1 (k1 rfl)) qx
theorem dt_w (h : DW X W M wx δ e Kb Ke) : DT X W M wx δ e Kb Ke := PW.pt h
theorem dx_if {t : Expr} (h : DT X W M wx δ t (fun k => (k = true → DE X W M wx δ a Kp Ke) ∧ (k = false → DE X W M wx δ b Kp Ke)) Ke) : DE X W M wx δ (.IfExp t a b pos) Kp Ke :=
  PE.imp (pe_ifExp pt_any pe_any pe_any) fun σ H Q ⟨env, q, qx⟩ => h.run env (fun k H1 e1 ⟨k1, k2⟩ => by
    cases k with
    | true => exact (k1 rfl).run (env.ext e1) (fun v H' d e r k => q v H' d (e1.trans e) r k) fun x cls dd H' e => qx x cls dd H' (e1.trans e)
    | false => exact (k2 rfl).run (env.ext e1) (fun v H' d e r k => q v H' d (e1.trans e) r k) fun x cls dd H' e => qx x cls dd H' (e1.trans e)) qx
/-! ### arguments, displays -/
variable {KL : List D → Prop}
theorem DA.run {σ : L2.St} {H : Hp} {Q : List V → Hp → Prop} (h : DA X W M wx δ es KL Ke) (env : EnvOk X.K W M δ σ H) (q : ∀ vs H' ds, Ext W H H' → RepL X.K W.dr (hide (hidA W M δ σ) H') ds vs → KL ds → Q vs H')
    (qx : ∀ x cls dd H', Ext W H H' → XOk X.K W.dr (hide (hidA W M δ σ) H') x cls dd → Ke x → wx cls dd σ H') : taAny X es σ H Q := ⟨_, h, env, q, qx⟩
theorem da_nil (k : KL []) : DA X W M wx δ [] KL Ke := PA.imp pa_nil fun σ H Q ⟨env, q, qx⟩ => q [] H [] (Ext.refl env.w) .nil k
theorem da_cons (h : DE X W M wx δ e (fun d => DA X W M wx δ es (fun ds => KL (d :: ds)) Ke) Ke) (hs : starEach (e :: es) X.env = (false, eval e X.env) :: starEach es X.env := by rfl) : DA X W M wx δ (e :: es) KL Ke :=
  PA.imp (pa_cons pe_any pa_any hs) fun σ H Q ⟨env, q, qx⟩ => h.run env (fun x H1 d1 e1 r1 ha =>
    ha.run (env.ext e1) (fun vs H2 ds e2 r2 k => q (x :: vs) H2 (d1 :: ds) (e1.trans e2) (.cons (r1.mono ((env.ext e1).amb.hid e2)) r2) k) fun x cls dd H' e => qx x cls dd H' (e1.trans e)) qx
theorem dx_tup {k1} (h : DA X W M wx δ es (fun ds => ds.length ≤ 16777216 ∧ Kp (.tup ds)) Ke) : DE X W M wx δ (.Tuple es k1 pos) Kp Ke :=
  PE.imp (pe_tup pa_any) fun σ H Q ⟨env, q, qx⟩ => h.run env (fun vs H1 ds e1 r1 ⟨hl, k⟩ => by
    refine ⟨by rw [← r1.length, sizeLine_eq]; exact hl, fun p hp => ?_⟩
    have am := (env.ext e1).amb
    exact q _ _ (.tup ds) (e1.trans (Ext.new am.w hp)) (rep_tup am hp r1) k) qx
theorem dx_lst (h : DA X W M wx δ es (fun ds => ds.length ≤ 16777216 ∧ Kp (.lst ds)) Ke) : DE X W M wx δ (.List es pos) Kp Ke :=
  PE.imp (pe_lst pa_any) fun σ H Q ⟨env, q, qx⟩ => h.run env (fun vs H1 ds e1 r1 ⟨hl, k⟩ => by
    refine ⟨by rw [← r1.length, sizeLine_eq]; exact hl, fun p hp => ?_⟩
    have am := (env.ext e1).amb
    exact q _ _ (.lst ds) (e1.trans (Ext.new am.w hp)) (rep_lst am hp r1) k) qx
end

/-! ### the operators -/
section
variable {X : Cx}
def gAdd : D → D → KD → Prop
  | .int i, .int j, k => k (.int (i + j))
  | .lst l, .lst m, k => l.length + m.length ≤ 16777216 ∧ k (.lst (l ++ m))
  | .tup l, .tup m, k => l.length + m.length ≤ 16777216 ∧ k (.tup (l ++ m))
  | .str x, .str y, k => x.length + y.length ≤ 16777216 ∧ k (.str (x ++ y))
  | _, _, _ => False
theorem od_add : OpD X (binaryOp .Add) gAdd := by
  refine ⟨_, OpR.or op_add (OpR.or op_cat (OpR.or op_catA op_add_str)), fun W S H x y d e Kp Q am rx ry g q => ?_⟩
  cases d <;> cases e <;> first | exact g.elim | skip
  · cases rx; cases ry
    exact .inl ⟨_, _, rfl, rfl, q _ H (.int _) (Ext.refl am.w) rfl g⟩
  · cases rx; cases ry
    exact .inr (.inr (.inr ⟨_, _, rfl, rfl, by rw [sizeLine_eq]; exact g.1, q _ H (.str _) (Ext.refl am.w) rfl g.2⟩))
  · obtain ⟨a, xs, rfl, h1, h2⟩ := rx
    obtain ⟨b, ys, rfl, h3, h4⟩ := ry
    refine .inr (.inr (.inl ⟨a, b, xs, ys, rfl, rfl, hide_SqT h1, hide_SqT h3, by rw [sizeLine_eq, ← h2.length, ← h4.length]; exact g.1, fun hx => ?_, fun hx hy => ?_, fun hx hy p hp => ?_⟩))
    · subst hx
      have e0 := h2.length
      rename_i l m
      cases l with
      | nil => exact q _ H (.tup m) (Ext.refl am.w) ⟨b, ys, rfl, h3, h4⟩ g.2
      | cons _ _ => simp at e0
    · subst hy
      have e0 := h4.length
      rename_i l m
      cases m with
      | nil =>
        have g2 := g.2
        rw [List.append_nil] at g2
        exact q _ H (.tup l) (Ext.refl am.w) ⟨a, xs, rfl, h1, h2⟩ g2
      | cons _ _ => simp at e0
    · exact q _ _ _ (Ext.new am.w hp) (rep_tup am hp (h2.append h4)) g.2
  · obtain ⟨a, xs, rfl, h1, h2⟩ := rx
    obtain ⟨b, ys, rfl, h3, h4⟩ := ry
    exact .inr (.inl ⟨a, b, xs, ys, rfl, rfl, hide_lst h1, hide_lst h3, by rw [sizeLine_eq, ← h2.length, ← h4.length]; exact g.1, fun p hp => q _ _ _ (Ext.new am.w hp) (rep_lst am hp (h2.append h4)) g.2⟩)
def gI2 (C : Int → Int → Prop) (f : Int → Int → D) : D → D → KD → Prop
  | .int i, .int j, k => C i j ∧ k (f i j)
  | _, _, _ => False
theorem od_int {f : Value → Value → Sem Value} {C : Int → Int → Prop} {gi : Int → Int → Int} (ho : OpR X f (rI C fun i j => .int (gi i j))) : OpD X f (gI2 C fun i j => .int (gi i j)) := by
  refine ⟨_, ho, fun W S H x y d e Kp Q am rx ry g q => ?_⟩
  cases d <;> cases e <;> first | exact g.elim | skip
  cases rx; cases ry
  exact ⟨_, _, rfl, rfl, g.1, q _ H (.int _) (Ext.refl am.w) rfl g.2⟩
def gSub : D → D → KD → Prop
  | .int i, .int j, k => k (.int (i - j))
  | _, _, _ => False
theorem od_sub : OpD X (binaryOp .Sub) gSub := by
  refine ⟨_, op_sub, fun W S H x y d e Kp Q am rx ry g q => ?_⟩
  cases d <;> cases e <;> first | exact g.elim | skip
  cases rx; cases ry
  exact ⟨_, _, rfl, rfl, q _ H (.int _) (Ext.refl am.w) rfl g⟩
/-- what a product of two numbers asks -/
def CMulD (i j : Int) : Prop := CMul i j ∨ CMulW i j
theorem op_mulD : OpR X (binaryOp .Mult) (rI CMulD fun i j => .int (i * j)) := by
  intro pins s σ H x y v u Q I rx ry h
  obtain ⟨i, j, rfl, rfl, hc, q⟩ := h
  rcases hc with hc | hc
  · exact op_mul pins s σ H _ _ v u Q I rx ry ⟨i, j, rfl, rfl, hc, q⟩
  · exact op_mulW pins s σ H _ _ v u Q I rx ry ⟨i, j, rfl, rfl, hc, q⟩
/-- t * 1 is t -/
theorem tup_mul_one (l : Addr) (items : Array Value) (n : Nat) (dd : Option Addr) (sl : Array (Option Value)) (u : Tok) :
    Meets (Builtin.«tuple.__mul__» ⟨[.ref l, .int 1 u], []⟩) (fun _ R s => s.heap.get? l = some { cls := .type "tuple", dict := dd, data := .seq items n, slots := sl } ∧ R (.ok (.ret (Value.ref l))) s) :=
  .of_wp fun prog w A R s h => by
    obtain ⟨hp, g, d, tk, os⟩ := s; obtain ⟨hl, h⟩ := h; have f1 := AutoSeq1.idx_int
    have c1 : (items.isEmpty || (1 : Int) == 1) = true := by simp
    wp_walk using wpAny_loadPart' hl
    exact ⟨_, rfl, h⟩
theorem op_rep1 : OpR X (binaryOp .Mult) (fun x y H Q => ∃ l xs, x = .ref l ∧ y = .int 1 ∧ SqT X.K H l xs ∧ Q (.ref l) H) := by
  intro pins s σ H x y v u Q I rx ry h; obtain ⟨l, xs, rfl, rfl, hT, q⟩ := h; cases rx; obtain ⟨t, rfl⟩ := ry
  obtain ⟨its, r, ⟨⟨cls, dd, data, sl⟩, ho, hc, n, hd⟩, hs⟩ := I.tuple hT
  simp only at hc hd; subst hc hd
  exact wpAny_binaryOp_repeat_ref (T := "tuple") (U := "int") (by decide) ⟨_, ho, rfl⟩ (fun s' => typeIs_int s' 1 t) noFill_tuple_mul F.fills_int_mul F.slot_int_rmul repeat_tuple F.slot_int_index.lookup
    (call_meets F.slot_int_rmul (typeIs_int s 1 t) F.entry_int_rmul (F.args_int_rmul_2 _ _) (int_rmul_tuple 1 t l its.toArray n dd sl) ⟨ho, rfl, ⟨_, ho, rfl⟩, call_meets F.slot_tuple_mul ⟨_, ho, rfl⟩ F.entry_tuple_mul (F.args_tuple_mul_2 _ _) (tup_mul_one l its.toArray n dd sl t) ⟨ho, ⟨.ref l, H, I, rfl, q⟩⟩⟩)
def gMul : D → D → KD → Prop
  | .int i, .int j, k => CMulD i j ∧ k (.int (i * j))
  | .lst l, .int j, k => j < 2 ^ 63 ∧ -(2 ^ 63) ≤ j ∧ l.length * j.toNat ≤ 16777216 ∧ k (.lst (List.replicate j.toNat l).flatten)
  | .tup l, .int j, k => l ≠ [] ∧ 1 ≤ j ∧ j ≤ 1000 ∧ l.length ≤ 1000 ∧ k (.tup (List.replicate j.toNat l).flatten)
  | _, _, _ => False
theorem od_mul : OpD X (binaryOp .Mult) gMul := by
  refine ⟨_, OpR.or op_mulD (OpR.or op_rep (OpR.or op_repT op_rep1)), fun W S H x y d e Kp Q am rx ry g q => ?_⟩
  cases d <;> cases e <;> first | exact g.elim | skip
  · cases rx; cases ry
    exact .inl ⟨_, _, rfl, rfl, g.1, q _ H (.int _) (Ext.refl am.w) rfl g.2⟩
  · obtain ⟨a, xs, rfl, h1, h2⟩ := rx
    cases ry
    obtain ⟨g1, g2, g3, g4, g5⟩ := g
    rename_i l j
    have hne : xs ≠ [] := fun z => by
      subst z
      have := h2.length
      cases l with
      | nil => exact g1 rfl
      | cons _ _ => simp at this
    by_cases c : j = 1
    · subst c
      have e1 : (List.replicate (1 : Int).toNat l).flatten = l := by simp
      rw [e1] at g5
      exact .inr (.inr (.inr ⟨a, xs, rfl, rfl, hide_SqT h1, q _ H (.tup l) (Ext.refl am.w) ⟨a, xs, rfl, h1, h2⟩ g5⟩))
    · exact .inr (.inr (.inl ⟨a, j, xs, rfl, rfl, hide_SqT h1, hne, by omega, g3, by rw [← h2.length]; exact g4, fun p hp => q _ _ _ (Ext.new am.w hp) (rep_tup am hp (h2.flatten _)) g5⟩))
  · obtain ⟨a, xs, rfl, h1, h2⟩ := rx
    cases ry
    obtain ⟨g1, g2, g3, g4⟩ := g
    exact .inr (.inl ⟨a, _, xs, rfl, rfl, hide_lst h1, g2, g1, by rw [sizeLine_eq, ← h2.length]; exact g3, fun p hp => q _ _ _ (Ext.new am.w hp) (rep_lst am hp (h2.flatten _)) g4⟩)
/-- a // b, b above nought, below 2 ^ 9000 -/
theorem od_fdiv : OpD X (binaryOp .FloorDiv) (gI2 CDivW fun i j => .int (i / j)) := od_int op_fdivW
theorem od_mod : OpD X (binaryOp .Mod) (gI2 (fun _ j => 0 < j) fun i j => .int (i % j)) := od_int op_mod
/-- what a power asks -/
def CPowD (i j : Int) : Prop := 0 ≤ j ∧ (Builtin.Int.intBits i : Int) * j ≤ 2 ^ 27
theorem op_powD : OpR X (binaryOp .Pow) (rI CPowD fun i j => .int (i ^ j.toNat)) := opI fun _ _ _ _ _ _ _ hc q => pow_int hc.1 hc.2 q
theorem od_pow : OpD X (binaryOp .Pow) (gI2 CPowD fun i j => .int (i ^ j.toNat)) := od_int op_powD
end
end Lay

/-! # DS3: comparisons of data, items, built-in functions, isinstance, calls of defs -/
namespace Lay
open PySem PySem.Spec PyProof.Rows L2

/-! ### == -/
mutual
def py : D → Option PyData
  | .non => some .none
  | .bl b => some (.bool b)
  | .int i => some (.int i)
  | .str x => some (.str x)
  | .tup l => match pyL l with | some ps => some (.tuple ps) | none => none
  | .lst l => match pyL l with | some ps => some (.list ps) | none => none
  | _ => none
def pyL : List D → Option (List PyData)
  | [] => some []
  | d :: ds => match py d, pyL ds with | some p, some ps => some (p :: ps) | _, _ => none
end
mutual
theorem dp_of {K : PySem.W.Frag} {dr : Option Dr} {H : Hp} {S : List Addr} : ∀ (d : D) (v : V) (p : PyData), Rep K dr (hide S H) d v → py d = some p → Dp K H v p
  | .non, _, _, r, e => by cases r; cases e; exact .non
  | .bl b, _, _, r, e => by cases r; cases e; exact .bl b
  | .int i, _, _, r, e => by cases r; cases e; exact .int i
  | .str x, _, _, r, e => by cases r; cases e; exact .str x
  | .tup l, _, p, r, e => by
    obtain ⟨a, xs, rfl, h1, h2⟩ := r
    unfold py at e
    cases q : pyL l with
    | none => rw [q] at e; cases e
    | some ps =>
      rw [q] at e; cases e
      exact .tup (hide_SqT h1) (dpL_of l xs ps h2 q)
  | .lst l, _, p, r, e => by
    obtain ⟨a, xs, rfl, h1, h2⟩ := r
    unfold py at e
    cases q : pyL l with
    | none => rw [q] at e; cases e
    | some ps =>
      rw [q] at e; cases e
      exact .lst (SqL.of (hide_lst h1)) (dpL_of l xs ps h2 q)
  | .dic _ _, _, _, _, e => by cases e
  | .ins _ _ _, _, _, _, e => by cases e
  | .exc _ _ _, _, _, _, e => by cases e
  | .drw, _, _, _, e => by cases e
  | .frz _, _, _, _, e => by cases e
theorem dpL_of {K : PySem.W.Frag} {dr : Option Dr} {H : Hp} {S : List Addr} : ∀ (ds : List D) (vs : List V) (ps : List PyData), RepL K dr (hide S H) ds vs → pyL ds = some ps → DpAll K H vs ps
  | [], _, _, r, e => by cases r; cases e; exact .nil
  | d :: ds, _, ps, r, e => by
    obtain ⟨v, vs, rfl, h1, h2⟩ := r
    unfold pyL at e
    cases q1 : py d with
    | none => rw [q1] at e; cases e
    | some p =>
      cases q2 : pyL ds with
      | none => rw [q1, q2] at e; cases e
      | some qs =>
        rw [q1, q2] at e; cases e
        exact .cons (dp_of d v p h1 q1) (dpL_of ds vs qs h2 q2)
end
/-- the datum can be compared -/
def dok (d : D) : Bool := match py d with | some p => SeqAt.shaped p | none => false
/-- == of data -/
def deq (d e : D) : Bool := match py d, py e with | some p, some q => PyData.eqv p q | _, _ => false
mutual
theorem eqv_refl : ∀ p : PyData, p.canLay0 = true → PyData.eqv p p = true
  | .none, _ => by simp [PyData.eqv]
  | .bool b, _ => by simp [PyData.eqv]
  | .int i, _ => by simp [PyData.eqv]
  | .str x, _ => by simp [PyData.eqv]
  | .list xs, h => by simp only [PyData.eqv]; exact eqvAll_refl xs (by simpa [PyData.canLay0] using h)
  | .tuple xs, h => by simp only [PyData.eqv]; exact eqvAll_refl xs (by simpa [PyData.canLay0] using h)
  | .dict kvs, h => by simp [PyData.canLay0] at h
theorem eqvAll_refl : ∀ ps : List PyData, PyData.canLayAll0 ps = true → PyData.eqvAll ps ps = true
  | [], _ => by simp [PyData.eqvAll]
  | p :: ps, h => by
    simp only [PyData.canLayAll0, Bool.and_eq_true] at h
    simp only [PyData.eqvAll, Bool.and_eq_true]
    exact ⟨eqv_refl p h.1, eqvAll_refl ps h.2⟩
end
theorem deq_refl {d : D} (h : dok d = true) : deq d d = true := by
  unfold dok at h
  unfold deq
  cases e : py d with
  | none => rw [e] at h; cases h
  | some p =>
    rw [e] at h
    exact eqv_refl p (SeqAt.canLay_of_shaped h)
def gEq : D → D → KD → Prop
  | .int i, .int j, k => k (.bl (i == j))
  | d, e, k => dok d = true ∧ dok e = true ∧ k (.bl (deq d e))
def gNe : D → D → KD → Prop
  | .int i, .int j, k => k (.bl (!(i == j)))
  | d, e, k => dok d = true ∧ dok e = true ∧ k (.bl (!deq d e))
theorem dok_int (i : Int) : dok (.int i) = true := by
  simp [dok, py, SeqAt.shaped, PyData.canLay0, PyData.depth]
theorem gEq_gen {d e : D} {k : KD} (h : gEq d e k) : dok d = true ∧ dok e = true ∧ k (.bl (deq d e)) := by
  unfold gEq at h
  split at h
  · refine ⟨dok_int _, dok_int _, ?_⟩
    simpa [deq, py, PyData.eqv] using h
  · exact h
theorem gNe_gen {d e : D} {k : KD} (h : gNe d e k) : dok d = true ∧ dok e = true ∧ k (.bl (!deq d e)) := by
  unfold gNe at h
  split at h
  · refine ⟨dok_int _, dok_int _, ?_⟩
    simpa [deq, py, PyData.eqv] using h
  · exact h
section
variable {X : Cx}
theorem od_eq {k : Nat} (hr : Room k X.A) : OpD X (compareOp .Eq) gEq := by
  refine ⟨_, op_eqD hr.units, fun W S H x y d e Kp Q am rx ry g q => ?_⟩
  obtain ⟨g1, g2, g3⟩ := gEq_gen g
  unfold dok at g1 g2
  cases e1 : py d with
  | none => rw [e1] at g1; cases g1
  | some p =>
    cases e2 : py e with
    | none => rw [e2] at g2; cases g2
    | some p' =>
      rw [e1] at g1; rw [e2] at g2
      refine ⟨p, p', dp_of d x p rx e1, dp_of e y p' ry e2, g1, g2, q _ H (.bl (deq d e)) (Ext.refl am.w) ?_ g3⟩
      show V.bl _ = V.bl _
      rw [deq, e1, e2]
theorem od_ne {k : Nat} (hr : Room k X.A) : OpD X (compareOp .NotEq) gNe := by
  refine ⟨_, op_neD hr.units, fun W S H x y d e Kp Q am rx ry g q => ?_⟩
  obtain ⟨g1, g2, g3⟩ := gNe_gen g
  unfold dok at g1 g2
  cases e1 : py d with
  | none => rw [e1] at g1; cases g1
  | some p =>
    cases e2 : py e with
    | none => rw [e2] at g2; cases g2
    | some p' =>
      rw [e1] at g1; rw [e2] at g2
      refine ⟨p, p', dp_of d x p rx e1, dp_of e y p' ry e2, g1, g2, q _ H (.bl (!deq d e)) (Ext.refl am.w) ?_ g3⟩
      show V.bl _ = V.bl _
      rw [deq, e1, e2]
def gII (f : Int → Int → Bool) : D → D → KD → Prop
  | .int i, .int j, k => k (.bl (f i j))
  | _, _, _ => False
theorem od_ii {F : Value → Value → Sem Value} {f : Int → Int → Bool} (ho : OpR X F (rI0 fun i j => .bl (f i j))) : OpD X F (gII f) := by
  refine ⟨_, ho, fun W S H x y d e Kp Q am rx ry g q => ?_⟩
  cases d <;> cases e <;> first | exact g.elim | skip
  cases rx; cases ry
  exact ⟨_, _, rfl, rfl, q _ H (.bl _) (Ext.refl am.w) rfl g⟩
theorem od_lt : OpD X (compareOp .Lt) (gII fun i j => decide (i < j)) := od_ii op_lt
theorem od_le : OpD X (compareOp .LtE) (gII fun i j => decide (i ≤ j)) := od_ii op_le
theorem od_gt : OpD X (compareOp .Gt) (gII fun i j => decide (j < i)) := od_ii op_gt
theorem od_ge : OpD X (compareOp .GtE) (gII fun i j => decide (j ≤ i)) := od_ii op_ge
def isNon : D → Bool
  | .non => true
  | _ => false
def gIs : D → D → KD → Prop
  | d, .non, k => k (.bl (isNon d))
  | _, _, _ => False
def gIsnot : D → D → KD → Prop
  | d, .non, k => k (.bl (!isNon d))
  | _, _, _ => False
theorem rep_non {K : PySem.W.Frag} {dr : Option Dr} {H : Hp} {d : D} {x : V} (r : Rep K dr H d x) : decide (x = .non) = isNon d := by
  cases d with
  | non => cases r; rfl
  | bl b => cases r; rfl
  | int i => cases r; rfl
  | str x => cases r; rfl
  | tup l => obtain ⟨a, xs, rfl, _⟩ := r; rfl
  | lst l => obtain ⟨a, xs, rfl, _⟩ := r; rfl
  | dic ks ds => obtain ⟨a, xs, rfl, _⟩ := r; rfl
  | ins C fs ds => obtain ⟨a, dx, xs, rfl, _⟩ := r; rfl
  | exc C fs ds => obtain ⟨a, dd, rfl, _⟩ := r; rfl
  | drw => obtain ⟨d, _, rfl⟩ := r; rfl
  | frz ns => obtain ⟨a, rfl, _⟩ := r; rfl
theorem od_is : OpD X (compareOp .Is) gIs := by
  refine ⟨_, op_isN, fun W S H x y d e Kp Q am rx ry g q => ?_⟩
  cases e <;> first | exact g.elim | skip
  cases ry
  exact ⟨rfl, by rw [rep_non rx]; exact q _ H (.bl _) (Ext.refl am.w) rfl g⟩
theorem od_isnot : OpD X (compareOp .IsNot) gIsnot := by
  refine ⟨_, op_notN, fun W S H x y d e Kp Q am rx ry g q => ?_⟩
  cases e <;> first | exact g.elim | skip
  cases ry
  exact ⟨rfl, by rw [rep_non rx]; exact q _ H (.bl _) (Ext.refl am.w) rfl g⟩
/-- a flat datum as a flat value -/
def flV : D → Option V
  | .non => some .non
  | .bl b => some (.bl b)
  | .int i => some (.int i)
  | .str x => some (.str x)
  | _ => none
def flL : List D → Option (List V)
  | [] => some []
  | d :: ds => match flV d, flL ds with | some v, some vs => some (v :: vs) | _, _ => none
theorem flV_ok {K : PySem.W.Frag} {dr : Option Dr} {H : Hp} {d : D} {x v : V} (r : Rep K dr H d x) (h : flV d = some v) : x = v ∧ flatV v = true := by
  cases d <;> first | (cases h; done) | (cases h; cases r; exact ⟨rfl, rfl⟩)
theorem flL_ok {K : PySem.W.Frag} {dr : Option Dr} {H : Hp} : ∀ {ds : List D} {xs vs : List V}, RepL K dr H ds xs → flL ds = some vs → xs = vs ∧ vs.all flatV = true
  | [], _, _, r, h => by cases h; cases r; exact ⟨rfl, rfl⟩
  | d :: ds, _, vs, r, h => by
    obtain ⟨v, ws, rfl, h1, h2⟩ := r
    unfold flL at h
    cases e1 : flV d with
    | none => rw [e1] at h; cases h
    | some u =>
      cases e2 : flL ds with
      | none => rw [e1, e2] at h; cases h
      | some us =>
        rw [e1, e2] at h; cases h
        obtain ⟨rfl, f1⟩ := flV_ok h1 e1
        obtain ⟨rfl, f2⟩ := flL_ok h2 e2
        refine ⟨rfl, ?_⟩
        rw [List.all_cons, f1, f2]; rfl
def seqD : D → Option (List D)
  | .tup l => some l
  | .lst l => some l
  | _ => none
theorem seq_rep {K : PySem.W.Frag} {dr : Option Dr} {H : Hp} {S : List Addr} {d : D} {x : V} {l : List D} (r : Rep K dr (hide S H) d x) (h : seqD d = some l) : ∃ a xs, x = .ref a ∧ (SqL K H a xs ∨ SqT K H a xs) ∧ RepL K dr (hide S H) l xs := by
  cases d <;> first | (cases h; done) | skip
  · cases h
    obtain ⟨a, xs, rfl, h1, h2⟩ := r
    exact ⟨a, xs, rfl, .inr (hide_SqT h1), h2⟩
  · cases h
    obtain ⟨a, xs, rfl, h1, h2⟩ := r
    exact ⟨a, xs, rfl, .inl (SqL.of (hide_lst h1)), h2⟩
/-- x in a written list of flat things -/
def gIn (neg : Bool) : D → D → KD → Prop := fun d e k => ∃ v l vs, flV d = some v ∧ seqD e = some l ∧ flL l = some vs ∧ k (.bl (if neg then !inV v vs else inV v vs))
theorem od_in : OpD X (compareOp .In) (gIn false) := by
  refine ⟨_, op_in_seq, fun W S H x y d e Kp Q am rx ry g q => ?_⟩
  obtain ⟨v, l, vs, h1, h2, h3, k⟩ := g
  obtain ⟨rfl, f1⟩ := flV_ok rx h1
  obtain ⟨a, xs, rfl, hs, hl⟩ := seq_rep ry h2
  obtain ⟨rfl, f2⟩ := flL_ok hl h3
  exact ⟨a, xs, rfl, hs, f1, f2, q _ H (.bl _) (Ext.refl am.w) rfl k⟩
theorem od_notin : OpD X (compareOp .NotIn) (gIn true) := by
  refine ⟨_, op_notIn_seq, fun W S H x y d e Kp Q am rx ry g q => ?_⟩
  obtain ⟨v, l, vs, h1, h2, h3, k⟩ := g
  obtain ⟨rfl, f1⟩ := flV_ok rx h1
  obtain ⟨a, xs, rfl, hs, hl⟩ := seq_rep ry h2
  obtain ⟨rfl, f2⟩ := flL_ok hl h3
  exact ⟨a, xs, rfl, hs, f1, f2, q _ H (.bl _) (Ext.refl am.w) rfl k⟩
end

def gNeg : D → KD → Prop
  | .int i, k => k (.int (-i))
  | _, _ => False
theorem dx_neg {X : Cx} {W : Wd} {M : List Addr} {wx : WX} {δ : De} {a : Expr} {Kp : KD} {Ke : KX} {pos : Pos} (h : DE X W M wx δ a (fun d => gNeg d Kp) Ke) : DE X W M wx δ (.UnaryOp .USub a pos) Kp Ke :=
  PE.imp (pe_un un_neg pe_any) fun σ H Q ⟨env, q, qx⟩ => h.run env (fun x H1 d e1 r1 k => by
    cases d <;> first | exact k.elim | skip
    cases r1
    exact ⟨_, rfl, q _ H1 (.int _) e1 rfl k⟩) qx

/-! ### items and slices -/
section
variable {X : Cx} {W : Wd} {M : List Addr} {wx : WX} {δ : De} {e a b c : Expr} {es : List Expr} {Kp : KD} {Kb : Bool → Prop} {Ke : KX} {pos : Pos}
def gIx : D → D → KD → Prop := fun d e k => ∃ l i x, seqD d = some l ∧ e = .int i ∧ atI l i = some x ∧ k x
theorem atI_rep {K : PySem.W.Frag} {dr : Option Dr} {H : Hp} {l : List D} {xs : List V} {i : Int} {x : D} (r : RepL K dr H l xs) (h : atI l i = some x) : ∃ v, atI xs i = some v ∧ Rep K dr H x v := by
  unfold atI at h ⊢
  rw [← r.length]
  cases e : ixN l.length i with
  | none => rw [e] at h; cases h
  | some j =>
    rw [e] at h
    exact r.getD h
theorem dx_ix (hs : PlainIx b) (h : DE X W M wx δ a (fun d1 => DE X W M wx δ b (fun d2 => gIx d1 d2 Kp) Ke) Ke) : DE X W M wx δ (.Subscript a b pos) Kp Ke := by
  refine PE.imp (pe_ix (IxR.or ix_list ix_tup) pe_any pe_any hs) fun σ H Q ⟨env, q, qx⟩ => ?_
  refine h.run env (fun x H1 d1 e1 r1 hb => ?_) qx
  refine hb.run (env.ext e1) (fun y H2 d2 e2 r2 hg => ?_) fun x cls dd H' e => qx x cls dd H' (e1.trans e)
  obtain ⟨l, i, z, h1, rfl, h3, k⟩ := hg
  cases r2
  obtain ⟨p, xs, rfl, hq, hl⟩ := seq_rep (r1.mono ((env.ext e1).amb.hid e2)) h1
  obtain ⟨v, hv, rv⟩ := atI_rep hl h3
  have fin := q v H2 z (e1.trans e2) rv k
  rcases hq with hq | hq
  · exact .inl ⟨p, xs, i, v, rfl, rfl, hq, hv, fin⟩
  · exact .inr ⟨p, xs, i, v, rfl, rfl, hq, hv, fin⟩
/-- a part of a slice -/
def tP (K : PySem.W.Frag) (W : Wd) (M : List Addr) (wx : WX) (δ : De) (Ko : Option Int → Prop) (Ke : KX) : TO := fun σ H Q =>
  EnvOk K W M δ σ H ∧ (∀ o H', Ext W H H' → Ko o → Q o H') ∧ ∀ x cls dd H', Ext W H H' → XOk K W.dr (hide (hidA W M δ σ) H') x cls dd → Ke x → wx cls dd σ H'
def DP (X : Cx) (W : Wd) (M : List Addr) (wx : WX) (δ : De) (o : Option Expr) (Ko : Option Int → Prop) (Ke : KX) : Prop := PO X o (tP X.K W M wx δ Ko Ke)
theorem dp_none {Ko : Option Int → Prop} (k : Ko none) : DP X W M wx δ none Ko Ke := ⟨fun pins s σ H Q I ⟨env, q, qx⟩ => po_none.run pins s σ H Q I (q none H (Ext.refl env.w) k)⟩
def asI (Ki : Int → Prop) : KD
  | .int i => Ki i
  | _ => False
theorem asI_ex {Ki : Int → Prop} {d : D} (h : asI Ki d) : ∃ i, d = .int i ∧ Ki i := by
  cases d <;> first | exact ⟨_, rfl, h⟩ | exact h.elim
theorem dp_some {Ko : Option Int → Prop} (h : DE X W M wx δ e (asI fun i => Ko (some i)) Ke) : DP X W M wx δ (some e) Ko Ke :=
  ⟨fun pins s σ H Q I ⟨env, q, qx⟩ => (po_some pe_any).run pins s σ H Q I (h.run env (fun v H1 d e1 r k => by
    obtain ⟨i, rfl, ki⟩ := asI_ex k
    exact ⟨i, r, q (some i) H1 e1 ki⟩) qx)⟩
def toAny (X : Cx) (e : Option Expr) : TO := fun σ H Q => ∃ t, PO X e t ∧ t σ H Q
theorem po_any {e : Option Expr} : PO X e (toAny X e) := ⟨fun pins s σ H Q I ⟨_, h, q⟩ => h.run pins s σ H Q I q⟩
theorem DP.run {o : Option Expr} {Ko : Option Int → Prop} {σ : L2.St} {H : Hp} {Q : Option Int → Hp → Prop} (h : DP X W M wx δ o Ko Ke) (env : EnvOk X.K W M δ σ H) (q : ∀ o H', Ext W H H' → Ko o → Q o H')
    (qx : ∀ x cls dd H', Ext W H H' → XOk X.K W.dr (hide (hidA W M δ σ) H') x cls dd → Ke x → wx cls dd σ H') : toAny X o σ H Q := ⟨_, h, env, q, qx⟩
/-- a cut of a list -/
def cutD (xs : List D) (lo hi : Option Int) : List D := (xs.drop (HT.sIx xs.length 0 lo)).take (HT.sIx xs.length xs.length hi - HT.sIx xs.length 0 lo)
theorem cut_rep {K : PySem.W.Frag} {dr : Option Dr} {H : Hp} {l : List D} {xs : List V} (r : RepL K dr H l xs) (lo hi : Option Int) : RepL K dr H (cutD l lo hi) (cutV xs lo hi) := by
  unfold cutD cutV
  rw [← r.length]
  exact (r.drop _).take _
def gSl : D → Option Int → Option Int → KD → Prop
  | .lst l, lo, hi, k => k (.lst (cutD l lo hi))
  | .tup l, lo, hi, k => k (.tup (cutD l lo hi))
  | _, _, _, _ => False
theorem cutD_all {l : List D} {lo hi : Option Int} (h : HT.sIx l.length 0 lo = 0 ∧ HT.sIx l.length l.length hi = l.length) : cutD l lo hi = l := by
  unfold cutD
  rw [h.1, h.2]; simp
theorem dx_slice {lo hi : Option Expr} {p2 : Pos} (h : DE X W M wx δ e (fun d => DP X W M wx δ lo (fun l => DP X W M wx δ hi (fun u => gSl d l u Kp) Ke) Ke) Ke) : DE X W M wx δ (.Subscript e (.Slice lo hi none p2) pos) Kp Ke := by
  refine PE.imp (pe_slice (SlR.or sl_list sl_tupA) pe_any po_any po_any) fun σ H Q ⟨env, q, qx⟩ => ?_
  refine h.run env (fun x H1 d1 e1 r1 hl => ?_) qx
  refine hl.run (env.ext e1) (fun lo H2 e2 hh => ?_) fun x cls dd H' e => qx x cls dd H' (e1.trans e)
  refine hh.run (env.ext (e1.trans e2)) (fun hi H3 e3 hg => ?_) fun x cls dd H' e => qx x cls dd H' ((e1.trans e2).trans e)
  have e4 := (e1.trans e2).trans e3
  have am := (env.ext e4).amb
  have r3 := r1.mono ((env.ext e1).amb.hid (e2.trans e3))
  cases d1 <;> first | exact hg.elim | skip
  · obtain ⟨a, xs, rfl, h1, h2⟩ := r3
    refine .inr ⟨a, xs, rfl, hide_SqT h1, fun hw => ?_, fun hw p hp => ?_⟩
    · rename_i l
      have hg' : Kp (.tup (cutD l lo hi)) := hg
      rw [cutD_all (by rw [h2.length]; exact hw)] at hg'
      exact q _ H3 (.tup l) e4 ⟨a, xs, rfl, h1, h2⟩ hg'
    · exact q _ _ _ (e4.trans (Ext.new am.w hp)) (rep_tup am hp (cut_rep h2 lo hi)) hg
  · obtain ⟨a, xs, rfl, h1, h2⟩ := r3
    exact .inl ⟨a, xs, rfl, SqL.of (hide_lst h1), fun p hp => q _ _ _ (e4.trans (Ext.new am.w hp)) (rep_lst am hp (cut_rep h2 lo hi)) hg⟩
end

/-! ### built-in functions -/
/-- a built-in by data -/
def ClD (X : Cx) (f : Value) (g : List D → KD → Prop) : Prop :=
  ∃ r, CallR X f r ∧ ∀ (W : Wd) (S : List Addr) (H : Hp) (xs : List V) (ds : List D) (Kp : KD) (Q : VK), Amb W S H → RepL X.K W.dr (hide S H) ds xs → g ds Kp →
    (∀ v H' d', Ext W H H' → Rep X.K W.dr (hide S H') d' v → Kp d' → Q v H') → r xs H Q
section
variable {X : Cx} {W : Wd} {M : List Addr} {wx : WX} {δ : De} {e a b c : Expr} {es : List Expr} {Kp : KD} {Kb : Bool → Prop} {Ke : KX} {pos p : Pos} {g : List D → KD → Prop} {x : Str}
theorem dx_blt {id : String} (hc : ClD X (.builtin id) g) (hg : Gl X x) (hm : X.mg x = none) (hv : bootBuiltins x = some (.builtin id)) (h : DA X W M wx δ (e :: es) (fun ds => g ds Kp) Ke) (hn : x ≠ "__name__" := by decide) (hdb : (x == ("__debug__" : Str)) = false := by decide)
    (he : starEach (e :: es) X.env = (false, eval e X.env) :: starEach es X.env := by rfl) (hpl : (backTo pos (starEach es X.env)).any (·.1) = false := by rfl) : DE X W M wx δ (.Call (.Name x p) (e :: es) [] pos) Kp Ke := by
  obtain ⟨r, hr, hD⟩ := hc
  refine PE.imp (pe_callB hr hg hm hv pa_any hn hdb he hpl) fun σ H Q ⟨env, q, qx⟩ => ?_
  exact h.run env (fun vs H1 ds e1 r1 k => hD W _ H1 vs ds Kp Q (env.ext e1).amb r1 k fun v H' d' e2 r2 k2 => q v H' d' (e1.trans e2) r2 k2) qx
theorem dx_ty {T : String} (hc : ClD X (.type T) g) (hg : Gl X x) (hm : X.mg x = none) (hv : bootBuiltins x = some (.type T)) (h : DA X W M wx δ (e :: es) (fun ds => g ds Kp) Ke) (hn : x ≠ "__name__" := by decide) (hdb : (x == ("__debug__" : Str)) = false := by decide)
    (he : starEach (e :: es) X.env = (false, eval e X.env) :: starEach es X.env := by rfl) (hpl : (backTo pos (starEach es X.env)).any (·.1) = false := by rfl) : DE X W M wx δ (.Call (.Name x p) (e :: es) [] pos) Kp Ke := by
  obtain ⟨r, hr, hD⟩ := hc
  refine PE.imp (pe_callTy hr hg hm hv pa_any hn hdb he hpl) fun σ H Q ⟨env, q, qx⟩ => ?_
  exact h.run env (fun vs H1 ds e1 r1 k => hD W _ H1 vs ds Kp Q (env.ext e1).amb r1 k fun v H' d' e2 r2 k2 => q v H' d' (e1.trans e2) r2 k2) qx
/-- a built-in function of a module, by its name here -/
theorem dx_bfun {id : String} (hc : ClD X (.builtin id) g) (hg : Gl X x) (hm : X.mg x = some (.builtin id)) (h : DA X W M wx δ (e :: es) (fun ds => g ds Kp) Ke) (hdb : (x == ("__debug__" : Str)) = false := by decide)
    (he : starEach (e :: es) X.env = (false, eval e X.env) :: starEach es X.env := by rfl) (hpl : (backTo pos (starEach es X.env)).any (·.1) = false := by rfl) : DE X W M wx δ (.Call (.Name x p) (e :: es) [] pos) Kp Ke := by
  obtain ⟨r, hr, hD⟩ := hc
  refine PE.imp (pe_callBfun hr hg hm pa_any hdb he hpl) fun σ H Q ⟨env, q, qx⟩ => ?_
  exact h.run env (fun vs H1 ds e1 r1 k => hD W _ H1 vs ds Kp Q (env.ext e1).amb r1 k fun v H' d' e2 r2 k2 => q v H' d' (e1.trans e2) r2 k2) qx
theorem RepL.one {K : PySem.W.Frag} {dr : Option Dr} {H : Hp} {d : D} {xs : List V} (r : RepL K dr H [d] xs) : ∃ v, xs = [v] ∧ Rep K dr H d v := by
  obtain ⟨v, vs, rfl, h1, h2⟩ := r
  cases h2
  exact ⟨v, rfl, h1⟩
theorem RepL.two {K : PySem.W.Frag} {dr : Option Dr} {H : Hp} {d e : D} {xs : List V} (r : RepL K dr H [d, e] xs) : ∃ v u, xs = [v, u] ∧ Rep K dr H d v ∧ Rep K dr H e u := by
  obtain ⟨v, vs, rfl, h1, h2⟩ := r
  obtain ⟨u, rfl, h3⟩ := RepL.one h2
  exact ⟨v, u, rfl, h1, h3⟩
def gLen : List D → KD → Prop
  | [.tup l], k => k (.int l.length)
  | [.lst l], k => k (.int l.length)
  | [.str x], k => x.length ≤ 16777216 ∧ k (.int x.length)
  | [.frz ns], k => k (.int ns.length)
  | _, _ => False
theorem cd_len : ClD X (.builtin "len") gLen := by
  refine ⟨_, call_len, fun W S H xs ds Kp Q am r g q => ?_⟩
  cases ds with
  | nil => exact g.elim
  | cons d ds =>
    cases ds with
    | cons _ _ => cases d <;> exact g.elim
    | nil =>
      obtain ⟨v, rfl, rv⟩ := r.one
      cases d <;> first | exact g.elim | skip
      · cases rv
        exact ⟨_, _, rfl, ⟨by rw [sizeLine_eq]; exact g.1, rfl⟩, q _ H (.int _) (Ext.refl am.w) rfl g.2⟩
      · obtain ⟨a, xs, rfl, h1, h2⟩ := rv
        refine ⟨_, _, rfl, .inr ⟨xs, hide_SqT h1, rfl⟩, ?_⟩
        rw [← h2.length]
        exact q _ H (.int _) (Ext.refl am.w) rfl g
      · obtain ⟨a, xs, rfl, h1, h2⟩ := rv
        refine ⟨_, _, rfl, .inl ⟨xs, SqL.of (hide_lst h1), rfl⟩, ?_⟩
        rw [← h2.length]
        exact q _ H (.int _) (Ext.refl am.w) rfl g
      · rename_i ns
        obtain ⟨a, rfl, h1⟩ := rv
        refine ⟨_, _, rfl, .inl ⟨_, ExN.seqL hide_sub h1, rfl⟩, ?_⟩
        rw [List.length_map]
        exact q _ H (.int _) (Ext.refl am.w) rfl g
def gAbs : List D → KD → Prop
  | [.int i], k => k (.int (if i < 0 then -i else i))
  | _, _ => False
theorem cd_abs : ClD X (.builtin "abs") gAbs := by
  refine ⟨_, call_abs, fun W S H xs ds Kp Q am r g q => ?_⟩
  cases ds with
  | nil => exact g.elim
  | cons d ds =>
    cases ds with
    | cons _ _ => cases d <;> exact g.elim
    | nil =>
      obtain ⟨v, rfl, rv⟩ := r.one
      cases d <;> first | exact g.elim | skip
      cases rv
      exact ⟨_, rfl, q _ H (.int _) (Ext.refl am.w) rfl g⟩
def gInt : List D → KD → Prop
  | [.int i], k => k (.int i)
  | _, _ => False
theorem cd_int : ClD X (.type "int") gInt := by
  refine ⟨_, call_int1, fun W S H xs ds Kp Q am r g q => ?_⟩
  cases ds with
  | nil => exact g.elim
  | cons d ds =>
    cases ds with
    | cons _ _ => cases d <;> exact g.elim
    | nil =>
      obtain ⟨v, rfl, rv⟩ := r.one
      cases d <;> first | exact g.elim | skip
      cases rv
      exact .inl ⟨_, rfl, q _ H (.int _) (Ext.refl am.w) rfl g⟩
def as1 (f : D → Prop) : List D → Prop
  | [d] => f d
  | _ => False
theorem as1_ex {f : D → Prop} {ds : List D} (h : as1 f ds) : ∃ d, ds = [d] ∧ f d := by
  cases ds with
  | nil => exact False.elim h
  | cons d ds =>
    cases ds with
    | nil => exact ⟨d, rfl, h⟩
    | cons _ _ => exact False.elim h
def as2 (f : D → D → Prop) : List D → Prop
  | [d, e] => f d e
  | _ => False
theorem as2_ex {f : D → D → Prop} {ds : List D} (h : as2 f ds) : ∃ d e, ds = [d, e] ∧ f d e := by
  cases ds with
  | nil => exact False.elim h
  | cons d ds =>
    cases ds with
    | nil => exact False.elim h
    | cons e ds =>
      cases ds with
      | nil => exact ⟨d, e, rfl, h⟩
      | cons _ _ => exact False.elim h
def asII (f : Int → Int → Prop) : List D → Prop := as2 fun d e => asI (fun i => asI (fun j => f i j) e) d
theorem asII_ex {f : Int → Int → Prop} {ds : List D} (h : asII f ds) : ∃ i j, ds = [.int i, .int j] ∧ f i j := by
  obtain ⟨d, e, rfl, h⟩ := as2_ex h
  obtain ⟨i, rfl, h⟩ := asI_ex h
  obtain ⟨j, rfl, h⟩ := asI_ex h
  exact ⟨i, j, rfl, h⟩
theorem cd_ii {f : Value} {gi : Int → Int → Int} (hc : CallR X f (fun xs H Q => ∃ i j, xs = [.int i, .int j] ∧ Q (.int (gi i j)) H)) : ClD X f (fun ds k => asII (fun i j => k (.int (gi i j))) ds) := by
  refine ⟨_, hc, fun W S H xs ds Kp Q am r g q => ?_⟩
  obtain ⟨i, j, rfl, g⟩ := asII_ex g
  obtain ⟨v, u, rfl, rv, ru⟩ := r.two
  cases rv; cases ru
  exact ⟨_, _, rfl, q _ H (.int _) (Ext.refl am.w) rfl g⟩
abbrev gMin : List D → KD → Prop := fun ds k => asII (fun i j => k (.int (if j < i then j else i))) ds
theorem cd_min (hc : X.calm = true) : ClD X (.builtin "min") gMin := cd_ii (call_min2 hc)
abbrev gMax : List D → KD → Prop := fun ds k => asII (fun i j => k (.int (if j > i then j else i))) ds
theorem cd_max (hc : X.calm = true) : ClD X (.builtin "max") gMax := cd_ii (call_max2 hc)
abbrev gGcd : List D → KD → Prop := fun ds k => asII (fun i j => k (.int ((Nat.gcd i.natAbs j.natAbs : Nat) : Int))) ds
theorem cd_gcd : ClD X (.builtin "math.gcd") gGcd := cd_ii cr_gcd
abbrev gList : List D → KD → Prop := fun ds k => as1 (fun d => ∃ l, seqD d = some l ∧ k (.lst l)) ds
theorem cd_list : ClD X (.type "list") gList := by
  refine ⟨_, call_list_of, fun W S H xs ds Kp Q am r g q => ?_⟩
  obtain ⟨d, rfl, l, hl, g⟩ := as1_ex g
  obtain ⟨v, rfl, rv⟩ := r.one
  obtain ⟨a, xs, rfl, hs, h2⟩ := seq_rep rv hl
  exact ⟨a, xs, rfl, hs, fun p hp => q _ _ _ (Ext.new am.w hp) (rep_lst am hp h2) g⟩
abbrev gTuple : List D → KD → Prop := fun ds k => as1 (fun d => ∃ l, seqD d = some l ∧ k (.tup l)) ds
theorem cd_tuple : ClD X (.type "tuple") gTuple := by
  refine ⟨_, call_tuple_of, fun W S H xs ds Kp Q am r g q => ?_⟩
  obtain ⟨d, rfl, l, hl, g2⟩ := as1_ex g
  obtain ⟨v, rfl, rv⟩ := r.one
  cases d <;> first | (cases hl; done) | skip
  · cases hl
    obtain ⟨a, xs, rfl, h1, h2⟩ := rv
    exact ⟨a, xs, rfl, .inr ⟨hide_SqT h1, q _ H (.tup l) (Ext.refl am.w) ⟨a, xs, rfl, h1, h2⟩ g2⟩⟩
  · cases hl
    obtain ⟨a, xs, rfl, h1, h2⟩ := rv
    exact ⟨a, xs, rfl, .inl ⟨SqL.of (hide_lst h1), fun p hp => q _ _ _ (Ext.new am.w hp) (rep_tup am hp h2) g2⟩⟩
def blL : List D → Option (List Bool)
  | [] => some []
  | .bl b :: ds => match blL ds with | some bs => some (b :: bs) | none => none
  | _ => none
theorem blL_ok {K : PySem.W.Frag} {dr : Option Dr} {H : Hp} : ∀ {ds : List D} {xs : List V} {bs : List Bool}, RepL K dr H ds xs → blL ds = some bs → xs = bs.map V.bl
  | [], _, _, r, h => by cases h; cases r; rfl
  | d :: ds, _, bs, r, h => by
    obtain ⟨v, ws, rfl, h1, h2⟩ := r
    cases d <;> first | (cases h; done) | skip
    unfold blL at h
    cases e2 : blL ds with
    | none => rw [e2] at h; cases h
    | some us =>
      rw [e2] at h; cases h
      cases h1
      rw [blL_ok h2 e2]; rfl
theorem blL_map : ∀ bs : List Bool, blL (bs.map D.bl) = some bs
  | [] => rfl
  | b :: bs => by
    rw [List.map_cons]
    unfold blL
    rw [blL_map bs]
abbrev gAll : List D → KD → Prop := fun ds k => as1 (fun d => ∃ l bs, d = .lst l ∧ blL l = some bs ∧ k (.bl (bs.all id))) ds
theorem cd_all (hc : X.calm = true) : ClD X (.builtin "all") gAll := by
  refine ⟨_, cr_all hc, fun W S H xs ds Kp Q am r g q => ?_⟩
  obtain ⟨d, rfl, l, bs, rfl, hl, g⟩ := as1_ex g
  obtain ⟨v, rfl, a, xs, rfl, h1, h2⟩ := r.one
  have e := blL_ok h2 hl
  subst e
  exact ⟨a, bs, rfl, SqL.of (hide_lst h1), q _ H (.bl _) (Ext.refl am.w) rfl g⟩
end
end Lay

/-! # DS4: isinstance, calls of defs, statements -/
namespace Lay
open PySem PySem.Spec PyProof.Rows L2

/-! ### isinstance -/
/-- the built-in type of a datum -/
def prT : D → Option String
  | .non => some "NoneType"
  | .bl _ => some "bool"
  | .int _ => some "int"
  | .str _ => some "str"
  | .tup _ => some "tuple"
  | .lst _ => some "list"
  | .dic _ _ => some "dict"
  | _ => none
/-- isinstance of a datum of a built-in type -/
def isP (t : String) : D → Bool
  | .bl _ => t == "bool" || t == "int"
  | .int _ => t == "int"
  | .str _ => t == "str"
  | .tup _ => t == "tuple"
  | .lst _ => t == "list"
  | .dic _ _ => t == "dict"
  | _ => false
/-- no object of an own class -/
def prim (d : D) : Bool := (prT d).isSome
theorem tyx_of {K : PySem.W.Frag} {dr : Option Dr} {H : Hp} {S : List Addr} {d : D} {v : V} {s : String} (r : Rep K dr (hide S H) d v) (h : prT d = some s) : TyX K H v (.type s) := by
  cases d <;> first | (cases h; done) | skip
  · cases h; cases r; exact .base .non
  · cases h; cases r; exact .base (.bl _)
  · cases h; cases r; exact .base (.int _)
  · cases h; cases r; exact .base (.str _)
  · cases h
    obtain ⟨a, xs, rfl, h1, h2⟩ := r
    rcases hide_SqT h1 with (h1 | ⟨o, h1⟩) | ⟨o, its, n, h1, h3, _⟩
    · exact .base (.tup h1)
    · exact .fTuple h1
    · exact .kTuple h1 h3
  · cases h
    obtain ⟨a, xs, rfl, h1, h2⟩ := r
    exact .base (.lst (hide_lst h1))
  · cases h
    obtain ⟨a, xs, rfl, h1, h2, h3⟩ := r
    exact .base (.dK (hide_lst h1))
/-- the built-in types asked -/
def tys : List String := ["int", "bool", "tuple", "list", "dict", "str"]
theorem kit_prim {K : PySem.W.Frag} {d : D} {s t : String} (h : prT d = some s) (ht : t ∈ tys) : PySem.W.kitOne K (.type s) (.type t) = some (isP t d) := by
  have ht : t = "int" ∨ t = "bool" ∨ t = "tuple" ∨ t = "list" ∨ t = "dict" ∨ t = "str" := by simpa [tys] using ht
  cases d <;> first | (cases h; done) | skip
  all_goals (cases h; rcases ht with rfl | rfl | rfl | rfl | rfl | rfl <;> exact kit_ty (by simp only [isP]; decide +kernel))
section
variable {X : Cx} {W : Wd} {M : List Addr} {wx : WX} {δ : De} {e : Expr} {es : List Expr} {Kp : KD} {Kb : Bool → Prop} {Ke : KX} {pos p p1 p2 p3 : Pos} {x : Str}
/-- isinstance(e, T), T a built-in type -/
theorem dx_isi (t : String) (hg : Gl X "isinstance") (hm : X.mg "isinstance" = none) (hg2 : Gl X x) (hm2 : X.mg x = none) (hv : bootBuiltins x = some (.type t)) (ht : t ∈ tys) (h : DE X W M wx δ e (fun d => prim d = true ∧ Kp (.bl (isP t d))) Ke)
    (hn : x ≠ "__name__" := by decide) (hdb : (x == ("__debug__" : Str)) = false := by decide) (he : starEach [e, .Name x p1] X.env = (false, eval e X.env) :: starEach [.Name x p1] X.env := by rfl)
    (he2 : starEach [.Name x p1] X.env = (false, eval (.Name x p1) X.env) :: starEach [] X.env := by rfl) (hpl : (backTo pos (starEach [.Name x p1] X.env)).any (·.1) = false := by rfl) : DE X W M wx δ (.Call (.Name "isinstance" p) [e, .Name x p1] [] pos) Kp Ke := by
  refine PE.imp (pe_callB call_isi hg hm (by decide +kernel) (pa_cons pe_any (pa_cons (pe_bltn (v := .ty t) hg2 hm2 hv rfl hn hdb) pa_nil he2) he) (by decide) (by decide) he hpl) fun σ H Q ⟨env, q, qx⟩ => ?_
  refine h.run env (fun v H1 d e1 r1 ⟨hp, k⟩ => ?_) qx
  obtain ⟨s, hs⟩ := Option.isSome_iff_exists.mp hp
  exact ⟨v, .ty t, .type s, .type t, isP t d, rfl, .ty t, tyx_of r1 hs, kit_prim hs ht, q _ H1 (.bl _) e1 rfl k⟩
/-- isinstance(e, (T1, T2)) -/
theorem dx_isi2 (t t' : String) {x' : Str} {k1} (hg : Gl X "isinstance") (hm : X.mg "isinstance" = none) (hg2 : Gl X x) (hm2 : X.mg x = none) (hv : bootBuiltins x = some (.type t)) (hg3 : Gl X x') (hm3 : X.mg x' = none) (hv3 : bootBuiltins x' = some (.type t'))
    (ht : t ∈ tys) (ht' : t' ∈ tys) (h : DE X W M wx δ e (fun d => prim d = true ∧ Kp (.bl (isP t d || isP t' d))) Ke)
    (hn : x ≠ "__name__" := by decide) (hdb : (x == ("__debug__" : Str)) = false := by decide) (hn' : x' ≠ "__name__" := by decide) (hdb' : (x' == ("__debug__" : Str)) = false := by decide)
    (he : starEach [e, .Tuple [.Name x p1, .Name x' p2] k1 p3] X.env = (false, eval e X.env) :: starEach [.Tuple [.Name x p1, .Name x' p2] k1 p3] X.env := by rfl)
    (he2 : starEach [.Tuple [.Name x p1, .Name x' p2] k1 p3] X.env = (false, eval (.Tuple [.Name x p1, .Name x' p2] k1 p3) X.env) :: starEach [] X.env := by rfl) (he3 : starEach [.Name x p1, .Name x' p2] X.env = (false, eval (.Name x p1) X.env) :: starEach [.Name x' p2] X.env := by rfl) (he4 : starEach [.Name x' p2] X.env = (false, eval (.Name x' p2) X.env) :: starEach [] X.env := by rfl)
    (hpl : (backTo pos (starEach [.Tuple [.Name x p1, .Name x' p2] k1 p3] X.env)).any (·.1) = false := by rfl) : DE X W M wx δ (.Call (.Name "isinstance" p) [e, .Tuple [.Name x p1, .Name x' p2] k1 p3] [] pos) Kp Ke := by
  refine PE.imp (pe_callB call_isiT hg hm (by decide +kernel) (pa_cons pe_any (pa_cons (pe_tup (pa_cons (pe_bltn (v := .ty t) hg2 hm2 hv rfl hn hdb) (pa_cons (pe_bltn (v := .ty t') hg3 hm3 hv3 rfl hn' hdb') pa_nil he4) he3)) pa_nil he2) he) (by decide) (by decide) he hpl) fun σ H Q ⟨env, q, qx⟩ => ?_
  refine h.run env (fun v H1 d e1 r1 ⟨hp, k⟩ => ?_) qx
  obtain ⟨s, hs⟩ := Option.isSome_iff_exists.mp hp
  refine ⟨by rw [sizeLine_eq]; exact (by decide : (2 : Nat) ≤ 16777216), fun a ha => ?_⟩
  have am := (env.ext e1).amb
  have e2 := Ext.new (o := .tup [.ty t, .ty t']) am.w ha
  refine ⟨v, a, [.ty t, .ty t'], .type s, [.type t, .type t'], isP t d || isP t' d, rfl, upd_same, .cons (.ty t) (.cons (.ty t') .nil), tyx_of (r1.mono (am.hid e2)) hs, ?_, q _ _ (.bl _) (e1.trans e2) rfl k⟩
  refine kitAny_cons (kit_prim hs ht) (fun hb => kitAny_cons (kit_prim hs ht') (fun hb' => ?_) (fun hb' => by rw [hb, hb']; rfl)) (fun hb => by rw [hb]; rfl)
  rw [kitAny_nil, hb, hb']; rfl
/-- what is known of a class whose instances are asked -/
structure InsF (K : PySem.W.Frag) (C : Addr) : Prop where
  cl : Cls K C
  ha : PySem.W.findIn K (.ref C) "__class__" = some (some (.builtin "object.__class__"))
  hn : PySem.W.specialIn K (.builtin "object.__class__") "__get__" = some (some (.builtin "getset_descriptor.__get__"))
  ht : PySem.W.takesIn K (.builtin "object.__class__") = some true
  hm : PySem.W.mroIn K C (.type "object") = some true
/-- whether a datum is an instance of the class at C -/
inductive IsO (K : PySem.W.Frag) (C : Addr) : D → Bool → Prop where
  | pr {d : D} {s : String} (h : prT d = some s) : IsO K C d false
  | ins {C' : Addr} {fs : List Str} {ds : List D} {b : Bool} (F : InsF K C') (h : PySem.W.kitOne K (.ref C') (.ref C) = some b) : IsO K C (.ins C' fs ds) b
  | exc {C' : Addr} {b : Bool} (F : ExcC K C') (h : PySem.W.kitOne K (.ref C') (.ref C) = some b) : IsO K C (.exc C' [] []) b
def rIsX (K : PySem.W.Frag) : List V → Hp → VK → Prop := fun xs H Q => ∃ (c : V) (cv : Value) (C' a : Addr) (b : Bool), xs = [.ref a, c] ∧ ClsV c cv ∧ H a = some (ExV C' none a) ∧ ExcC K C' ∧ PySem.W.kitOne K (.ref C') cv = some b ∧ Q (.bl b) H
theorem call_isX : CallR X (.builtin "isinstance") (rIsX X.K) := by
  intro pins s σ H xs us Q I r h
  obtain ⟨c, cv, C', a, b, rfl, hcv, ha, F, e, q⟩ := h
  obtain ⟨u1, u2, rfl, r1, r2⟩ := vals2 r
  have e2 := hcv.eq r2
  subst e2
  cases r1
  obtain ⟨⟨oe, vs, h1, h2, h3, h4⟩, _⟩ := I.hok a _ ha
  have J : PySem.W.InstAt s.heap a oe C' none := by
    obtain ⟨oc, od, oda, osl⟩ := oe
    dsimp only at h2 h3 h4
    subst h2 h3 h4
    exact ⟨h1, rfl, rfl, trivial⟩
  exact PySem.W.kia_one (PySem.W.handS_kitx_exc F.hg F.hk F.hs F.hd F.ha F.hn F.ht F.hm) I.kIn J e (fun z => nomatch z) fun tk => ⟨.bl b, H, I.tok tk, rfl, q⟩
theorem CallR.or {f : Value} {r r' : List V → Hp → VK → Prop} (h : CallR X f r) (h' : CallR X f r') : CallR X f (fun xs H Q => r xs H Q ∨ r' xs H Q) := by
  intro pins s σ H xs us Q I rr q
  rcases q with q | q
  · exact h pins s σ H xs us Q I rr q
  · exact h' pins s σ H xs us Q I rr q
theorem kit_own {K : PySem.W.Frag} {C : Addr} {d : D} {s : String} (hC : clsB K C = true) (h : prT d = some s) : PySem.W.kitOne K (.type s) (.ref C) = some false := by
  have e : PySem.W.kitOne K (.type s) (.ref C) = PySem.W.subIn K (.type s) (.ref C) := by
    unfold PySem.W.kitOne PySem.W.kitCls
    rw [if_neg (by show ¬ (Value.type s == Value.ref C) = true; exact fun z => by cases (eq_of_beq z))]
    show (if clsB K C = true then _ else _) = _
    rw [if_pos hC]
  rw [e]
  cases d <;> first | (cases h; done) | skip
  all_goals (cases h; rfl)
/-- isinstance(e, C), C an own class -/
theorem dx_isiO {C : Addr} (hg : Gl X "isinstance") (hm : X.mg "isinstance" = none) (hg2 : Gl X x) (hm2 : X.mg x = some (.ref C)) (hC : clsB X.K C = true) (h : DE X W M wx δ e (fun d => ∃ b, IsO X.K C d b ∧ Kp (.bl b)) Ke)
    (hdb : (x == ("__debug__" : Str)) = false := by decide) (he : starEach [e, .Name x p1] X.env = (false, eval e X.env) :: starEach [.Name x p1] X.env := by rfl)
    (he2 : starEach [.Name x p1] X.env = (false, eval (.Name x p1) X.env) :: starEach [] X.env := by rfl) (hpl : (backTo pos (starEach [.Name x p1] X.env)).any (·.1) = false := by rfl) : DE X W M wx δ (.Call (.Name "isinstance" p) [e, .Name x p1] [] pos) Kp Ke := by
  refine PE.imp (pe_callB (CallR.or call_isi call_isX) hg hm (by decide +kernel) (pa_cons pe_any (pa_cons (pe_glob (v := .ref C) hg2 hm2 rfl hdb) pa_nil he2) he) (by decide) (by decide) he hpl) fun σ H Q ⟨env, q, qx⟩ => ?_
  refine h.run env (fun v H1 d e1 r1 ⟨b, hb, k⟩ => ?_) qx
  have fin := q _ H1 (.bl b) e1 rfl k
  cases hb with
  | pr hs => exact .inl ⟨v, .ref C, _, .ref C, false, rfl, .own C, tyx_of r1 hs, kit_own hC hs, fin⟩
  | ins F hk =>
    obtain ⟨a, dx, xs, rfl, h1, h2, h3⟩ := r1
    exact .inl ⟨.ref a, .ref C, _, .ref C, b, rfl, .own C, .base (.ins (hide_lst h1) F.cl F.ha F.hn F.ht F.hm), hk, fin⟩
  | exc F hk =>
    obtain ⟨a, dd, rfl, h1, h2⟩ := r1
    rcases h2 with ⟨rfl, _⟩ | ⟨z, _⟩
    · exact .inr ⟨.ref C, .ref C, _, a, b, rfl, .own C, hide_lst h1, F, hk, fin⟩
    · exact absurd rfl z
end

/-! ### defs -/
/-- what a def makes of data: what is wanted of the answer, of what is raised -/
abbrev FS := List D → KD → KX → Prop
def spD (K : PySem.W.Frag) (T : List (Addr × Str)) (n : Nat) (f : FS) : Sp := fun vs H Q E => vs.length = n ∧ ∃ (W : Wd) (S : List Addr) (ds : List D) (Kp : KD) (Ke : KX),
  W.T = T ∧ Amb W S H ∧ RepL K W.dr (hide S H) ds vs ∧ f ds Kp Ke ∧ (∀ v H' d, Ext W H H' → Rep K W.dr (hide S H') d v → Kp d → Q v H') ∧
    ∀ x cls dd H', Ext W H H' → XOk K W.dr (hide S H') x cls dd → Ke x → E cls dd H'
/-- where a program runs -/
structure Pg where
  P : Program
  w : World
  K : PySem.W.Frag
  mg : Str → Option Value
  base : Heap
  T : List (Addr × Str)
/-- a def by its name -/
def Fn (G : Pg) (x : Str) (k : Nat) (ps : List Str) (f : FS) : Prop := ∃ fa fd, G.mg x = some (.ref fa) ∧ PySem.W.keepIn G.K (.ref fa) = true ∧ FnOk G.P G.w G.K G.mg G.base (L2.CX G.P G.w) k fa fd ps (spD G.K G.T ps.length f) ∧ Binds G.K fd ps []
theorem Fn.mono {G : Pg} {x : Str} {j k : Nat} {ps : List Str} {f : FS} (F : Fn G x j ps f) (h : j ≤ k) : Fn G x k ps f := by
  obtain ⟨fa, fd, a, b, c, d⟩ := F
  exact ⟨fa, fd, a, b, c.mono h, d⟩
/-- a weaker promise -/
theorem Fn.imp {G : Pg} {x : Str} {k : Nat} {ps : List Str} {f f' : FS} (F : Fn G x k ps f) (h : ∀ ds Kp Ke, f' ds Kp Ke → f ds Kp Ke) : Fn G x k ps f' := by
  obtain ⟨fa, fd, a, b, c, d⟩ := F
  refine ⟨fa, fd, a, b, c.imp fun vs H Q E ⟨hl, W, S, ds, Kp, Ke, h1, h2, h3, h4, h5⟩ => ⟨hl, W, S, ds, Kp, Ke, h1, h2, h3, h _ _ _ h4, h5⟩, d⟩
abbrev Cx.pg (X : Cx) (T : List (Addr × Str)) : Pg := ⟨X.prog, X.w, X.K, X.mg, X.base, T⟩
section
variable {X : Cx} {W : Wd} {M : List Addr} {wx : WX} {δ : De} {e : Expr} {es : List Expr} {Kp : KD} {Kb : Bool → Prop} {Ke : KX} {pos p p1 p2 p3 : Pos} {x : Str} {f : FS} {k : Nat} {ps : List Str}
theorem sp_of {σ : L2.St} {H H1 : Hp} {Q : VK} {vs : List V} {ds : List D} {n : Nat} (hn : ds.length = n) (env : EnvOk X.K W M δ σ H) (q : ∀ v H' d, Ext W H H' → Rep X.K W.dr (hide (hidA W M δ σ) H') d v → Kp d → Q v H')
    (qx : ∀ x cls dd H', Ext W H H' → XOk X.K W.dr (hide (hidA W M δ σ) H') x cls dd → Ke x → wx cls dd σ H') (e1 : Ext W H H1) (r1 : RepL X.K W.dr (hide (hidA W M δ σ) H1) ds vs) (hf : f ds Kp Ke) : spD X.K W.T n f vs H1 Q (WE wx σ) :=
  ⟨by rw [← r1.length]; exact hn, W, hidA W M δ σ, ds, Kp, Ke, rfl, (env.ext e1).amb, r1, hf, fun v H' d e2 r2 k => q v H' d (e1.trans e2) r2 k, fun x cls dd H' e2 r2 k => qx x cls dd H' (e1.trans e2) r2 k⟩
/-- f(e, ..) -/
theorem dx_call (F : Fn (Cx.pg X W.T) x k ps f) (hr : Room k X.A) (tk : Takes X wx) (hg : Gl X x) (h : DA X W M wx δ (e :: es) (fun ds => ds.length = ps.length ∧ f ds Kp Ke) Ke) (hdb : (x == ("__debug__" : Str)) = false := by decide)
    (he : starEach (e :: es) X.env = (false, eval e X.env) :: starEach es X.env := by rfl) (hpl : (backTo pos (starEach es X.env)).any (·.1) = false := by rfl) : DE X W M wx δ (.Call (.Name x p) (e :: es) [] pos) Kp Ke := by
  obtain ⟨fa, fd, hm, hk, FO, hb⟩ := F
  refine PE.imp (pe_callS FO hr hg hm hk hb (fun σ => passAt tk σ) pa_any hdb he hpl) fun σ H Q ⟨env, q, qx⟩ => ?_
  exact h.run env (fun vs H1 ds e1 r1 ⟨hl, hf⟩ => sp_of hl env q qx e1 r1 hf) qx
end

/-! ### statements -/
/-- where a stretch of statements stands: its world, the callers' own objects, the heap at its entry, what may change -/
structure Fr where
  W : Wd
  M : List Addr
  H0 : Hp
  N : List Addr
structure SEnv (K : PySem.W.Frag) (F : Fr) (δ : De) (σ : L2.St) (H : Hp) : Prop where
  env : EnvOk K F.W F.M δ σ H
  ext : ∀ b o, b ∉ F.W.rg → b ∉ F.N → F.H0 b = some o → (∀ ps, o ≠ .tbl ps) → H b = some o
  own : ∀ a ∈ ownA δ σ, a ∈ F.N ∨ F.H0 a = none ∨ ∃ ps, F.H0 a = some (.tbl ps)
theorem SEnv.go {K : PySem.W.Frag} {F : Fr} {δ : De} {σ : L2.St} {H H' : Hp} (h : SEnv K F δ σ H) (e : Ext F.W H H') : SEnv K F δ σ H' := ⟨h.env.ext e, fun b o n m h0 t => e.keep b o n (h.ext b o n m h0 t) t, h.own⟩
structure Out where
  nx : De → Prop
  rt : KD
  bk : De → Prop := fun _ => False
  ct : De → Prop := fun _ => False
abbrev hid0 (F : Fr) : List Addr := F.W.rg ++ F.M
/-- what stands at the end -/
structure XEnd (F : Fr) (H : Hp) : Prop where
  w : WOk F.W H
  ext : ∀ b o, b ∉ F.W.rg → b ∉ F.N → F.H0 b = some o → (∀ ps, o ≠ .tbl ps) → H b = some o
theorem SEnv.xe {K : PySem.W.Frag} {F : Fr} {δ : De} {σ : L2.St} {H : Hp} (h : SEnv K F δ σ H) : XEnd F H := ⟨h.env.w, h.ext⟩
def tS (K : PySem.W.Frag) (F : Fr) (wx : WX) (δ : De) (O : Out) (Ke : KX) : TS := fun Dn σ H =>
  SEnv K F δ σ H ∧ (∀ δ' σ' H', SEnv K F δ' σ' H' → O.nx δ' → Dn.nx σ' H') ∧ (∀ δ' σ' H', SEnv K F δ' σ' H' → O.bk δ' → Dn.bk σ' H') ∧ (∀ δ' σ' H', SEnv K F δ' σ' H' → O.ct δ' → Dn.ct σ' H') ∧
    (∀ v H' d, XEnd F H' → Rep K F.W.dr (hide (hid0 F) H') d v → O.rt d → Dn.rt v H') ∧
      ∀ x cls dd σ' H', XEnd F H' → XOk K F.W.dr (hide (hid0 F) H') x cls dd → Ke x → wx cls dd σ' H'
def DS (X : Cx) (W : Wd) (M : List Addr) (wx : WX) (δ : De) (st : Stmt) (O : Out) (Ke : KX) : Prop := ∀ H0 N, PS X st (tS X.K ⟨W, M, H0, N⟩ wx δ O Ke)
def DSs (X : Cx) (W : Wd) (M : List Addr) (wx : WX) (δ : De) (st : List Stmt) (O : Out) (Ke : KX) : Prop := ∀ H0 N, PSs X st (tS X.K ⟨W, M, H0, N⟩ wx δ O Ke)
theorem hid_more {F : Fr} {δ : De} {σ : L2.St} {H : Hp} : ExN (hide (hidA F.W F.M δ σ) H) (hide (hid0 F) H) := hide_more fun a ha => by
  simp only [hidA, hid0, List.mem_append] at ha ⊢
  exact .inl ha
section
variable {X : Cx} {W : Wd} {M : List Addr} {wx : WX} {δ : De} {e c : Expr} {st : Stmt} {rest body orelse : List Stmt} {O : Out} {Ke : KX} {pos : Pos} {H0 : Hp} {N : List Addr}
theorem DS.run {σ : L2.St} {H : Hp} {Dn : Ends} (h : DS X W M wx δ st O Ke) (env : SEnv X.K ⟨W, M, H0, N⟩ δ σ H) (n : ∀ δ' σ' H', SEnv X.K ⟨W, M, H0, N⟩ δ' σ' H' → O.nx δ' → Dn.nx σ' H') (b : ∀ δ' σ' H', SEnv X.K ⟨W, M, H0, N⟩ δ' σ' H' → O.bk δ' → Dn.bk σ' H') (c : ∀ δ' σ' H', SEnv X.K ⟨W, M, H0, N⟩ δ' σ' H' → O.ct δ' → Dn.ct σ' H')
    (r : ∀ v H' d, XEnd ⟨W, M, H0, N⟩ H' → Rep X.K W.dr (hide (hid0 ⟨W, M, H0, N⟩) H') d v → O.rt d → Dn.rt v H') (x : ∀ x cls dd σ' H', XEnd ⟨W, M, H0, N⟩ H' → XOk X.K W.dr (hide (hid0 ⟨W, M, H0, N⟩) H') x cls dd → Ke x → wx cls dd σ' H') : tsAny X st Dn σ H := ⟨_, h H0 N, env, n, b, c, r, x⟩
theorem DSs.run {σ : L2.St} {H : Hp} {Dn : Ends} (h : DSs X W M wx δ rest O Ke) (env : SEnv X.K ⟨W, M, H0, N⟩ δ σ H) (n : ∀ δ' σ' H', SEnv X.K ⟨W, M, H0, N⟩ δ' σ' H' → O.nx δ' → Dn.nx σ' H') (b : ∀ δ' σ' H', SEnv X.K ⟨W, M, H0, N⟩ δ' σ' H' → O.bk δ' → Dn.bk σ' H') (c : ∀ δ' σ' H', SEnv X.K ⟨W, M, H0, N⟩ δ' σ' H' → O.ct δ' → Dn.ct σ' H')
    (r : ∀ v H' d, XEnd ⟨W, M, H0, N⟩ H' → Rep X.K W.dr (hide (hid0 ⟨W, M, H0, N⟩) H') d v → O.rt d → Dn.rt v H') (x : ∀ x cls dd σ' H', XEnd ⟨W, M, H0, N⟩ H' → XOk X.K W.dr (hide (hid0 ⟨W, M, H0, N⟩) H') x cls dd → Ke x → wx cls dd σ' H') : tssAny X rest Dn σ H := ⟨_, h H0 N, env, n, b, c, r, x⟩
/-- an expression within a statement -/
theorem ex_run {σ : L2.St} {H : Hp} {Q : VK} {Kp : KD} (h : DE X W M wx δ e Kp Ke) (env : SEnv X.K ⟨W, M, H0, N⟩ δ σ H) (q : ∀ v H' d, SEnv X.K ⟨W, M, H0, N⟩ δ σ H' → Ext W H H' → Rep X.K W.dr (hide (hidA W M δ σ) H') d v → Kp d → Q v H')
    (x : ∀ x cls dd σ' H', XEnd ⟨W, M, H0, N⟩ H' → XOk X.K W.dr (hide (hid0 ⟨W, M, H0, N⟩) H') x cls dd → Ke x → wx cls dd σ' H') : tAny X e σ H Q :=
  h.run env.env (fun v H' d e1 r k => q v H' d (env.go e1) e1 r k) fun y cls dd H' e1 r k => x y cls dd σ H' (env.go e1).xe (r.mono (hid_more (F := ⟨W, M, H0, N⟩))) k
theorem tx_run {σ : L2.St} {H : Hp} {Q : Bool → Hp → Prop} {Kb : Bool → Prop} (h : DT X W M wx δ e Kb Ke) (env : SEnv X.K ⟨W, M, H0, N⟩ δ σ H) (q : ∀ b H', SEnv X.K ⟨W, M, H0, N⟩ δ σ H' → Kb b → Q b H')
    (x : ∀ x cls dd σ' H', XEnd ⟨W, M, H0, N⟩ H' → XOk X.K W.dr (hide (hid0 ⟨W, M, H0, N⟩) H') x cls dd → Ke x → wx cls dd σ' H') : ttAny X e σ H Q :=
  h.run env.env (fun b H' e1 k => q b H' (env.go e1) k) fun y cls dd H' e1 r k => x y cls dd σ H' (env.go e1).xe (r.mono (hid_more (F := ⟨W, M, H0, N⟩))) k
theorem ds_nil (k : O.nx δ) : DSs X W M wx δ [] O Ke := fun H0 N => PSs.imp pss_nil fun Dn σ H ⟨env, n, _⟩ => n δ σ H env k
theorem ds_cons (h : DS X W M wx δ st { O with nx := fun δ' => DSs X W M wx δ' rest O Ke } Ke) : DSs X W M wx δ (st :: rest) O Ke := fun H0 N =>
  PSs.imp (pss_cons ps_any pss_any) fun Dn σ H ⟨env, n, b, c, r, x⟩ => h.run (Dn := { Dn with nx := tssAny X rest Dn }) env (fun δ' σ' H' env' k => k.run env' n b c r x) b c r x
theorem ds_ret (h : DE X W M wx δ e O.rt Ke) : DS X W M wx δ (.Return (some e) pos) O Ke := fun H0 N =>
  PS.imp (ps_ret pe_any) fun Dn σ H ⟨env, n, b, c, r, x⟩ => ex_run h env (fun v H' d env' e1 r1 k => r v H' d env'.xe (r1.mono (hid_more (F := ⟨W, M, H0, N⟩))) k) x
theorem ds_retN (k : O.rt .non) : DS X W M wx δ (.Return none pos) O Ke := fun H0 N => PS.imp ps_retN fun Dn σ H ⟨env, n, b, c, r, x⟩ => r .non H .non env.xe rfl k
theorem ds_pass (k : O.nx δ) : DS X W M wx δ (.Pass pos) O Ke := fun H0 N => PS.imp ps_pass fun Dn σ H ⟨env, n, _⟩ => n δ σ H env k
theorem ds_break (k : O.bk δ) : DS X W M wx δ (.Break pos) O Ke := fun H0 N => PS.imp ps_break fun Dn σ H ⟨env, n, b, _⟩ => b δ σ H env k
theorem ds_continue (k : O.ct δ) : DS X W M wx δ (.Continue pos) O Ke := fun H0 N => PS.imp ps_continue fun Dn σ H ⟨env, n, b, c, _⟩ => c δ σ H env k
theorem ds_if (h : DT X W M wx δ c (fun k => (k = true → DSs X W M wx δ body O Ke) ∧ (k = false → DSs X W M wx δ orelse O Ke)) Ke) : DS X W M wx δ (.If c body orelse pos) O Ke := fun H0 N =>
  PS.imp (ps_if pt_any pss_any pss_any) fun Dn σ H ⟨env, n, b, c, r, x⟩ => tx_run h env (fun k H' env' ⟨k1, k2⟩ => by
    cases k with
    | true => exact (k1 rfl).run env' n b c r x
    | false => exact (k2 rfl).run env' n b c r x) x
theorem ds_never (h : False) : DS X W M wx δ st O Ke := h.elim
/-- an expression whose value is dropped -/
theorem ds_expr (h : DE X W M wx δ e (fun _ => O.nx δ) Ke) (hs : swapsWith e none pos.line X.env = pure false := by rfl) : DS X W M wx δ (.Expr e pos) O Ke := fun H0 N =>
  PS.imp (ps_expr pe_any hs) fun Dn σ H ⟨env, n, b, c, r, x⟩ => ex_run h env (fun v H' d env' e1 r1 k => n δ σ H' env' k) x

/-! storing a datum -/
theorem ownA_set {s : Sl} : ∀ {δ : De} {σ : L2.St} {i : Nat} {o : Option V}, ownA [s] [o] = [] → ∀ a, a ∈ ownA (δ.set i s) (σ.set i o) → a ∈ ownA δ σ
  | [], σ, i, o, h, a, m => by simp [ownA] at m
  | t :: δ, [], i, o, h, a, m => by
    exfalso
    cases i <;> (cases t <;> simp [ownA] at m)
    all_goals (cases s <;> simp [ownA] at m)
  | t :: δ, u :: σ, 0, o, h, a, m => by
    have m' : a ∈ ownA (s :: δ) (o :: σ) := m
    rcases ownA_cons.mp m' with m | m
    · rw [h] at m; simp at m
    · exact ownA_cons.mpr (.inr m)
  | t :: δ, u :: σ, i + 1, o, h, a, m => by
    have m' : a ∈ ownA (t :: δ.set i s) (u :: σ.set i o) := m
    rcases ownA_cons.mp m' with m | m
    · exact ownA_cons.mpr (.inl m)
    · exact ownA_cons.mpr (.inr (ownA_set h a m))
theorem ownA_eq {s : Sl} {o : Option V} {δ : De} {σ : L2.St} : ownA (s :: δ) (o :: σ) = ownA [s] [o] ++ ownA δ σ := by
  cases s <;> (cases o with
    | none => simp [ownA]
    | some v => cases v <;> simp [ownA])
theorem ownA_nodup {s : Sl} : ∀ {δ : De} {σ : L2.St} {i : Nat} {o : Option V}, ownA [s] [o] = [] → (ownA δ σ).Nodup → (ownA (δ.set i s) (σ.set i o)).Nodup
  | [], σ, i, o, h, n => by simp [ownA]
  | t :: δ, [], i, o, h, n => by
    cases i <;> (cases t <;> simp [ownA])
    all_goals (cases s <;> simp [ownA])
  | t :: δ, u :: σ, 0, o, h, n => by
    show (ownA (s :: δ) (o :: σ)).Nodup
    rw [ownA_eq, h, List.nil_append]
    rw [ownA_eq] at n
    exact (List.nodup_append.mp n).2.1
  | t :: δ, u :: σ, i + 1, o, h, n => by
    show (ownA (t :: δ.set i s) (u :: σ.set i o)).Nodup
    rw [ownA_eq] at n ⊢
    obtain ⟨n1, n2, n3⟩ := List.nodup_append.mp n
    exact List.nodup_append.mpr ⟨n1, ownA_nodup h n2, fun a ha b hb => n3 a ha b (ownA_set h b hb)⟩
theorem SlotsOk.set {K : PySem.W.Frag} {dr : Option Dr} {S : List Addr} {H : Hp} {s : Sl} {o : Option V} (h1 : SlotOk K dr S H s o) : ∀ {δ : De} {σ : L2.St} (i : Nat), SlotsOk K dr S H δ σ → SlotsOk K dr S H (δ.set i s) (σ.set i o)
  | [], [], _, _ => trivial
  | t :: δ, u :: σ, 0, h => ⟨h1, h.2⟩
  | t :: δ, u :: σ, i + 1, h => ⟨h.1, SlotsOk.set h1 i h.2⟩
  | [], _ :: _, _, h => h.elim
  | _ :: _, [], _, h => h.elim
/-- a datum is put into a slot -/
theorem EnvOk.put {K : PySem.W.Frag} {W : Wd} {M : List Addr} {σ : L2.St} {H : Hp} {i : Nat} {v : V} {d : D} (h : EnvOk K W M δ σ H) (r : Rep K W.dr (hide (hidA W M δ σ) H) d v) : EnvOk K W M (δ.set i (.im d)) (σ.set i (some v)) H := by
  have k : ExN (hide (hidA W M δ σ) H) (hide (hidA W M (δ.set i (.im d)) (σ.set i (some v))) H) := hide_more fun a ha => by
    simp only [hidA, List.mem_append] at ha ⊢
    rcases ha with ha | ha
    · exact .inl ha
    · exact .inr (ownA_set rfl a ha)
  refine ⟨h.w, h.m, ownA_nodup rfl h.nd, fun a ha => h.dj a (ownA_set rfl a ha), ?_⟩
  exact SlotsOk.set (s := .im d) (o := some v) ⟨v, rfl, r.mono k⟩ i (h.sl.stay k fun a u _ e _ => e)
theorem SEnv.put {F : Fr} {σ : L2.St} {H : Hp} {i : Nat} {v : V} {d : D} (h : SEnv X.K F δ σ H) (r : Rep X.K F.W.dr (hide (hidA F.W F.M δ σ) H) d v) : SEnv X.K F (δ.set i (.im d)) (σ.set i (some v)) H :=
  ⟨h.env.put r, h.ext, fun a ha => h.own a (ownA_set rfl a ha)⟩
/-- x = e -/
theorem ds_set (i : Nat) {x : Str} {pos' : Pos} (hN : X.N.Nodup) (hi : X.N[i]? = some x) (hx : Loc X.env.scope x) (h : DE X W M wx δ e (fun d => O.nx (δ.set i (.im d))) Ke) (hs : swapsWith e (some (.Name x pos')) pos.line X.env = pure false := by rfl) (hf : X.fn x = true ∨ X.env.scope.names.lookup x = some .local := by first | exact .inl rfl | exact .inr rfl | assumption) :
    DS X W M wx δ (.Assign [.Name x pos'] e pos) O Ke := fun H0 N =>
  PS.imp (ps_set hN hi hx pe_any hs hf) fun Dn σ H ⟨env, n, b, c, r, x⟩ => ex_run h env (fun v H' d env' e1 r1 k => n _ _ H' (env'.put r1) k) x
end
end Lay

/-! # DS5: what is walked, comprehensions -/
namespace Lay
open PySem PySem.Spec PyProof.Rows L2

/-- a walk over data -/
def WalkD (K : PySem.W.Frag) (W : Wd) (S : List Addr) (J : It) (ds : List D) (H1 : Hp) : Prop :=
  ∃ (G : Hp → Prop) (Y : Nat → Hp → V → Hp → Prop), Walk J ds.length G Y ∧ (∀ S' H, WOk W H → ExN (hide S H1) (hide S' H) → G H) ∧
    ∀ S' i H x H', i < ds.length → Amb W S' H → ExN (hide S H1) (hide S' H) → Y i H x H' → Ext W H H' ∧ ∃ d, ds[i]? = some d ∧ Rep K W.dr (hide S' H') d x
def tI (K : PySem.W.Frag) (W : Wd) (M : List Addr) (wx : WX) (δ : De) (KI : List D → Prop) (Ke : KX) : TI := fun σ H R =>
  EnvOk K W M δ σ H ∧ (∀ J H1 ds, Ext W H H1 → WalkD K W (hidA W M δ σ) J ds H1 → KI ds → R J H1) ∧
    ∀ x cls dd H', Ext W H H' → XOk K W.dr (hide (hidA W M δ σ) H') x cls dd → Ke x → wx cls dd σ H'
def DI (X : Cx) (W : Wd) (M : List Addr) (wx : WX) (δ : De) (tg e : Expr) (KI : List D → Prop) (Ke : KX) : Prop := PI X tg e (tI X.K W M wx δ KI Ke)
def tiAny (X : Cx) (tg e : Expr) : TI := fun σ H R => ∃ t, PI X tg e t ∧ t σ H R
theorem pi_any {X : Cx} {tg e : Expr} : PI X tg e (tiAny X tg e) := ⟨fun pins s σ H R I ⟨_, h, q⟩ => h.run pins s σ H R I q⟩
section
variable {X : Cx} {tg e : Expr}
theorem PI.imp {t t' : TI} (h : PI X tg e t) (k : ∀ σ H R, t' σ H R → t σ H R) : PI X tg e t' := ⟨fun pins s σ H R I q => h.run pins s σ H R I (k σ H R q)⟩
/-- a list or a tuple -/
def iSeq (K : PySem.W.Frag) (tl : TE) : TI := fun σ H R => tl σ H fun x H1 => ∃ a, x = .ref a ∧ ((∃ xs, SqL K H1 a xs ∧ R (Itl K a) H1) ∨ ∃ xs, SqT K H1 a xs ∧ R (Itt K a) H1)
theorem pi_seq {l : Expr} {tl : TE} (hl : PE X l tl) : PI X tg l (iSeq X.K tl) := by
  refine ⟨fun pins s σ H R I h => thn (hl.run pins s σ H _ I h) fun v s1 ⟨x, H1, I1, r1, a, e, q⟩ => ?_⟩
  subst e
  cases r1
  have new : ∀ b, b ∈ [s1.heap.objs.size] → FpOk X pins H1 b := fun b hb => by
    obtain rfl : b = s1.heap.objs.size := by simpa using hb
    exact I1.fpOk (Nat.le_refl _) (I1.hok.fresh (Nat.le_refl _))
  rcases q with ⟨xs, hq, q⟩ | ⟨xs, hq, q⟩
  · obtain ⟨its, rv, p, hz⟩ := I1.list hq
    exact wpAny_pyIter_list p.isList ⟨_, [s1.heap.objs.size], _, _, H1, rfl, I1.kept (t' := s1.toks) fun b o e => Heap.get?_push_of_some _ e, turn_list a _, ⟨_, Heap.get?_push_size _ rfl, rfl, rfl⟩, new, q⟩
  · obtain ⟨its, rv, p, hz⟩ := I1.tuple hq
    exact wpAny_pyIter_tuple (show s1.heap.IsTuple a its.toArray from p) ⟨_, [s1.heap.objs.size], _, _, H1, rfl, I1.kept (t' := s1.toks) fun b o e => Heap.get?_push_of_some _ e, turn_tuple a _, ⟨_, Heap.get?_push_size _ rfl, rfl, rfl⟩, new, q⟩
end
theorem rep_at {K : PySem.W.Frag} {dr : Option Dr} {H : Hp} {l : List D} {xs : List V} (r : RepL K dr H l xs) {i : Nat} {x : V} (e : xs[i]? = some x) : ∃ d, l[i]? = some d ∧ Rep K dr H d x := r.get e
theorem walkD_list {K : PySem.W.Frag} {W : Wd} {S : List Addr} {a : Addr} {xs : List V} {l : List D} {H1 : Hp} (h : hide S H1 a = some (.lst xs)) (r : RepL K W.dr (hide S H1) l xs) (am : Amb W S H1) : WalkD K W S (Itl K a) l H1 := by
  refine ⟨fun H => SqL K H a xs, YAt xs, by rw [r.length]; exact walk_list, fun S' H _ e => SqL.of (hide_lst (e _ _ h fun _ z => by cases z)), fun S' i H x H' hi am' e y => ?_⟩
  obtain ⟨rfl, y⟩ := y
  obtain ⟨d, h1, h2⟩ := rep_at (r.mono e) y
  exact ⟨Ext.refl am'.w, d, h1, h2⟩
theorem walkD_tup {K : PySem.W.Frag} {W : Wd} {S : List Addr} {a : Addr} {xs : List V} {l : List D} {H1 : Hp} (h : SqT K (hide S H1) a xs) (r : RepL K W.dr (hide S H1) l xs) (am : Amb W S H1) : WalkD K W S (Itt K a) l H1 := by
  refine ⟨fun H => SqT K H a xs, YAt xs, by rw [r.length]; exact walk_tup, fun S' H _ e => hide_SqT (ExN.seqT e h), fun S' i H x H' hi am' e y => ?_⟩
  obtain ⟨rfl, y⟩ := y
  obtain ⟨d, h1, h2⟩ := rep_at (r.mono e) y
  exact ⟨Ext.refl am'.w, d, h1, h2⟩
def intsD (lo : Int) (n : Nat) : List D := (List.range n).map fun (i : Nat) => .int (lo + (i : Int))
theorem walkD_range {K : PySem.W.Frag} {W : Wd} {S : List Addr} {lo : Int} {n : Nat} {H1 : Hp} : WalkD K W S (Itr lo n) (intsD lo n) H1 := by
  refine ⟨fun H => True, YFn fun i => .int (lo + i), by rw [intsD, List.length_map, List.length_range]; exact walk_range, fun S' H _ e => trivial, fun S' i H x H' hi am' e y => ?_⟩
  obtain ⟨rfl, rfl⟩ := y
  refine ⟨Ext.refl am'.w, .int (lo + i), ?_, rfl⟩
  rw [intsD, List.length_map, List.length_range] at hi
  simp [intsD, hi]
theorem walk_zipT {K : PySem.W.Frag} {a b : Addr} {xs ys : List V} {n : Nat} (hn : n = min xs.length ys.length) : Walk (RZ.ItzT K a b) n (fun H => SqT K H a xs ∧ SqT K H b ys) (YPair (fun i => xs[i]?) (fun i => ys[i]?)) := by
  subst hn
  refine ⟨fun i _ hi q => ⟨xs, ys, xs[i]'(by omega), ys[i]'(by omega), q.1, q.2, by simp [show i < xs.length by omega], by simp [show i < ys.length by omega]⟩, fun _ q => ⟨xs, ys, q.1, q.2, by omega⟩, fun i H v H' _ q y => ?_⟩
  obtain ⟨T, x, z, h1, h2, h3, h4, h5⟩ := y
  exact ⟨T, x, z, h1, h2, h3, h4 xs q.1, h5 ys q.2⟩
def zipD (l m : List D) : List D := (l.zip m).map fun p => .tup [p.1, p.2]
theorem walkD_pair {K : PySem.W.Frag} {W : Wd} {S : List Addr} {J : It} {l m : List D} {xs ys : List V} {H1 : Hp} {G : Hp → Prop} (hw : Walk J (min xs.length ys.length) G (YPair (fun i => xs[i]?) (fun i => ys[i]?))) (hG : ∀ S' H, ExN (hide S H1) (hide S' H) → G H)
    (r : RepL K W.dr (hide S H1) l xs) (r2 : RepL K W.dr (hide S H1) m ys) : WalkD K W S J (zipD l m) H1 := by
  refine ⟨G, YPair (fun i => xs[i]?) (fun i => ys[i]?), ?_, fun S' H _ e => hG S' H e, fun S' i H x H' hi am' e y => ?_⟩
  · rw [zipD, List.length_map, List.length_zip, r.length, r2.length]
    exact hw
  · obtain ⟨T, x, y', rfl, hT, rfl, h4, h5⟩ := y
    obtain ⟨d1, a1, b1⟩ := rep_at (r.mono e) h4
    obtain ⟨d2, a2, b2⟩ := rep_at (r2.mono e) h5
    refine ⟨Ext.new am'.w hT, .tup [d1, d2], ?_, rep_tup am' hT (.cons b1 (.cons b2 .nil))⟩
    have z : (l.zip m)[i]? = some (d1, d2) := by
      rw [List.getElem?_zip_eq_some]
      exact ⟨a1, a2⟩
    rw [zipD, List.getElem?_map, z]; rfl
def enumD (l : List D) : List D := zipD (intsD 0 l.length) l
section
variable {X : Cx} {W : Wd} {M : List Addr} {wx : WX} {δ : De} {tg e e2 : Expr} {KI : List D → Prop} {Ke : KX} {p pos tpos : Pos} {elts : List Expr} {kk : Nat}
theorem DI.run {σ : L2.St} {H : Hp} {R : It → Hp → Prop} (h : DI X W M wx δ tg e KI Ke) (env : EnvOk X.K W M δ σ H) (q : ∀ J H1 ds, Ext W H H1 → WalkD X.K W (hidA W M δ σ) J ds H1 → KI ds → R J H1)
    (qx : ∀ x cls dd H', Ext W H H' → XOk X.K W.dr (hide (hidA W M δ σ) H') x cls dd → Ke x → wx cls dd σ H') : tiAny X tg e σ H R := ⟨_, h, env, q, qx⟩
theorem di_seq (h : DE X W M wx δ e (fun d => ∃ l, seqD d = some l ∧ KI l) Ke) : DI X W M wx δ tg e KI Ke :=
  PI.imp (pi_seq pe_any) fun σ H R ⟨env, q, qx⟩ => h.run env (fun x H1 d e1 r1 ⟨l, hl, k⟩ => by
    have am := (env.ext e1).amb
    cases d <;> first | (cases hl; done) | skip
    · cases hl
      obtain ⟨a, xs, rfl, h1, h2⟩ := r1
      exact ⟨a, rfl, .inr ⟨xs, hide_SqT h1, q _ H1 l e1 (walkD_tup h1 h2 am) k⟩⟩
    · cases hl
      obtain ⟨a, xs, rfl, h1, h2⟩ := r1
      exact ⟨a, rfl, .inl ⟨xs, SqL.of (hide_lst h1), q _ H1 l e1 (walkD_list h1 h2 am) k⟩⟩) qx
theorem walkD_frz {K : PySem.W.Frag} {W : Wd} {S : List Addr} {a : Addr} {ns : List Int} {H1 : Hp} (h : SqL K (hide S H1) a (ns.map V.int)) : WalkD K W S (Itl K a) (ns.map D.int) H1 := by
  refine ⟨fun H => SqL K H a (ns.map V.int), YAt (ns.map V.int), by rw [List.length_map, ← List.length_map (f := V.int)]; exact walk_list, fun S' H _ e => ExN.seqL hide_sub (ExN.seqL e h), fun S' i H x H' hi am' e y => ?_⟩
  obtain ⟨rfl, y⟩ := y
  rw [List.getElem?_map] at y
  obtain ⟨n, hn, rfl⟩ := Option.map_eq_some_iff.mp y
  exact ⟨Ext.refl am'.w, .int n, by rw [List.getElem?_map, hn]; rfl, rfl⟩
/-- the list from outside -/
theorem di_frz (h : DE X W M wx δ e (fun d => ∃ ns : List Int, d = .frz ns ∧ KI (ns.map D.int)) Ke) : DI X W M wx δ tg e KI Ke :=
  PI.imp (pi_seq pe_any) fun σ H R ⟨env, q, qx⟩ => h.run env (fun x H1 d e1 r1 ⟨ns, hd, k⟩ => by
    subst hd
    obtain ⟨a, rfl, h1⟩ := r1
    exact ⟨a, rfl, .inl ⟨_, ExN.seqL hide_sub h1, q _ H1 _ e1 (walkD_frz h1) k⟩⟩) qx
theorem di_range1 (hg : Gl X "range") (hm : X.mg "range" = none) (h : DE X W M wx δ e (asI fun j => -(2 ^ 62) ≤ j ∧ j < 2 ^ 62 ∧ KI (intsD 0 j.toNat)) Ke) (hs : starEach [e] X.env = (false, eval e X.env) :: starEach [] X.env := by rfl) :
    DI X W M wx δ tg (.Call (.Name "range" p) [e] [] pos) KI Ke :=
  PI.imp (pi_range1 hg hm (pa_cons pe_any pa_nil hs) hs) fun σ H R ⟨env, q, qx⟩ => h.run env (fun x H1 d e1 r1 k => by
    obtain ⟨j, rfl, h1, h2, k⟩ := asI_ex k
    cases r1
    exact ⟨j, rfl, h1, h2, q _ H1 _ e1 walkD_range k⟩) qx
theorem di_range2 (hg : Gl X "range") (hm : X.mg "range" = none) (h : DE X W M wx δ e (asI fun i => DE X W M wx δ e2 (asI fun j => (-(2 ^ 62) ≤ i ∧ i < 2 ^ 62 ∧ -(2 ^ 62) ≤ j ∧ j < 2 ^ 62) ∧ KI (intsD i (j - i).toNat)) Ke) Ke)
    (hs : starEach [e, e2] X.env = [(false, eval e X.env), (false, eval e2 X.env)] := by rfl) (hs2 : starEach [e2] X.env = [(false, eval e2 X.env)] := by rfl) : DI X W M wx δ tg (.Call (.Name "range" p) [e, e2] [] pos) KI Ke :=
  PI.imp (pi_range2 hg hm (pa_cons pe_any (pa_cons pe_any pa_nil hs2) (by rw [hs, hs2])) hs hs2) fun σ H R ⟨env, q, qx⟩ => h.run env (fun x H1 d e1 r1 k => by
    obtain ⟨i, rfl, k⟩ := asI_ex k
    cases r1
    refine k.run (env.ext e1) (fun y H2 d2 e2 r2 k => ?_) fun x cls dd H' e => qx x cls dd H' (e1.trans e)
    obtain ⟨j, rfl, h1, k⟩ := asI_ex k
    cases r2
    exact ⟨i, j, rfl, h1, q _ H2 _ (e1.trans e2) walkD_range k⟩) qx
/-- two lists, two tuples -/
def gZip : D → D → (List D → Prop) → Prop
  | .tup l, .tup m, k => k (zipD l m)
  | .lst l, .lst m, k => k (zipD l m)
  | _, _, _ => False
theorem di_zip (hg : Gl X "zip") (hm : X.mg "zip" = none) (h : DE X W M wx δ e (fun d1 => DE X W M wx δ e2 (fun d2 => gZip d1 d2 KI) Ke) Ke) (hs : starEach [e, e2] X.env = (false, eval e X.env) :: starEach [e2] X.env := by rfl) (hs2 : starEach [e2] X.env = (false, eval e2 X.env) :: starEach [] X.env := by rfl)
    (hpl : (backTo pos (starEach [e2] X.env)).any (·.1) = false := by rfl) : DI X W M wx δ (.Tuple elts kk tpos) (.Call (.Name "zip" p) [e, e2] [] pos) KI Ke :=
  PI.imp (RZ.pi_zipA hg hm (pa_cons pe_any (pa_cons pe_any pa_nil hs2) hs) hs hpl) fun σ H R ⟨env, q, qx⟩ => h.run env (fun x H1 d1 e1 r1 k => by
    refine k.run (env.ext e1) (fun y H2 d2 e2 r2 k => ?_) fun x cls dd H' e => qx x cls dd H' (e1.trans e)
    have r1 := r1.mono ((env.ext e1).amb.hid e2)
    cases d1 <;> cases d2 <;> first | exact k.elim | skip
    · obtain ⟨a, xs, rfl, h1, h2⟩ := r1
      obtain ⟨b, ys, rfl, h3, h4⟩ := r2
      exact ⟨a, b, xs, ys, rfl, .inr ⟨hide_SqT h1, hide_SqT h3, q _ H2 _ (e1.trans e2) (walkD_pair (walk_zipT rfl) (fun S' H e => ⟨hide_SqT (ExN.seqT e h1), hide_SqT (ExN.seqT e h3)⟩) h2 h4) k⟩⟩
    · obtain ⟨a, xs, rfl, h1, h2⟩ := r1
      obtain ⟨b, ys, rfl, h3, h4⟩ := r2
      exact ⟨a, b, xs, ys, rfl, .inl ⟨SqL.of (hide_lst h1), SqL.of (hide_lst h3), q _ H2 _ (e1.trans e2) (walkD_pair (walk_zip rfl) (fun S' H e => ⟨SqL.of (hide_lst (e _ _ h1 fun _ z => by cases z)), SqL.of (hide_lst (e _ _ h3 fun _ z => by cases z))⟩) h2 h4) k⟩⟩) qx
def intsV (n : Nat) : List V := (List.range n).map fun (i : Nat) => V.int ((i : Nat) : Int)
theorem rep_intsD {K : PySem.W.Frag} {dr : Option Dr} {H : Hp} : ∀ (l : List Nat), RepL K dr H (l.map fun (i : Nat) => D.int (0 + ((i : Nat) : Int))) (l.map fun (i : Nat) => V.int ((i : Nat) : Int))
  | [] => rfl
  | i :: l => ⟨_, _, rfl, by show V.int _ = V.int _; rw [Int.zero_add], rep_intsD l⟩
theorem di_enum (hg : Gl X "enumerate") (hm : X.mg "enumerate" = none) (h : DE X W M wx δ e (fun d => ∃ l, d = .lst l ∧ KI (enumD l)) Ke) (hs : starEach [e] X.env = (false, eval e X.env) :: starEach [] X.env := by rfl) :
    DI X W M wx δ (.Tuple elts kk tpos) (.Call (.Name "enumerate" p) [e] [] pos) KI Ke :=
  PI.imp (pi_enum hg hm (pa_cons pe_any pa_nil hs) hs) fun σ H R ⟨env, q, qx⟩ => h.run env (fun x H1 d e1 r1 ⟨l, hl, k⟩ => by
    subst hl
    obtain ⟨a, xs, rfl, h1, h2⟩ := r1
    refine ⟨a, xs, rfl, SqL.of (hide_lst h1), q _ H1 _ e1 ?_ k⟩
    have hl := h2.length
    refine walkD_pair (xs := intsV l.length) (G := fun H => SqL X.K H a xs) ?_ (fun S' H e => SqL.of (hide_lst (e _ _ h1 fun _ z => by cases z))) (rep_intsD _) h2
    refine ⟨fun i H hi q => ?_, fun H q => ?_, fun i H v H' hi q y => ?_⟩
    · have hi2 : i < xs.length := Nat.lt_of_lt_of_le hi (Nat.min_le_right _ _)
      exact walk_enum.goes i H hi2 q
    · have e : min (intsV l.length).length xs.length = xs.length := by simp [intsV, hl]
      rw [e]
      exact walk_enum.stops H q
    · have hi2 : i < xs.length := Nat.lt_of_lt_of_le hi (Nat.min_le_right _ _)
      obtain ⟨T, x, y', h3, h4, h5, h6, h7⟩ := walk_enum.yields i H v H' hi2 q y
      refine ⟨T, x, y', h3, h4, h5, ?_, h7⟩
      rw [← h6]
      have hi3 : i < l.length := by omega
      simp [intsV, hi3]) qx
end

/-! ### targets -/
/-- a name, or several -/
inductive Tg where
  | n (i : Nat)
  | t (is : List Nat)
def putL : List Nat → List D → De → De
  | i :: is, d :: ds, δ => putL is ds (δ.set i (.im d))
  | _, _, δ => δ
def putV : List Nat → List V → L2.St → L2.St
  | i :: is, v :: vs, σ => putV is vs (σ.set i (some v))
  | _, _, σ => σ
def Tg.put : Tg → D → De → De
  | .n i, d, δ => δ.set i (.im d)
  | .t is, .tup l, δ => putL is l δ
  | _, _, δ => δ
def Tg.fits : Tg → D → Prop
  | .n _, _ => True
  | .t is, .tup l => l.length = is.length
  | _, _ => False
def Tg.slots : Tg → List Nat
  | .n i => [i]
  | .t is => is
def gNames : List Nat → TGs
  | [] => gNil
  | i :: is => gCons (gName i) (gNames is)
def Tg.g (K : PySem.W.Frag) : Tg → TG
  | .n i => gName i
  | .t is => gTup K is.length (gNames is)
theorem gNames_run : ∀ {is : List Nat} {vs : List V} {σ : L2.St} {H : Hp} {Q : L2.St → Hp → Prop}, vs.length = is.length → Q (putV is vs σ) H → gNames is vs σ H Q
  | [], [], σ, H, Q, _, q => ⟨rfl, q⟩
  | i :: is, v :: vs, σ, H, Q, h, q => ⟨v, vs, rfl, gNames_run (by simpa using h) q⟩
  | [], _ :: _, _, _, _, h, _ => by simp at h
  | _ :: _, [], _, _, _, h, _ => by simp at h
def Tg.σ : Tg → D → V → L2.St → List V → L2.St
  | .n i, _, v, σ, _ => σ.set i (some v)
  | .t is, _, _, σ, vs => putV is vs σ
theorem ownA_sets {δ : De} {σ : L2.St} : ∀ (is : List Nat) (ds : List D) (vs : List V), ∀ a, a ∈ ownA (putL is ds δ) (putV is vs σ) → vs.length = ds.length → a ∈ ownA δ σ
  | [], ds, vs, a, h, _ => by cases ds <;> exact h
  | i :: is, [], [], a, h, _ => h
  | i :: is, d :: ds, v :: vs, a, h, hl => ownA_set rfl a (ownA_sets (δ := δ.set i (.im d)) (σ := σ.set i (some v)) is ds vs a h (by simpa using hl))
  | i :: is, [], _ :: _, _, _, hl => by simp at hl
  | i :: is, _ :: _, [], _, _, hl => by simp at hl
theorem hidA_set {W : Wd} {M : List Addr} {δ : De} {σ : L2.St} {H : Hp} {i : Nat} {d : D} {v : V} : ExN (hide (hidA W M δ σ) H) (hide (hidA W M (δ.set i (.im d)) (σ.set i (some v))) H) := hide_more fun a ha => by
  simp only [hidA, List.mem_append] at ha ⊢
  rcases ha with ha | ha
  · exact .inl ha
  · exact .inr (ownA_set rfl a ha)
theorem EnvOk.puts {K : PySem.W.Frag} {W : Wd} {M : List Addr} {H : Hp} : ∀ {is : List Nat} {ds : List D} {vs : List V} {δ : De} {σ : L2.St}, EnvOk K W M δ σ H → RepL K W.dr (hide (hidA W M δ σ) H) ds vs → EnvOk K W M (putL is ds δ) (putV is vs σ) H
  | [], ds, vs, δ, σ, h, r => by cases ds <;> cases vs <;> exact h
  | i :: is, [], vs, δ, σ, h, r => by cases r; exact h
  | i :: is, d :: ds, vs, δ, σ, h, r => by
    obtain ⟨v, ws, rfl, h1, h2⟩ := r
    exact EnvOk.puts (is := is) (δ := δ.set i (.im d)) (σ := σ.set i (some v)) (h.put h1) (h2.mono hidA_set)
/-- a datum is put where a target says -/
theorem Tg.run {K : PySem.W.Frag} {W : Wd} {M : List Addr} {δ : De} {σ : L2.St} {H : Hp} {t : Tg} {d : D} {v : V} {Q : L2.St → Hp → Prop} (env : EnvOk K W M δ σ H) (r : Rep K W.dr (hide (hidA W M δ σ) H) d v) (hf : t.fits d)
    (q : ∀ σ', EnvOk K W M (t.put d δ) σ' H → (∀ a, a ∈ ownA (t.put d δ) σ' → a ∈ ownA δ σ) → (∃ vs, vs.length = t.slots.length ∧ σ' = putV t.slots vs σ) → Q σ' H) : t.g K v σ H Q := by
  cases t with
  | n i => exact q _ (env.put r) (ownA_set rfl) ⟨[v], rfl, rfl⟩
  | t is =>
    cases d <;> first | exact hf.elim | skip
    obtain ⟨a, xs, rfl, h1, h2⟩ := r
    refine ⟨a, xs, rfl, hide_SqT h1, by rw [← h2.length]; exact hf, gNames_run (by rw [← h2.length]; exact hf) (q _ (env.puts h2) (fun a ha => ownA_sets is _ _ a ha h2.length.symm) ⟨xs, by rw [← h2.length]; exact hf, rfl⟩)⟩
theorem wipe_put {vs : List Nat} {σ : L2.St} : ∀ {is : List Nat} {xs : List V} {σ2 : L2.St}, (∀ i ∈ is, i ∈ vs) → wipe σ2 vs = wipe σ vs → wipe (putV is xs σ2) vs = wipe σ vs
  | [], xs, σ2, _, h => by cases xs <;> exact h
  | i :: is, [], σ2, _, h => h
  | i :: is, x :: xs, σ2, hm, h => by
    refine wipe_put (is := is) (xs := xs) (σ2 := σ2.set i (some x)) (fun j hj => hm j (List.mem_cons_of_mem _ hj)) ?_
    have z : ∀ (vs : List Nat), i ∈ vs → wipe (σ2.set i (some x)) vs = wipe σ2 vs := by
      intro vs
      induction vs with
      | nil => intro h; simp at h
      | cons v vs ih =>
        intro hv
        show (wipe (σ2.set i (some x)) vs).set v none = (wipe σ2 vs).set v none
        by_cases e : i ∈ vs
        · rw [ih e]
        · have ev : i = v := by simpa [e] using hv
          subst ev
          have w : ∀ (vs : List Nat), i ∉ vs → wipe (σ2.set i (some x)) vs = (wipe σ2 vs).set i (some x) := by
            intro vs
            induction vs with
            | nil => intro _; rfl
            | cons u vs ih2 =>
              intro hu
              simp only [List.mem_cons, not_or] at hu
              show (wipe (σ2.set i (some x)) vs).set u none = ((wipe σ2 vs).set u none).set i (some x)
              rw [ih2 hu.2, List.set_comm _ _ (Ne.symm hu.1)]
          rw [w vs e, List.set_set]
    rw [z vs (hm i List.mem_cons_self)]
    exact h
theorem wipe_wipe {σ : L2.St} (vs : List Nat) : wipe (wipe σ vs) vs = wipe σ vs := by
  have set_wipe : ∀ (us : List Nat) (i : Nat) (τ : L2.St), wipe (τ.set i none) us = (wipe τ us).set i none := by
    intro us
    induction us with
    | nil => intro i τ; rfl
    | cons u us ih =>
      intro i τ
      show (wipe (τ.set i none) us).set u none = ((wipe τ us).set u none).set i none
      rw [ih]
      by_cases e : i = u
      · subst e; rfl
      · rw [List.set_comm _ _ e]
  induction vs with
  | nil => rfl
  | cons v vs ih =>
    show (wipe ((wipe σ vs).set v none) vs).set v none = (wipe σ vs).set v none
    rw [set_wipe, ih, List.set_set]
end Lay

/-! # DS6: comprehensions, loops -/
namespace Lay
open PySem PySem.Spec PyProof.Rows L2

def noOw : Sl → Bool
  | .ow _ => false
  | .oi _ _ _ _ => false
  | _ => true
theorem noOw_nil {s : Sl} {o : Option V} (h : noOw s = true) : ownA [s] [o] = [] := by
  cases s <;> first | (cases h; done) | (cases o with
    | none => rfl
    | some v => cases v <;> rfl)
/-- no slot of these is one's own -/
def noOwn (δ : De) (vs : List Nat) : Bool := vs.all fun i => match δ[i]? with | some s => noOw s | none => true
theorem ownA_set_eq {s : Sl} (hs : noOw s = true) : ∀ {δ : De} {σ : L2.St} {i : Nat} {o : Option V}, (∀ t, δ[i]? = some t → noOw t = true) → ownA (δ.set i s) (σ.set i o) = ownA δ σ
  | [], σ, i, o, _ => rfl
  | t :: δ, [], i, o, h => by
    cases i <;> (cases t <;> simp [ownA])
    all_goals (cases s <;> simp [ownA])
  | t :: δ, u :: σ, 0, o, h => by
    show ownA (s :: δ) (o :: σ) = ownA (t :: δ) (u :: σ)
    rw [ownA_eq (s := s) (o := o), ownA_eq (s := t) (o := u), noOw_nil hs, noOw_nil (h t rfl)]
  | t :: δ, u :: σ, i + 1, o, h => by
    show ownA (t :: δ.set i s) (u :: σ.set i o) = ownA (t :: δ) (u :: σ)
    rw [ownA_eq (s := t) (o := u) (δ := δ.set i s), ownA_eq (s := t) (o := u) (δ := δ), ownA_set_eq hs (fun t' e => h t' (by simpa using e))]
def wipeD (δ : De) : List Nat → De
  | [] => δ
  | v :: vs => (wipeD δ vs).set v .un
theorem wipeD_get {δ : De} : ∀ {vs : List Nat} {i : Nat} {t : Sl}, (wipeD δ vs)[i]? = some t → t = .un ∨ δ[i]? = some t
  | [], i, t, h => .inr h
  | v :: vs, i, t, h => by
    have h' : ((wipeD δ vs).set v .un)[i]? = some t := h
    rw [List.getElem?_set] at h'
    split at h'
    · split at h'
      · exact .inl (Option.some.inj h').symm
      · cases h'
    · exact wipeD_get h'
theorem wipeD_own {δ : De} {σ : L2.St} : ∀ {vs : List Nat}, noOwn δ vs = true → ownA (wipeD δ vs) (wipe σ vs) = ownA δ σ
  | [], _ => rfl
  | v :: vs, h => by
    simp only [noOwn, List.all_cons, Bool.and_eq_true] at h
    show ownA ((wipeD δ vs).set v .un) ((wipe σ vs).set v none) = ownA δ σ
    rw [ownA_set_eq rfl fun t e => ?_]
    · exact wipeD_own h.2
    · rcases wipeD_get e with e | e
      · rw [e]; rfl
      · have := h.1
        rw [e] at this
        exact this
theorem SlotsOk.wipe {K : PySem.W.Frag} {dr : Option Dr} {S : List Addr} {H : Hp} {δ : De} {σ : L2.St} (h : SlotsOk K dr S H δ σ) : ∀ vs : List Nat, SlotsOk K dr S H (wipeD δ vs) (wipe σ vs)
  | [] => h
  | v :: vs => SlotsOk.set (s := .un) (o := none) trivial v (SlotsOk.wipe h vs)
theorem EnvOk.wipe {K : PySem.W.Frag} {W : Wd} {M : List Addr} {δ : De} {σ : L2.St} {H : Hp} (h : EnvOk K W M δ σ H) {vs : List Nat} (hn : noOwn δ vs = true) : EnvOk K W M (wipeD δ vs) (wipe σ vs) H := by
  have e := wipeD_own (σ := σ) hn
  refine ⟨h.w, h.m, by rw [e]; exact h.nd, by rw [e]; exact h.dj, ?_⟩
  have e2 : hidA W M (wipeD δ vs) (L2.wipe σ vs) = hidA W M δ σ := by rw [hidA, hidA, e]
  rw [e2]
  exact h.sl.wipe vs
/-- a new object is hidden from now on -/
theorem EnvOk.hideNew {K : PySem.W.Frag} {W : Wd} {M : List Addr} {δ : De} {σ : L2.St} {H H' : Hp} {p : Addr} {o : HO} (h : EnvOk K W M δ σ H) (hp : H p = none) (e : Ext W H H') (ho : H' p = some o) (nt : ∀ ps, o ≠ .tbl ps) : EnvOk K W (p :: M) δ σ H' := by
  have am := h.amb
  have hS := am.new hp
  simp only [hidA, List.mem_append, not_or] at hS
  have h' := h.ext e
  refine ⟨e.ok, fun a ha => ?_, h.nd, fun a ha => ⟨(h.dj a ha).1, fun z => ?_⟩, ?_⟩
  · rcases List.mem_cons.mp ha with rfl | ha
    · exact ⟨hS.1.1, o, ho, nt⟩
    · exact h'.m a ha
  · rcases List.mem_cons.mp z with rfl | z
    · exact hS.2 ha
    · exact (h.dj a ha).2 z
  · refine h.sl.stay (fun b u hb t => ?_) fun a u ha => e.keep a u (h.dj a ha).1
    obtain ⟨h1, h2⟩ := hide_some hb
    refine hide_of (fun z => ?_) (e.keep b u (fun z => h1 (by simp [hidA, z])) h2 t)
    simp only [hidA, List.mem_append, List.mem_cons] at z h1
    rcases z with (z | z | z) | z
    · exact h1 (.inl (.inl z))
    · subst z; rw [hp] at h2; cases h2
    · exact h1 (.inl (.inr z))
    · exact h1 (.inr z)
theorem noOwn_put {t : Tg} {d : D} {δ : De} {σ : L2.St} {vs : List V} (hf : t.fits d) (hn : ∀ i ∈ t.slots, ∀ s, δ[i]? = some s → noOw s = true) (hl : vs.length = t.slots.length) : ownA (t.put d δ) (putV t.slots vs σ) = ownA δ σ := by
  have go : ∀ (is : List Nat) (ds : List D) (vs : List V) (δ : De) (σ : L2.St), ds.length = is.length → vs.length = is.length → (∀ i ∈ is, ∀ s, δ[i]? = some s → noOw s = true) → ownA (putL is ds δ) (putV is vs σ) = ownA δ σ := by
    intro is
    induction is with
    | nil => intro ds vs δ σ h1 h2 _; cases ds <;> cases vs <;> first | rfl | (simp at h1 h2)
    | cons i is ih =>
      intro ds vs δ σ h1 h2 hn
      cases ds with
      | nil => simp at h1
      | cons d ds =>
        cases vs with
        | nil => simp at h2
        | cons v vs =>
          show ownA (putL is ds (δ.set i (.im d))) (putV is vs (σ.set i (some v))) = ownA δ σ
          rw [ih ds vs _ _ (by simpa using h1) (by simpa using h2) fun j hj s e => ?_]
          · exact ownA_set_eq rfl (hn i List.mem_cons_self)
          · rw [List.getElem?_set] at e
            split at e
            · split at e
              · cases e; rfl
              · cases e
            · exact hn j (List.mem_cons_of_mem _ hj) s e
  cases t with
  | n i =>
    cases vs with
    | nil => simp [Tg.slots] at hl
    | cons v vs =>
      cases vs with
      | nil => exact ownA_set_eq rfl (hn i (by simp [Tg.slots]))
      | cons _ _ => simp [Tg.slots] at hl
  | t is =>
    cases d <;> first | exact hf.elim | skip
    exact go is _ vs δ σ hf hl hn
/-- what a comprehension's turns give -/
inductive Coll (R : D → Option D → Prop) : List D → List D → Prop
  | nil : Coll R [] []
  | take {d y : D} {ds l : List D} : Coll R ds l → R d (some y) → Coll R (ds ++ [d]) (l ++ [y])
  | skip {d : D} {ds l : List D} : Coll R ds l → R d none → Coll R (ds ++ [d]) l
theorem take_more {ds : List D} {i : Nat} {d : D} (h : ds[i]? = some d) : ds.take (i + 1) = ds.take i ++ [d] := by
  rw [List.take_add_one, h]; rfl
abbrev wx0 : WX := fun _ _ _ _ => False
abbrev kx0 : KX := fun _ => False
section
variable {X : Cx} {W : Wd} {M : List Addr} {wx : WX} {δ : De} {tg iter elt c : Expr} {scope : Scope} {Kp : KD} {Ke : KX} {pos : Pos} {own : List (Str × Nat)} {t : Tg}
/-- the block's context -/
abbrev BX (X : Cx) (scope : Scope) (s : Shared) (H : Hp) (C : Addr) (cl : List (Str × Addr)) (fp : List Addr) : Cx := X.blk s H scope (compEnvC scope cl C X.env) fp
theorem lc_run {tt : TT} {te : TE} {σ : L2.St} {H1 : Hp} {J : It} {ds : List D} {R : D → Option D → Prop} {Q : VK} {A : Addr} (env : EnvOk X.K W M δ σ H1) (hn : noOwn δ (own.map (·.2)) = true) (hsl : ∀ i ∈ t.slots, i ∈ own.map (·.2))
    (hw : WalkD X.K W (hidA W M δ σ) J ds H1) (hds : ds.length ≤ 16777216) (hA : H1 A = none) (fits : ∀ d ∈ ds, t.fits d)
    (body : ∀ d ∈ ds, ∀ σ' H' (Qt : Hp → Prop) (Qf : Hp → Prop), EnvOk X.K W (A :: M) (t.put d (wipeD δ (own.map (·.2)))) σ' H' → (∀ y H4 d', Ext W H' H4 → Rep X.K W.dr (hide (hidA W (A :: M) (t.put d (wipeD δ (own.map (·.2)))) σ') H4) d' y → R d (some d') → ∃ acc, H4 A = some (.lst acc) ∧ acc.length < sizeLine ∧ Qt (upd H4 A (.lst (acc ++ [y])))) →
      (∀ H3, Ext W H' H3 → R d none → Qf H3) → tt σ' H' fun b H3 => if b = true then te σ' H3 fun y H4 => ∃ acc, H4 A = some (.lst acc) ∧ acc.length < sizeLine ∧ Qt (upd H4 A (.lst (acc ++ [y]))) else Qf H3)
    (fin : ∀ l H', Ext W H1 H' → Rep X.K W.dr (hide (hidA W M δ σ) H') (.lst l) (.ref A) → Coll R ds l → Q (.ref A) H') :
    ∃ Z : Nat → Nat → Hp → Prop, (∃ m, Z 0 m (upd H1 A (.lst []))) ∧ ∀ i m H, Z i m H →
      (J.stop i H ∧ Q (.ref A) H) ∨ (J.go i H ∧ ∃ Nx : Hp → Prop, (∀ H', Nx H' → ∃ m', m' < m ∧ Z (i + 1) m' H') ∧ ∀ x H', J.yld i H x H' → t.g X.K x (wipe σ (own.map (·.2))) H' fun σ2 H2 => wipe σ2 (own.map (·.2)) = wipe σ (own.map (·.2)) ∧ tt σ2 H2 fun b H3 =>
        if b = true then te σ2 H3 fun y H4 => ∃ acc, H4 A = some (.lst acc) ∧ acc.length < sizeLine ∧ Nx (upd H4 A (.lst (acc ++ [y]))) else Nx H3) := by
  obtain ⟨G, Y, hwk, hG, hY⟩ := hw
  have am1 := env.amb
  have AS := am1.new hA
  have Arg : A ∉ W.rg := fun z => AS (by simp [hidA, z])
  -- what is hidden grows by A
  have hx : ∀ H, Ext W H1 H → ExN (hide (hidA W M δ σ) H1) (hide (A :: hidA W M δ σ) H) := fun H e b u hb tt => by
    obtain ⟨h1, h2⟩ := hide_some hb
    refine hide_of (fun z => ?_) (e.keep b u (fun z => h1 (by simp [hidA, z])) h2 tt)
    rcases List.mem_cons.mp z with rfl | z
    · rw [hA] at h2; cases h2
    · exact h1 z
  refine lc_it hwk (fun i H => Ext W H1 H ∧ ∃ acc l, H A = some (.lst acc) ∧ RepL X.K W.dr (hide (A :: hidA W M δ σ) H) l acc ∧ Coll R (ds.take i) l ∧ acc.length ≤ i) ?_ (fun i H _ h => hG _ H h.1.ok (hx H h.1)) ?_ ?_
  · exact ⟨Ext.new env.w hA, [], [], upd_same, rfl, .nil, Nat.le_refl _⟩
  · rintro i x H H' hi ⟨e1, acc, l, ha, hr, hc, hl⟩ y
    have envW := (env.wipe hn).hideNew (p := A) hA e1 ha (fun _ z => by cases z)
    have amW : Amb W (A :: hidA W M δ σ) H := by
      have am := envW.amb
      refine ⟨am.w, fun a ha => by simp [hidA, ha], fun a ha' => am.tr a ?_⟩
      simp only [hidA, wipeD_own hn, List.mem_append, List.mem_cons] at ha' ⊢
      rcases ha' with z | (z | z) | z
      · exact .inl (.inr (.inl z))
      · exact .inl (.inl z)
      · exact .inl (.inr (.inr z))
      · exact .inr z
    obtain ⟨e2, d, hd, hrd⟩ := hY _ i H x H' hi amW (hx H e1) y
    have dm : d ∈ ds := List.mem_of_getElem? hd
    have envW' := envW.ext e2
    have sub1 : ∀ H, ExN (hide (A :: hidA W M δ σ) H) (hide (hidA W (A :: M) (wipeD δ (own.map (·.2))) (wipe σ (own.map (·.2)))) H) := fun H => hide_more fun a ha' => by
      simp only [hidA, wipeD_own hn, List.mem_append, List.mem_cons] at ha' ⊢
      rcases ha' with (z | z | z) | z
      · exact .inr (.inl (.inl z))
      · exact .inl z
      · exact .inr (.inl (.inr z))
      · exact .inr (.inr z)
    refine Tg.run envW' (hrd.mono (sub1 H')) (fits d dm) fun σ' env' _ hσ => ?_
    obtain ⟨vs, hvl, hσ⟩ := hσ
    have hown : ownA (t.put d (wipeD δ (own.map (·.2)))) σ' = ownA δ σ := by
      rw [hσ, noOwn_put (fits d dm) (fun i hi s e => ?_) hvl, wipeD_own hn]
      have him := hsl i hi
      have : ∀ (vs : List Nat), i ∈ vs → ∀ s, (wipeD δ vs)[i]? = some s → noOw s = true := by
        intro vs
        induction vs with
        | nil => intro h; simp at h
        | cons v vs ih =>
          intro hm s hs
          have hs' : ((wipeD δ vs).set v .un)[i]? = some s := hs
          rw [List.getElem?_set] at hs'
          split at hs'
          · split at hs'
            · cases hs'; rfl
            · cases hs'
          · rename_i hne
            rcases List.mem_cons.mp hm with z | z
            · exact absurd z.symm hne
            · exact ih z s hs'
      exact this _ him s e
    refine ⟨by rw [hσ]; exact wipe_put (fun i hi => hsl i hi) (wipe_wipe _), ?_⟩
    refine body d dm σ' H' (fun H => Ext W H1 H ∧ ∃ acc l, H A = some (.lst acc) ∧ RepL X.K W.dr (hide (A :: hidA W M δ σ) H) l acc ∧ Coll R (ds.take (i + 1)) l ∧ acc.length ≤ i + 1)
      (fun H => Ext W H1 H ∧ ∃ acc l, H A = some (.lst acc) ∧ RepL X.K W.dr (hide (A :: hidA W M δ σ) H) l acc ∧ Coll R (ds.take (i + 1)) l ∧ acc.length ≤ i + 1) env' (fun y' H4 d' e3 r3 hR => ?_) (fun H3 e3 hR => ?_)
    · have e4 := e1.trans (e2.trans e3)
      have ha4 : H4 A = some (.lst acc) := (e2.trans e3).keep A _ Arg ha (fun _ z => by cases z)
      refine ⟨acc, ha4, by rw [sizeLine_eq]; omega, ⟨fun b o hb h1 tt => ?_, e4.ok.write ha4 trivial (fun φ z => by cases z) Arg⟩, acc ++ [y'], l ++ [d'], upd_same, ?_, ?_, by simp; omega⟩
      · rw [upd_ne (ne_of_none h1 hA)]
        exact e4.keep b o hb h1 tt
      · have k1 : ExN (hide (A :: hidA W M δ σ) H) (hide (A :: hidA W M δ σ) (upd H4 A (.lst (acc ++ [y'])))) := fun b u hb tt => by
          obtain ⟨h1, h2⟩ := hide_some hb
          refine hide_of h1 ?_
          rw [upd_ne (fun z => h1 (by simp [z]))]
          exact (e2.trans e3).keep b u (fun z => h1 (by simp [hidA, z])) h2 tt
        have k2 : ExN (hide (hidA W (A :: M) (t.put d (wipeD δ (own.map (·.2)))) σ') H4) (hide (A :: hidA W M δ σ) (upd H4 A (.lst (acc ++ [y'])))) := fun b u hb tt => by
          obtain ⟨h1, h2⟩ := hide_some hb
          have h1' : b ∉ A :: hidA W M δ σ := fun z => h1 (by
            simp only [hidA, hown, List.mem_append, List.mem_cons] at z ⊢
            rcases z with z | (z | z) | z
            · exact .inl (.inr (.inl z))
            · exact .inl (.inl z)
            · exact .inl (.inr (.inr z))
            · exact .inr z)
          refine hide_of h1' ?_
          rw [upd_ne (fun z => h1' (by simp [z]))]
          exact h2
        exact (hr.mono k1).append (.cons (r3.mono k2) .nil)
      · rw [take_more hd]
        exact .take hc hR
    · have e4 := e1.trans (e2.trans e3)
      refine ⟨e4, acc, l, (e2.trans e3).keep A _ Arg ha (fun _ z => by cases z), hr.mono fun b u hb tt => ?_, ?_, by omega⟩
      · obtain ⟨h1, h2⟩ := hide_some hb
        exact hide_of h1 ((e2.trans e3).keep b u (fun z => h1 (by simp [hidA, z])) h2 tt)
      · rw [take_more hd]
        exact .skip hc hR
  · rintro H ⟨e1, acc, l, ha, hr, hc, hl⟩
    rw [List.take_length] at hc
    exact fin l H e1 ⟨A, acc, rfl, hide_of AS ha, hr.mono (hide_more fun a ha => List.mem_cons_of_mem _ ha)⟩ hc
/-- what a comprehension asks of one item: the item fits the target; the element is taken, or not -/
def LcE (X : Cx) (W : Wd) (M : List Addr) (δ : De) (scope : Scope) (elt : Expr) (K : KD) : Prop := ∀ s H C cl fp, DE (BX X scope s H C cl fp) W M wx0 δ elt K kx0
def LcB (X : Cx) (W : Wd) (M : List Addr) (δ : De) (scope : Scope) (vs : List Nat) (t : Tg) (elt : Expr) (R : D → Option D → Prop) (d : D) : Prop := t.fits d ∧ ∀ A, LcE X W (A :: M) (t.put d (wipeD δ vs)) scope elt fun y => R d (some y)
def LcC (X : Cx) (W : Wd) (M : List Addr) (δ : De) (scope : Scope) (vs : List Nat) (t : Tg) (elt c : Expr) (R : D → Option D → Prop) (d : D) : Prop := t.fits d ∧ ∀ A s H C cl fp,
  DT (BX X scope s H C cl fp) W (A :: M) wx0 (t.put d (wipeD δ vs)) c (fun b => (b = true → LcE X W (A :: M) (t.put d (wipeD δ vs)) scope elt fun y => R d (some y)) ∧ (b = false → R d none)) kx0
def tAnyB (X : Cx) (scope : Scope) (e : Expr) : TE := fun σ H Q => ∃ t, (∀ s H C cl fp, PE (BX X scope s H C cl fp) e t) ∧ t σ H Q
theorem pe_anyB {e : Expr} (s : Shared) (H : Hp) (C : Addr) (cl : List (Str × Addr)) (fp : List Addr) : PE (BX X scope s H C cl fp) e (tAnyB X scope e) := ⟨fun pins s' σ H' Q I ⟨_, h, q⟩ => (h s H C cl fp).run pins s' σ H' Q I q⟩
def ttAnyB (X : Cx) (scope : Scope) (e : Expr) : TT := fun σ H Q => ∃ t, (∀ s H C cl fp, PT (BX X scope s H C cl fp) e t) ∧ t σ H Q
theorem pt_anyB {e : Expr} (s : Shared) (H : Hp) (C : Addr) (cl : List (Str × Addr)) (fp : List Addr) : PT (BX X scope s H C cl fp) e (ttAnyB X scope e) := ⟨fun pins s' σ H' Q I ⟨_, h, q⟩ => (h s H C cl fp).run pins s' σ H' Q I q⟩
theorem LcE.run {σ : L2.St} {H : Hp} {Q : VK} (h : LcE X W M δ scope elt Kp) (env : EnvOk X.K W M δ σ H) (q : ∀ v H' d, Ext W H H' → Rep X.K W.dr (hide (hidA W M δ σ) H') d v → Kp d → Q v H') : tAnyB X scope elt σ H Q :=
  ⟨tE X.K W M wx0 δ Kp kx0, h, env, q, fun x cls dd H' _ _ z => z.elim⟩
theorem dx_lc (own : List (Str × Nat)) (t : Tg) (hc : X.calm = true) (nd : X.N.Nodup) (ok : BlkOk X.N X.env.scope scope own) (hn : noOwn δ (own.map (·.2)) = true) (hsl : ∀ i ∈ t.slots, i ∈ own.map (·.2))
    (hg : ∀ s H C cl fp, PG (BX X scope s H C cl fp) tg (t.g X.K)) (h : DI X W M wx δ tg iter (fun ds => ds.length ≤ 16777216 ∧ ∃ R : D → Option D → Prop, (∀ d ∈ ds, LcB X W M δ scope (own.map (·.2)) t elt R d) ∧ ∀ l, Coll R ds l → Kp (.lst l)) Ke)
    (hs : ∀ x, foldedSetIterable iter X.env x = pure x := by intro _; rfl) : DE X W M wx δ (.ListComp elt [⟨tg, iter, [], 0⟩] scope pos) Kp Ke :=
  PE.imp (pe_lc hc nd pi_any ok hg (fun _ _ _ _ _ => pts_nil) pe_anyB hs) fun σ H Q ⟨env, q, qx⟩ => h.run env (fun J H1 ds e1 hw ⟨hds, R, hb, hk⟩ A hA =>
    lc_run (env.ext e1) hn hsl hw hds hA (fun d hd => (hb d hd).1) (fun d hd σ' H' Qt Qf env' qt qf => iteT (B := Qf H') (((hb d hd).2 A).run env' qt)) fun l H' e2 r2 hc => q _ H' _ (e1.trans e2) r2 (hk l hc)) qx
theorem dx_lcIf (own : List (Str × Nat)) (t : Tg) (hc : X.calm = true) (nd : X.N.Nodup) (ok : BlkOk X.N X.env.scope scope own) (hn : noOwn δ (own.map (·.2)) = true) (hsl : ∀ i ∈ t.slots, i ∈ own.map (·.2))
    (hg : ∀ s H C cl fp, PG (BX X scope s H C cl fp) tg (t.g X.K)) (h : DI X W M wx δ tg iter (fun ds => ds.length ≤ 16777216 ∧ ∃ R : D → Option D → Prop, (∀ d ∈ ds, LcC X W M δ scope (own.map (·.2)) t elt c R d) ∧ ∀ l, Coll R ds l → Kp (.lst l)) Ke)
    (hs : ∀ x, foldedSetIterable iter X.env x = pure x := by intro _; rfl) : DE X W M wx δ (.ListComp elt [⟨tg, iter, [c], 0⟩] scope pos) Kp Ke :=
  PE.imp (pe_lc hc nd pi_any ok hg (fun s H C cl fp => pts_one (pt_anyB s H C cl fp)) pe_anyB hs) fun σ H Q ⟨env, q, qx⟩ => h.run env (fun J H1 ds e1 hw ⟨hds, R, hb, hk⟩ A hA =>
    lc_run (env.ext e1) hn hsl hw hds hA (fun d hd => (hb d hd).1) (fun d hd σ' H' Qt Qf env' qt qf =>
      ⟨tT X.K W (A :: M) wx0 (t.put d (wipeD δ (List.map (fun (p : Str × Nat) => p.2) own))) (fun b => (b = true → LcE X W (A :: M) (t.put d (wipeD δ (List.map (fun (p : Str × Nat) => p.2) own))) scope elt fun y => R d (some y)) ∧ (b = false → R d none)) kx0, (hb d hd).2 A, env', fun b H3 e3 ⟨k1, k2⟩ => by
        cases b with
        | true => exact iteT ((k1 rfl).run (env'.ext e3) fun y H4 d' e4 r k => qt y H4 d' (e3.trans e4) r k)
        | false => exact iteF (qf H3 e3 (k2 rfl)), fun x cls dd H' _ _ z => z.elim⟩) fun l H' e2 r2 hc => q _ H' _ (e1.trans e2) r2 (hk l hc)) qx
/-- over a name -/
theorem dx_lcN (i : Nat) {x : Str} {px : Pos} (hc : X.calm = true) (nd : X.N.Nodup) (hb : blkC X.N X.env.scope scope [(x, i)] = true) (hn : noOwn δ [i] = true) (hN : X.N[i]? = some x)
    (hl : ∀ s H C cl fp, Loc (BX X scope s H C cl fp).env.scope x ∧ ((BX X scope s H C cl fp).fn x = true ∨ (BX X scope s H C cl fp).env.scope.names.lookup x = some .local)) (h : DI X W M wx δ (.Name x px) iter (fun ds => ds.length ≤ 16777216 ∧ ∃ R : D → Option D → Prop, (∀ d ∈ ds, LcB X W M δ scope [i] (.n i) elt R d) ∧ ∀ l, Coll R ds l → Kp (.lst l)) Ke)
    (hs : ∀ x, foldedSetIterable iter X.env x = pure x := by intro _; rfl) : DE X W M wx δ (.ListComp elt [⟨.Name x px, iter, [], 0⟩] scope pos) Kp Ke :=
  dx_lc [(x, i)] (.n i) hc nd (blkOk_by hb) hn (fun j hj => hj) (fun s H C cl fp => pg_name (X := BX X scope s H C cl fp) nd hN (hl s H C cl fp).1 (hl s H C cl fp).2) h hs
theorem dx_lcNIf (i : Nat) {x : Str} {px : Pos} (hc : X.calm = true) (nd : X.N.Nodup) (hb : blkC X.N X.env.scope scope [(x, i)] = true) (hn : noOwn δ [i] = true) (hN : X.N[i]? = some x)
    (hl : ∀ s H C cl fp, Loc (BX X scope s H C cl fp).env.scope x ∧ ((BX X scope s H C cl fp).fn x = true ∨ (BX X scope s H C cl fp).env.scope.names.lookup x = some .local)) (h : DI X W M wx δ (.Name x px) iter (fun ds => ds.length ≤ 16777216 ∧ ∃ R : D → Option D → Prop, (∀ d ∈ ds, LcC X W M δ scope [i] (.n i) elt c R d) ∧ ∀ l, Coll R ds l → Kp (.lst l)) Ke)
    (hs : ∀ x, foldedSetIterable iter X.env x = pure x := by intro _; rfl) : DE X W M wx δ (.ListComp elt [⟨.Name x px, iter, [c], 0⟩] scope pos) Kp Ke :=
  dx_lcIf [(x, i)] (.n i) hc nd (blkOk_by hb) hn (fun j hj => hj) (fun s H C cl fp => pg_name (X := BX X scope s H C cl fp) nd hN (hl s H C cl fp).1 (hl s H C cl fp).2) h hs
/-- over a pair of names -/
theorem dx_lcP (i j : Nat) {x y : Str} {px py pt : Pos} {kt} (hc : X.calm = true) (nd : X.N.Nodup) (hb : blkC X.N X.env.scope scope [(x, i), (y, j)] = true) (hn : noOwn δ [i, j] = true) (hN : X.N[i]? = some x) (hN' : X.N[j]? = some y)
    (hl : ∀ s H C cl fp, (Loc (BX X scope s H C cl fp).env.scope x ∧ ((BX X scope s H C cl fp).fn x = true ∨ (BX X scope s H C cl fp).env.scope.names.lookup x = some .local)) ∧ (Loc (BX X scope s H C cl fp).env.scope y ∧ ((BX X scope s H C cl fp).fn y = true ∨ (BX X scope s H C cl fp).env.scope.names.lookup y = some .local)))
    (h : DI X W M wx δ (.Tuple [.Name x px, .Name y py] kt pt) iter (fun ds => ds.length ≤ 16777216 ∧ ∃ R : D → Option D → Prop, (∀ d ∈ ds, LcB X W M δ scope [i, j] (.t [i, j]) elt R d) ∧ ∀ l, Coll R ds l → Kp (.lst l)) Ke)
    (hs : ∀ x, foldedSetIterable iter X.env x = pure x := by intro _; rfl) : DE X W M wx δ (.ListComp elt [⟨.Tuple [.Name x px, .Name y py] kt pt, iter, [], 0⟩] scope pos) Kp Ke :=
  dx_lc [(x, i), (y, j)] (.t [i, j]) hc nd (blkOk_by hb) hn (fun j hj => hj) (fun s H C cl fp => pg_tup (X := BX X scope s H C cl fp) hc (pgs_cons (pg_name (X := BX X scope s H C cl fp) nd hN (hl s H C cl fp).1.1 (hl s H C cl fp).1.2) (pgs_cons (pg_name (X := BX X scope s H C cl fp) nd hN' (hl s H C cl fp).2.1 (hl s H C cl fp).2.2) pgs_nil))) h hs
/-- y = [..] -/
theorem ds_setLc {O : Out} (i : Nat) {y : Str} {py spos : Pos} (own : List (Str × Nat)) (t : Tg) (hc : X.calm = true) (nd : X.N.Nodup) (hy : X.N[i]? = some y) (hyl : X.env.scope.names.lookup y = some .local) (hsw : swapsWith (.ListComp elt [⟨tg, iter, [], 0⟩] scope pos) (some (.Name y py)) spos.line X.env = pure true)
    (ok : BlkOk X.N X.env.scope scope own) (hn : noOwn δ (own.map (·.2)) = true) (hsl : ∀ i ∈ t.slots, i ∈ own.map (·.2))
    (hg : ∀ s H C cl fp, PG (BX X scope s H C cl fp) tg (t.g X.K)) (h : DI X W M wx δ tg iter (fun ds => ds.length ≤ 16777216 ∧ ∃ R : D → Option D → Prop, (∀ d ∈ ds, LcB X W M δ scope (own.map (·.2)) t elt R d) ∧ ∀ l, Coll R ds l → O.nx (δ.set i (.im (.lst l)))) Ke)
    (hs : ∀ x, foldedSetIterable iter X.env x = pure x := by intro _; rfl) : DS X W M wx δ (.Assign [.Name y py] (.ListComp elt [⟨tg, iter, [], 0⟩] scope pos) spos) O Ke := fun H0 N =>
  PS.imp (ps_setLc hc nd hy hyl hsw pi_any ok hg (fun _ _ _ _ _ => pts_nil) pe_anyB hs) fun Dn σ H ⟨env, n, b, c, r, x⟩ => h.run env.env (fun J H1 ds e1 hw ⟨hds, R, hb, hk⟩ A hA =>
    lc_run (Q := fun v H' => Dn.nx (σ.set i (some v)) H') (env.env.ext e1) hn hsl hw hds hA (fun d hd => (hb d hd).1) (fun d hd σ' H' Qt Qf env' qt qf => iteT (B := Qf H') (((hb d hd).2 A).run env' qt)) fun l H' e2 r2 hc => n _ _ H' ((env.go (e1.trans e2)).put r2) (hk l hc))
      fun y cls dd H' e1 r1 k => x y cls dd σ H' (env.go e1).xe (r1.mono (hid_more (F := ⟨W, M, H0, N⟩))) k
theorem ds_setLcIf {O : Out} (i : Nat) {y : Str} {py spos : Pos} (own : List (Str × Nat)) (t : Tg) (hc : X.calm = true) (nd : X.N.Nodup) (hy : X.N[i]? = some y) (hyl : X.env.scope.names.lookup y = some .local) (hsw : swapsWith (.ListComp elt [⟨tg, iter, [c], 0⟩] scope pos) (some (.Name y py)) spos.line X.env = pure true)
    (ok : BlkOk X.N X.env.scope scope own) (hn : noOwn δ (own.map (·.2)) = true) (hsl : ∀ i ∈ t.slots, i ∈ own.map (·.2))
    (hg : ∀ s H C cl fp, PG (BX X scope s H C cl fp) tg (t.g X.K)) (h : DI X W M wx δ tg iter (fun ds => ds.length ≤ 16777216 ∧ ∃ R : D → Option D → Prop, (∀ d ∈ ds, LcC X W M δ scope (own.map (·.2)) t elt c R d) ∧ ∀ l, Coll R ds l → O.nx (δ.set i (.im (.lst l)))) Ke)
    (hs : ∀ x, foldedSetIterable iter X.env x = pure x := by intro _; rfl) : DS X W M wx δ (.Assign [.Name y py] (.ListComp elt [⟨tg, iter, [c], 0⟩] scope pos) spos) O Ke := fun H0 N =>
  PS.imp (ps_setLc hc nd hy hyl hsw pi_any ok hg (fun s H C cl fp => pts_one (pt_anyB s H C cl fp)) pe_anyB hs) fun Dn σ H ⟨env, n, b, c', r, x⟩ => h.run env.env (fun J H1 ds e1 hw ⟨hds, R, hb, hk⟩ A hA =>
    lc_run (Q := fun v H' => Dn.nx (σ.set i (some v)) H') (env.env.ext e1) hn hsl hw hds hA (fun d hd => (hb d hd).1) (fun d hd σ' H' Qt Qf env' qt qf =>
      ⟨tT X.K W (A :: M) wx0 (t.put d (wipeD δ (List.map (fun (p : Str × Nat) => p.2) own))) (fun b => (b = true → LcE X W (A :: M) (t.put d (wipeD δ (List.map (fun (p : Str × Nat) => p.2) own))) scope elt fun y => R d (some y)) ∧ (b = false → R d none)) kx0, (hb d hd).2 A, env', fun b H3 e3 ⟨k1, k2⟩ => by
        cases b with
        | true => exact iteT ((k1 rfl).run (env'.ext e3) fun y H4 d' e4 r k => qt y H4 d' (e3.trans e4) r k)
        | false => exact iteF (qf H3 e3 (k2 rfl)), fun x cls dd H' _ _ z => z.elim⟩) fun l H' e2 r2 hc => n _ _ H' ((env.go (e1.trans e2)).put r2) (hk l hc))
      fun y cls dd H' e1 r1 k => x y cls dd σ H' (env.go e1).xe (r1.mono (hid_more (F := ⟨W, M, H0, N⟩))) k

/-! ### results of comprehensions -/
/-- each item gives just f of it -/
theorem coll_map {f : D → D} {R : D → Option D → Prop} {ds l : List D} (h : Coll R ds l) (hf : ∀ d ∈ ds, ∀ y, R d y → y = some (f d)) : l = ds.map f := by
  induction h with
  | nil => rfl
  | @take d y ds l hc hr ih =>
    rw [ih fun d' hd => hf d' (List.mem_append_left _ hd), List.map_append]
    have := hf d (List.mem_append_right _ (List.mem_singleton.mpr rfl)) _ hr
    cases this
    rfl
  | @skip d ds l hc hr ih =>
    have := hf d (List.mem_append_right _ (List.mem_singleton.mpr rfl)) _ hr
    cases this
theorem coll_filter {f : D → Option D} {R : D → Option D → Prop} {ds l : List D} (h : Coll R ds l) (hf : ∀ d ∈ ds, ∀ y, R d y → y = f d) : l = ds.filterMap f := by
  induction h with
  | nil => rfl
  | @take d y ds l hc hr ih =>
    rw [ih fun d' hd => hf d' (List.mem_append_left _ hd), List.filterMap_append]
    have := hf d (List.mem_append_right _ (List.mem_singleton.mpr rfl)) _ hr
    simp [← this]
  | @skip d ds l hc hr ih =>
    rw [ih fun d' hd => hf d' (List.mem_append_left _ hd), List.filterMap_append]
    have := hf d (List.mem_append_right _ (List.mem_singleton.mpr rfl)) _ hr
    simp [← this]
/-- as many as there are, each as wanted -/
theorem coll_all {p : D → Prop} {R : D → Option D → Prop} {ds l : List D} (h : Coll R ds l) (hf : ∀ d ∈ ds, ∀ y, R d y → ∃ z, y = some z ∧ p z) : l.length = ds.length ∧ ∀ y ∈ l, p y := by
  induction h with
  | nil => exact ⟨rfl, fun y h => by simp at h⟩
  | @take d y ds l hc hr ih =>
    obtain ⟨i1, i2⟩ := ih fun d' hd => hf d' (List.mem_append_left _ hd)
    obtain ⟨z, hz, pz⟩ := hf d (List.mem_append_right _ (List.mem_singleton.mpr rfl)) _ hr
    cases hz
    refine ⟨by simp [i1], fun y' hy => ?_⟩
    rcases List.mem_append.mp hy with hy | hy
    · exact i2 y' hy
    · rw [List.mem_singleton.mp hy]; exact pz
  | @skip d ds l hc hr ih =>
    obtain ⟨z, hz, pz⟩ := hf d (List.mem_append_right _ (List.mem_singleton.mpr rfl)) _ hr
    cases hz
end
end Lay

/-! # DS7: loops, stores, own lists, raise; a def by its body -/
namespace Lay
open PySem PySem.Spec PyProof.Rows L2

/-- a stretch within another one: it begins at H1, and one's own objects may change -/
theorem SEnv.in_ {K : PySem.W.Frag} {W : Wd} {M : List Addr} {H0 H1 : Hp} {N : List Addr} {δ : De} {σ : L2.St} (h : SEnv K ⟨W, M, H0, N⟩ δ σ H1) : SEnv K ⟨W, M, H1, ownA δ σ⟩ δ σ H1 := ⟨h.env, fun b o _ _ e _ => e, fun a ha => .inl ha⟩
theorem keep_back {K : PySem.W.Frag} {W : Wd} {M : List Addr} {H0 H1 H' : Hp} {N : List Addr} {δ : De} {σ : L2.St} (h : SEnv K ⟨W, M, H0, N⟩ δ σ H1) (k : ∀ b o, b ∉ W.rg → b ∉ ownA δ σ → H1 b = some o → (∀ ps, o ≠ .tbl ps) → H' b = some o) :
    ∀ b o, b ∉ W.rg → b ∉ N → H0 b = some o → (∀ ps, o ≠ .tbl ps) → H' b = some o := fun b o h1 h2 h3 t => by
  refine k b o h1 (fun z => ?_) (h.ext b o h1 h2 h3 t) t
  have h3' : H0 b = some o := h3
  rcases h.own b z with q | q | ⟨ps, q⟩
  · exact h2 q
  · have q' : H0 b = none := q
    rw [h3'] at q'; cases q'
  · have q' : H0 b = some (.tbl ps) := q
    rw [h3'] at q'
    exact t ps (Option.some.inj q')
theorem SEnv.back {K : PySem.W.Frag} {W : Wd} {M : List Addr} {H0 H1 H' : Hp} {N : List Addr} {δ δ' : De} {σ σ' : L2.St} (h : SEnv K ⟨W, M, H0, N⟩ δ σ H1) (h' : SEnv K ⟨W, M, H1, ownA δ σ⟩ δ' σ' H') : SEnv K ⟨W, M, H0, N⟩ δ' σ' H' := by
  refine ⟨h'.env, keep_back h h'.ext, fun a ha => ?_⟩
  rcases h'.own a ha with q | q | ⟨ps, q⟩
  · exact h.own a q
  · have q : H1 a = none := q
    by_cases hN : a ∈ N
    · exact .inl hN
    · cases e : H0 a with
      | none => exact .inr (.inl e)
      | some o =>
        refine .inr (.inr ?_)
        by_cases ht : ∃ ps, o = .tbl ps
        · obtain ⟨ps, rfl⟩ := ht
          exact ⟨ps, e⟩
        · have hr : a ∉ W.rg := fun z => by
            obtain ⟨u, hu, _⟩ := h.env.w.tr z
            rw [q] at hu; cases hu
          have := h.ext a o hr hN e fun ps z => ht ⟨ps, z⟩
          rw [q] at this; cases this
  · have q : H1 a = some (.tbl ps) := q
    by_cases hN : a ∈ N
    · exact .inl hN
    · cases e : H0 a with
      | none => exact .inr (.inl e)
      | some o =>
        refine .inr (.inr ?_)
        by_cases ht : ∃ ps, o = .tbl ps
        · obtain ⟨ps, rfl⟩ := ht
          exact ⟨ps, e⟩
        · have hr : a ∉ W.rg := fun z => by
            obtain ⟨u, hu, t⟩ := h.env.w.tr z
            rw [q] at hu; cases hu
            exact t ps rfl
          have := h.ext a o hr hN e fun ps z => ht ⟨ps, z⟩
          rw [q] at this; cases this
          exact (ht ⟨ps, rfl⟩).elim
theorem XEnd.back {K : PySem.W.Frag} {W : Wd} {M : List Addr} {H0 H1 H' : Hp} {N : List Addr} {δ : De} {σ : L2.St} (h : SEnv K ⟨W, M, H0, N⟩ δ σ H1) (h' : XEnd ⟨W, M, H1, ownA δ σ⟩ H') : XEnd ⟨W, M, H0, N⟩ H' := ⟨h'.w, keep_back h h'.ext⟩
section
variable {X : Cx} {W : Wd} {M : List Addr} {wx : WX} {δ : De} {tg iter e c : Expr} {body : List Stmt} {O : Out} {Ke : KX} {pos : Pos} {t : Tg}
theorem ds_for (t : Tg) (hp : PassesOwn (model X.prog X.w) X.A X.env X.xe) (hc : X.calm = true) (hg : PG X tg (t.g X.K))
    (h : DI X W M wx δ tg iter (fun ds => ∃ Inv : Nat → De → Prop, Inv 0 δ ∧ (∀ i d δ', ds[i]? = some d → Inv i δ' → t.fits d ∧ DSs X W M wx (t.put d δ') body { O with nx := Inv (i + 1), ct := Inv (i + 1), bk := O.nx } Ke) ∧ ∀ δ', Inv ds.length δ' → O.nx δ') Ke)
    (hs : ∀ x, foldedSetIterable iter X.env x = pure x := by intro _; rfl) : DS X W M wx δ (.For tg iter body [] pos) O Ke := fun H0 N => by
  refine PS.imp (ps_for hp hc pi_any hg pss_any hs) fun Dn σ H ⟨env, n, b, c, r, x⟩ => h.run env.env (fun J H1 ds e1 hw ⟨IV, h0, hst, hd⟩ => ?_) fun y cls dd H' e1 r1 k => x y cls dd σ H' (env.go e1).xe (r1.mono (hid_more (F := ⟨W, M, H0, N⟩))) k
  obtain ⟨G, Y, hwk, hG, hY⟩ := hw
  have env1 := env.go e1
  have hx : ∀ {δ' σ' H'}, SEnv X.K ⟨W, M, H1, ownA δ σ⟩ δ' σ' H' → ExN (hide (hidA W M δ σ) H1) (hide (hidA W M δ' σ') H') := fun {δ' σ' H'} env' b u hb tt => by
    obtain ⟨h1, h2⟩ := hide_some hb
    simp only [hidA, List.mem_append, not_or] at h1
    refine hide_of (fun z => ?_) (env'.ext b u h1.1.1 h1.2 h2 tt)
    simp only [hidA, List.mem_append] at z
    rcases z with (z | z) | z
    · exact h1.1.1 z
    · exact h1.1.2 z
    · rcases env'.own b z with q | q | ⟨ps, q⟩
      · exact h1.2 q
      · have q : H1 b = none := q
        rw [h2] at q; cases q
      · have q : H1 b = some (.tbl ps) := q
        rw [h2] at q; exact tt ps (Option.some.inj q)
  refine for_it hwk (fun i σ' H' => ∃ δ', SEnv X.K ⟨W, M, H1, ownA δ σ⟩ δ' σ' H' ∧ IV i δ') ⟨δ, env1.in_, h0⟩ (fun i σ' H' _ ⟨δ', env', _⟩ => hG _ H' env'.env.w (hx env')) ?_ fun σ' H' ⟨δ', env', hI⟩ => n δ' σ' H' (env1.back env') (hd δ' hI)
  rintro i v σ' H' H'' hi ⟨δ', env', hI⟩ y
  obtain ⟨e2, d, hdd, rd⟩ := hY _ i H' v H'' hi env'.env.amb (hx env') y
  obtain ⟨hf, hb⟩ := hst i d δ' hdd hI
  have env2 := env'.go e2
  refine Tg.run env2.env rd hf fun σ2 env3 hown _ => ?_
  have env4 : SEnv X.K ⟨W, M, H1, ownA δ σ⟩ (t.put d δ') σ2 H'' := ⟨env3, env2.ext, fun a ha => env2.own a (hown a ha)⟩
  exact hb.run env4 (fun δ2 σ2 H2 e k => ⟨δ2, e, k⟩) (fun δ2 σ2 H2 e k => n δ2 σ2 H2 (env1.back e) k) (fun δ2 σ2 H2 e k => ⟨δ2, e, k⟩) (fun v H2 d e r1 k => r v H2 d (e.back env1) r1 k) fun y cls dd σ2 H2 e r1 k => x y cls dd σ2 H2 (e.back env1) r1 k
theorem ds_while (Inv : De → Prop) (μ : De → Nat) (hp : PassesOwn (model X.prog X.w) X.A X.env X.xe) (h0 : Inv δ)
    (hs : ∀ δ', Inv δ' → DT X W M wx δ' c (fun b => (b = true → DSs X W M wx δ' body { O with nx := fun δ'' => Inv δ'' ∧ μ δ'' < μ δ', ct := fun δ'' => Inv δ'' ∧ μ δ'' < μ δ', bk := O.nx } Ke) ∧ (b = false → O.nx δ')) Ke) : DS X W M wx δ (.While c body [] pos) O Ke := fun H0 N => by
  refine PS.imp (ps_while hp pt_any pss_any) fun Dn σ H ⟨env, n, b, c, r, x⟩ => ?_
  refine ⟨fun m σ' H' => ∃ δ', SEnv X.K ⟨W, M, H0, N⟩ δ' σ' H' ∧ Inv δ' ∧ m = μ δ', ⟨μ δ, δ, env, h0, rfl⟩, ?_⟩
  rintro m σ' H' ⟨δ', env', hI, rfl⟩
  refine tx_run (hs δ' hI) env' (fun k H2 env2 ⟨k1, k2⟩ => ?_) x
  cases k with
  | true =>
    refine iteT ⟨fun σ3 H3 => ∃ δ3, SEnv X.K ⟨W, M, H0, N⟩ δ3 σ3 H3 ∧ Inv δ3 ∧ μ δ3 < μ δ', fun σ3 H3 ⟨δ3, e3, i3, l3⟩ => ⟨μ δ3, l3, δ3, e3, i3, rfl⟩, ?_⟩
    exact (k1 rfl).run env2 (fun δ2 σ2 H2 e k => ⟨δ2, e, k⟩) n (fun δ2 σ2 H2 e k => ⟨δ2, e, k⟩) r x
  | false => exact iteF (n δ' σ' H2 env2 (k2 rfl))

/-! ### stores -/
theorem EnvOk.put2 {σ : L2.St} {H : Hp} {i j : Nat} {v w : V} {d1 d2 : D} (h : EnvOk X.K W M δ σ H) (r1 : Rep X.K W.dr (hide (hidA W M δ σ) H) d1 v) (r2 : Rep X.K W.dr (hide (hidA W M δ σ) H) d2 w) :
    EnvOk X.K W M ((δ.set i (.im d1)).set j (.im d2)) ((σ.set i (some v)).set j (some w)) H := (h.put r1).put (r2.mono hidA_set)
theorem ds_par2 (i j : Nat) {x y : Str} {a b : Expr} {px py pt : Pos} {kt k2 pt2} (hc : X.calm = true) (hN : X.N.Nodup) (hi : X.N[i]? = some x) (hj : X.N[j]? = some y) (hij : i ≠ j)
    (hx : X.env.scope.names.lookup x = some .local) (hy : X.env.scope.names.lookup y = some .local) (hw : swappedStores [.Tuple [.Name x px, .Name y py] kt pt] (.Tuple [a, b] k2 pt2) X.env = pure (some [x, y]))
    (h : DA X W M wx δ [a, b] (as2 fun d1 d2 => O.nx ((δ.set i (.im d1)).set j (.im d2))) Ke)
    (hs : swapsWithSole [.Tuple [.Name x px, .Name y py] kt pt] (.Tuple [a, b] k2 pt2) pos.line X.env = pure false := by rfl) : DS X W M wx δ (.Assign [.Tuple [.Name x px, .Name y py] kt pt] (.Tuple [a, b] k2 pt2) pos) O Ke := fun H0 N =>
  PS.imp (ps_par hc hN hi hj hij hx hy pa_any hw hs) fun Dn σ H ⟨env, n, b, c, r, x⟩ => h.run env.env (fun vs H1 ds e1 r1 k => by
    obtain ⟨d1, d2, rfl, k⟩ := as2_ex k
    obtain ⟨v, w, rfl, ra, rb⟩ := r1.two
    have env1 := env.go e1
    exact ⟨v, w, rfl, n _ _ H1 ⟨env1.env.put2 ra rb, env1.ext, fun a ha => env1.own a (ownA_set rfl a (ownA_set rfl a ha))⟩ k⟩)
      fun y cls dd H' e1 r1 k => x y cls dd σ H' (env.go e1).xe (r1.mono (hid_more (F := ⟨W, M, H0, N⟩))) k
def as3 (f : D → D → D → Prop) : List D → Prop
  | [d, e, g] => f d e g
  | _ => False
theorem as3_ex {f : D → D → D → Prop} {ds : List D} (h : as3 f ds) : ∃ d e g, ds = [d, e, g] ∧ f d e g := by
  cases ds with
  | nil => exact False.elim h
  | cons d ds =>
    cases ds with
    | nil => exact False.elim h
    | cons e ds =>
      cases ds with
      | nil => exact False.elim h
      | cons g ds =>
        cases ds with
        | nil => exact ⟨d, e, g, rfl, h⟩
        | cons _ _ => exact False.elim h
theorem ds_par3 (i j l : Nat) {x y z : Str} {a b c : Expr} {px py pz pt : Pos} {kt k2 pt2} (hc : X.calm = true) (hN : X.N.Nodup) (hi : X.N[i]? = some x) (hj : X.N[j]? = some y) (hl : X.N[l]? = some z) (hij : i ≠ j) (hil : i ≠ l) (hjl : j ≠ l)
    (hx : X.env.scope.names.lookup x = some .local) (hy : X.env.scope.names.lookup y = some .local) (hz : X.env.scope.names.lookup z = some .local)
    (hw : swappedStores [.Tuple [.Name x px, .Name y py, .Name z pz] kt pt] (.Tuple [a, b, c] k2 pt2) X.env = pure (some [x, y, z])) (h : DA X W M wx δ [a, b, c] (as3 fun d1 d2 d3 => O.nx (((δ.set i (.im d1)).set j (.im d2)).set l (.im d3))) Ke)
    (hs : swapsWithSole [.Tuple [.Name x px, .Name y py, .Name z pz] kt pt] (.Tuple [a, b, c] k2 pt2) pos.line X.env = pure false := by rfl) : DS X W M wx δ (.Assign [.Tuple [.Name x px, .Name y py, .Name z pz] kt pt] (.Tuple [a, b, c] k2 pt2) pos) O Ke := fun H0 N =>
  PS.imp (ps_par3 hc hN hi hj hl hij hil hjl hx hy hz pa_any hw hs) fun Dn σ H ⟨env, n, b, c, r, x⟩ => h.run env.env (fun vs H1 ds e1 r1 k => by
    obtain ⟨d1, d2, d3, rfl, k⟩ := as3_ex k
    obtain ⟨u, us, rfl, ra, r2⟩ := r1
    obtain ⟨v, w, rfl, rb, rc⟩ := RepL.two r2
    have env1 := env.go e1
    exact ⟨u, v, w, rfl, n _ _ H1 ⟨(env1.env.put2 ra rb).put ((rc.mono hidA_set).mono hidA_set), env1.ext, fun a ha => env1.own a (ownA_set rfl a (ownA_set rfl a (ownA_set rfl a ha)))⟩ k⟩)
      fun y cls dd H' e1 r1 k => x y cls dd σ H' (env.go e1).xe (r1.mono (hid_more (F := ⟨W, M, H0, N⟩))) k
/-- a, b, .. = e by a tuple -/
theorem ds_asg (t : Tg) (hg : PG X tg (t.g X.K)) (h : DE X W M wx δ e (fun d => t.fits d ∧ O.nx (t.put d δ)) Ke) (hs : swapsWithSole [tg] e pos.line X.env = pure false := by rfl) (hw : swappedStores [tg] e X.env = pure none := by rfl)
    (h1 : (assignEach [tg] X.env).map (·.2) = [assign tg X.env] := by rfl) : DS X W M wx δ (.Assign [tg] e pos) O Ke := fun H0 N =>
  PS.imp (ps_asg pe_any hg hs hw h1) fun Dn σ H ⟨env, n, b, c, r, x⟩ => ex_run h env (fun v H' d env' e1 r1 ⟨hf, k⟩ => Tg.run env'.env r1 hf fun σ2 env3 hown _ => n _ σ2 H' ⟨env3, env'.ext, fun a ha => env'.own a (hown a ha)⟩ k) x

/-! ### raise -/
/-- an own exception class without __init__ of its own, over ValueError -/
structure ExF (K : PySem.W.Frag) (mg : Str → Option Value) (x : Str) (C : Addr) : Prop where
  g : mg x = some (.ref C)
  q : PySem.W.excIn K C He.veBase "ValueError.__new__" = true
  k : PySem.W.keepIn K (.ref C) = true
  s : PySem.W.subIn K (.ref C) (.type "BaseException") = some true
  t : PySem.W.typeIn K (.ref C) = some (.type "type")
theorem ds_raise {x m : Str} {C : Addr} {j : Nat} {p p2 pos' : Pos} (hc : X.calm = true) (tk : Takes X wx) (F : ExF X.K X.mg x C) (hg : Gl X x) (k : Ke ⟨C, [], []⟩) (hdb : (x == ("__debug__" : Str)) = false := by decide) :
    DS X W M wx δ (.Raise (some (.Call (.Name x p) [.Constant (.str m) j p2] [] pos')) none pos) O Ke := fun H0 N =>
  PS.imp (ps_raise hc tk (pmk_own PySem.F.excBase_ValueError F.q F.g F.k (raises_own F.s F.t) hg hdb)) fun Dn σ H ⟨env, n, b, c, r, x⟩ => x ⟨C, [], []⟩ (.ref C) none σ H env.xe ⟨rfl, .inl ⟨rfl, rfl, rfl⟩⟩ k

/-! ### lists of one's own -/
/-- an expression comes to a new list -/
def tF (K : PySem.W.Frag) (W : Wd) (M : List Addr) (wx : WX) (δ : De) (Kl : List D → Prop) (Ke : KX) : TE := fun σ H Q =>
  EnvOk K W M δ σ H ∧ (∀ p H1 xs l, Ext W H H1 → H1 p = none → RepL K W.dr (hide (hidA W M δ σ) H1) l xs → Kl l → Q (.ref p) (upd H1 p (.lst xs))) ∧
    ∀ x cls dd H', Ext W H H' → XOk K W.dr (hide (hidA W M δ σ) H') x cls dd → Ke x → wx cls dd σ H'
def DF (X : Cx) (W : Wd) (M : List Addr) (wx : WX) (δ : De) (e : Expr) (Kl : List D → Prop) (Ke : KX) : Prop := PE X e (tF X.K W M wx δ Kl Ke)
variable {Kl : List D → Prop}
theorem DF.run {σ : L2.St} {H : Hp} {Q : VK} (h : DF X W M wx δ e Kl Ke) (env : EnvOk X.K W M δ σ H) (q : ∀ p H1 xs l, Ext W H H1 → H1 p = none → RepL X.K W.dr (hide (hidA W M δ σ) H1) l xs → Kl l → Q (.ref p) (upd H1 p (.lst xs)))
    (qx : ∀ x cls dd H', Ext W H H' → XOk X.K W.dr (hide (hidA W M δ σ) H') x cls dd → Ke x → wx cls dd σ H') : tAny X e σ H Q := ⟨_, h, env, q, qx⟩
theorem df_lst {es : List Expr} (h : DA X W M wx δ es (fun ds => ds.length ≤ 16777216 ∧ Kl ds) Ke) : DF X W M wx δ (.List es pos) Kl Ke :=
  PE.imp (pe_lst pa_any) fun σ H Q ⟨env, q, qx⟩ => h.run env (fun vs H1 ds e1 r1 ⟨hl, k⟩ => ⟨by rw [← r1.length, sizeLine_eq]; exact hl, fun p hp => q p H1 vs ds e1 hp r1 k⟩) qx
theorem df_list {x : Expr} {p : Pos} (hg : Gl X "list") (hm : X.mg "list" = none) (h : DE X W M wx δ x (fun d => ∃ l, seqD d = some l ∧ Kl l) Ke) (he : starEach [x] X.env = (false, eval x X.env) :: starEach [] X.env := by rfl) : DF X W M wx δ (.Call (.Name "list" p) [x] [] pos) Kl Ke :=
  PE.imp (pe_callTy call_list_of hg hm (by decide +kernel) (pa_cons pe_any pa_nil he) (by decide) (by decide) he rfl) fun σ H Q ⟨env, q, qx⟩ => h.run env (fun v H1 d e1 r1 ⟨l, hl, k⟩ => by
    obtain ⟨a, xs, rfl, hs, h2⟩ := seq_rep r1 hl
    exact ⟨a, xs, rfl, hs, fun p hp => q p H1 xs l e1 hp h2 k⟩) qx
/-- own + e, a new list -/
theorem df_addOw (i : Nat) {x : Str} {p : Pos} {l : List D} {b : Expr} (hN : X.N[i]? = some x) (hv : Vis X.env.scope x) (hd : δ[i]? = some (.ow l)) (h : DE X W M wx δ b (fun d => ∃ m, d = .lst m ∧ l.length + m.length ≤ 16777216 ∧ Kl (l ++ m)) Ke)
    (hdb : (x == ("__debug__" : Str)) = false := by decide) (hcd : (x == ("__classdict__" : Str)) = false := by decide) : DF X W M wx δ (.BinOp (.Name x p) .Add b pos) Kl Ke :=
  PE.imp (pe_op op_cat (pe_var hN hv hdb hcd) pe_any) fun σ H Q ⟨env, q, qx⟩ => by
    obtain ⟨o, e1, a, xs, rfl, h2, h3⟩ := env.sl.get hd
    have hown : a ∈ ownA δ σ := by
      have go : ∀ (δ : De) (σ : L2.St) (i : Nat), δ[i]? = some (.ow l) → σ[i]? = some (some (.ref a)) → a ∈ ownA δ σ := by
        intro δ
        induction δ with
        | nil => intro σ i h; simp at h
        | cons s δ ih =>
          intro σ i hd hs
          cases σ with
          | nil => simp at hs
          | cons o σ =>
            refine ownA_cons.mpr ?_
            cases i with
            | zero =>
              simp at hd hs
              subst hd hs
              exact .inl (by simp [ownA])
            | succ i => exact .inr (ih σ i (by simpa using hd) (by simpa using hs))
      exact go δ σ i hd e1
    refine ⟨_, e1, h.run env (fun y H1 d ex r1 ⟨m, hm, hl, k⟩ => ?_) qx⟩
    subst hm
    obtain ⟨b', ys, rfl, h4, h5⟩ := r1
    have h2' := ex.keep a _ (env.dj a hown).1 h2 (fun _ z => by cases z)
    have h3' := h3.mono (env.amb.hid ex)
    exact ⟨a, b', xs, ys, rfl, rfl, h2', hide_lst h4, by rw [sizeLine_eq, ← h3'.length, ← h5.length]; exact hl, fun p hp => q p H1 _ _ ex hp (h3'.append h5) k⟩
theorem mem_own {l : List D} {a : Addr} : ∀ {δ : De} {σ : L2.St} {i : Nat}, δ[i]? = some (.ow l) → σ[i]? = some (some (.ref a)) → a ∈ ownA δ σ
  | [], σ, i, h, _ => by simp at h
  | s :: δ, [], i, _, h => by simp at h
  | s :: δ, o :: σ, 0, hd, hs => by
    simp at hd hs
    subst hd hs
    exact ownA_cons.mpr (.inl (by simp [ownA]))
  | s :: δ, o :: σ, i + 1, hd, hs => ownA_cons.mpr (.inr (mem_own (δ := δ) (σ := σ) (i := i) (by simpa using hd) (by simpa using hs)))
end
end Lay

/-! # DS8: a def by its body; keywords; own lists in statements -/
namespace Lay
open PySem PySem.Spec PyProof.Rows L2

/-- the slots at a def's entry -/
def st0 (N : List Str) (ds : List D) : De := ds.map Sl.im ++ List.replicate (N.length - ds.length) Sl.un
theorem ownA_im : ∀ (ds : List D) (σ : L2.St) (δ : De) (τ : L2.St), ds.length = σ.length → ownA δ τ = [] → ownA (ds.map Sl.im ++ δ) (σ ++ τ) = []
  | [], [], δ, τ, _, h => h
  | d :: ds, o :: σ, δ, τ, hl, h => ownA_im ds σ δ τ (by simpa using hl) h
  | [], _ :: _, _, _, hl, _ => by simp at hl
  | _ :: _, [], _, _, hl, _ => by simp at hl
theorem ownA_un : ∀ (n m : Nat), ownA (List.replicate n Sl.un) (List.replicate m none) = []
  | 0, m => by cases m <;> rfl
  | n + 1, 0 => rfl
  | n + 1, m + 1 => by rw [List.replicate_succ, List.replicate_succ]; exact ownA_un n m
theorem slots_un {K : PySem.W.Frag} {dr : Option Dr} {S : List Addr} {H : Hp} : ∀ n : Nat, SlotsOk K dr S H (List.replicate n Sl.un) (List.replicate n none)
  | 0 => trivial
  | n + 1 => ⟨trivial, slots_un n⟩
theorem slots_im {K : PySem.W.Frag} {dr : Option Dr} {S : List Addr} {H : Hp} {δ : De} {τ : L2.St} (h : SlotsOk K dr S H δ τ) : ∀ {ds : List D} {vs : List V}, RepL K dr (hide S H) ds vs → SlotsOk K dr S H (ds.map Sl.im ++ δ) (vs.map some ++ τ)
  | [], _, r => by cases r; exact h
  | d :: ds, _, r => by
    obtain ⟨v, vs, rfl, h1, h2⟩ := r
    exact ⟨⟨v, rfl, h1⟩, slots_im h h2⟩
def outM (W : Wd) (S : List Addr) : List Addr := S.filter fun a => decide (a ∉ W.rg)
theorem env_start {K : PySem.W.Frag} {W : Wd} {S : List Addr} {H : Hp} {ds : List D} {vs : List V} (N : List Str) (am : Amb W S H) (r : RepL K W.dr (hide S H) ds vs) : EnvOk K W (outM W S) (st0 N ds) (L2.start N vs) H ∧ (∀ a, a ∈ W.rg ++ outM W S ↔ a ∈ S) := by
  have hS : ∀ a, a ∈ W.rg ++ outM W S ↔ a ∈ S := fun a => by
    simp only [outM, List.mem_append, List.mem_filter, decide_eq_true_eq]
    constructor
    · rintro (h | ⟨h, _⟩)
      · exact am.rg a h
      · exact h
    · intro h
      by_cases c : a ∈ W.rg
      · exact .inl c
      · exact .inr ⟨h, c⟩
  have ho : ownA (st0 N ds) (L2.start N vs) = [] := ownA_im ds _ _ _ (by rw [List.length_map]; exact r.length) (by rw [r.length]; exact ownA_un _ _)
  refine ⟨⟨am.w, fun a ha => ?_, by rw [ho]; exact List.Pairwise.nil, fun a ha => by rw [ho] at ha; simp at ha, ?_⟩, hS⟩
  · simp only [outM, List.mem_filter, decide_eq_true_eq] at ha
    rcases am.tr a ha.1 with z | z
    · exact absurd z ha.2
    · exact ⟨ha.2, z⟩
  · have e : ExN (hide S H) (hide (hidA W (outM W S) (st0 N ds) (L2.start N vs)) H) := hide_more fun a ha => by
      rw [hidA, ho, List.append_nil] at ha
      exact (hS a).mp ha
    unfold st0 L2.start
    rw [r.length]
    have := slots_im (slots_un (K := K) (dr := W.dr) (S := hidA W (outM W S) (st0 N ds) (L2.start N vs)) (H := H) (N.length - vs.length)) (r.mono e)
    unfold st0 L2.start at this
    rw [r.length] at this
    exact this
/-- a def's context -/
abbrev FX (G : Pg) (N : List Str) (q : Str) (st : Stmt) (fa : Addr) (cdv : Value) (A : Around) (outer : List Env) (s : Shared) (H : Hp) (E : XK) : Cx := cxOf (L2.CX G.P G.w) G.P G.w G.K G.mg G.base N q (defScope st) fa cdv A outer s H E
abbrev wxE (E : XK) : WX := fun cls d _ H => E cls d H
theorem fn_ok {G : Pg} {q : Str} {st : Stmt} {fa : Addr} {fd : FuncData} {k : Nat} {N ps : List Str} {f : FS} {x : Str} (F : FunD G.K x q (defArgs st) (defBody st) (defScope st) [] [] fa fd) (S : FnScope N ps (defScope st))
    (body : ∀ (cdv : Value) (A : Around) (outer : List Env) (s : Shared) (H : Hp) (E : XK) (dr : Option Dr) (M : List Addr) (ds : List D) (Kp : KD) (Ke : KX), Takes (FX G N q st fa cdv A outer s H E) (wxE E) → PassesOwn (model G.P G.w) (FX G N q st fa cdv A outer s H E).A (FX G N q st fa cdv A outer s H E).env (FX G N q st fa cdv A outer s H E).xe →
      Room k (FX G N q st fa cdv A outer s H E).A → ds.length = ps.length → f ds Kp Ke → DSs (FX G N q st fa cdv A outer s H E) ⟨G.T, dr⟩ M (wxE E) (st0 N ds) (defBody st) { nx := fun _ => Kp .non, rt := Kp } Ke) :
    FnOk G.P G.w G.K G.mg G.base (L2.CX G.P G.w) (k + 1) fa fd ps (spD G.K G.T ps.length f) := by
  obtain ⟨oc, od, dV, kV, doc, pm, an, cdv0, ct, osl, e0, lk, hcd, _, _⟩ := F.ex
  subst e0
  refine fn_of lk hcd S (fun vs H Q E h => h.1) fun A outer s H vs Q E hr h => ?_
  obtain ⟨hl, W, S', ds, Kp, Ke, hT, am, r, hf, q1, qx⟩ := h
  obtain ⟨env, hS⟩ := env_start N am r
  obtain ⟨WT, dr⟩ := W
  have hT : WT = G.T := hT
  subst hT
  have b := body cdv0 A outer s H E dr (outM ⟨G.T, dr⟩ S') ds Kp Ke (takes_of rfl rfl rfl rfl) PassesOwn.leaving hr (by rw [r.length]; exact hl) hf H []
  refine ⟨_, b, ⟨env, fun b o _ _ e _ => e, fun a ha => ?_⟩, fun δ' σ' H' e k => ?_, fun _ _ _ _ z => z.elim, fun _ _ _ _ z => z.elim, fun v H' d xe rd k => ?_, fun y cls dd σ' H' xe rd k => ?_⟩
  · have ho : ownA (st0 N ds) (L2.start N vs) = [] := ownA_im ds _ _ _ (by rw [List.length_map]; exact r.length) (by rw [r.length]; exact ownA_un _ _)
    rw [ho] at ha; simp at ha
  · exact q1 .non H' .non ⟨fun b o hb h t => e.ext b o hb (by simp) h t, e.env.w⟩ rfl k
  · exact q1 v H' d ⟨fun b o hb h t => xe.ext b o hb (by simp) h t, xe.w⟩ (rd.mono (hide_more fun a ha => (hS a).mpr ha)) k
  · exact qx y cls dd H' ⟨fun b o hb h t => xe.ext b o hb (by simp) h t, xe.w⟩ (rd.mono (hide_more fun a ha => (hS a).mpr ha)) k
theorem Fn.of {G : Pg} {st : Stmt} {fa : Addr} {fd : FuncData} {k : Nat} {N ps : List Str} {f : FS} {x : Str} (F : FunD G.K x x (defArgs st) (defBody st) (defScope st) [] [] fa fd) (hm : G.mg x = some (.ref fa)) (S : FnScope N ps (defScope st))
    (hb : ∀ (kV doc pm : Value) (an : Option Addr) (cdv ct : Value) (us : List Value), us.length = ps.length → bindArgs (PySem.W.fnOf x x (defArgs st) (defBody st) (defScope st) .none kV doc pm an cdv ct) ⟨us, []⟩ = pure (ps.zip us))
    (body : ∀ (cdv : Value) (A : Around) (outer : List Env) (s : Shared) (H : Hp) (E : XK) (dr : Option Dr) (M : List Addr) (ds : List D) (Kp : KD) (Ke : KX), Takes (FX G N x st fa cdv A outer s H E) (wxE E) → PassesOwn (model G.P G.w) (FX G N x st fa cdv A outer s H E).A (FX G N x st fa cdv A outer s H E).env (FX G N x st fa cdv A outer s H E).xe →
      Room k (FX G N x st fa cdv A outer s H E).A → ds.length = ps.length → f ds Kp Ke → DSs (FX G N x st fa cdv A outer s H E) ⟨G.T, dr⟩ M (wxE E) (st0 N ds) (defBody st) { nx := fun _ => Kp .non, rt := Kp } Ke) : Fn G x (k + 1) ps f :=
  ⟨fa, fd, hm, F.kp, fn_ok F S body, F.bindsN hb⟩

/-- names that are still the built-in ones -/
structure Bt (mg : Str → Option Value) : Prop where
  isinstance : mg "isinstance" = none
  int : mg "int" = none
  bool : mg "bool" = none
  tuple : mg "tuple" = none
  list : mg "list" = none
  dict : mg "dict" = none
  str : mg "str" = none
  len : mg "len" = none
  all : mg "all" = none
  any : mg "any" = none
  abs : mg "abs" = none
  min : mg "min" = none
  max : mg "max" = none
  range : mg "range" = none
  zip : mg "zip" = none
  enumerate : mg "enumerate" = none
  set : mg "set" = none
  sorted : mg "sorted" = none
  repr : mg "repr" = none
  sum : mg "sum" = none
  reversed : mg "reversed" = none

/-! ### own lists in statements -/
section
variable {X : Cx} {W : Wd} {M : List Addr} {wx : WX} {δ : De} {tg iter e c : Expr} {body : List Stmt} {O : Out} {Ke : KX} {Kp : KD} {Kb : Bool → Prop} {pos : Pos}
theorem own_at {K : PySem.W.Frag} {σ : L2.St} {H : Hp} {i : Nat} {l : List D} (h : EnvOk K W M δ σ H) (hd : δ[i]? = some (.ow l)) : ∃ a xs, σ[i]? = some (some (.ref a)) ∧ a ∈ ownA δ σ ∧ H a = some (.lst xs) ∧ RepL K W.dr (hide (hidA W M δ σ) H) l xs := by
  obtain ⟨o, e1, a, xs, rfl, h2, h3⟩ := h.sl.get hd
  exact ⟨a, xs, e1, mem_own (l := l) hd e1, h2, h3⟩
theorem ownA_setOw : ∀ {δ : De} {σ : L2.St} {i : Nat} {l m : List D}, δ[i]? = some (.ow l) → ownA (δ.set i (.ow m)) σ = ownA δ σ
  | [], σ, i, l, m, h => by simp at h
  | s :: δ, [], i, l, m, h => by
    cases i <;> (cases s <;> simp [ownA])
  | s :: δ, o :: σ, 0, l, m, h => by
    simp at h
    subst h
    show ownA (.ow m :: δ) (o :: σ) = ownA (.ow l :: δ) (o :: σ)
    cases o with
    | none => simp [ownA]
    | some v => cases v <;> simp [ownA]
  | s :: δ, o :: σ, i + 1, l, m, h => by
    show ownA (s :: δ.set i (.ow m)) (o :: σ) = ownA (s :: δ) (o :: σ)
    rw [ownA_eq (s := s) (o := o) (δ := δ.set i (.ow m)), ownA_eq (s := s) (o := o) (δ := δ), ownA_setOw (by simpa using h)]
theorem slots_write {K : PySem.W.Frag} {dr : Option Dr} {S : List Addr} {H : Hp} {a : Addr} {ys : List V} {m : List D} (ha : a ∈ S) (r : RepL K dr (hide S H) m ys) : ∀ {δ : De} {σ : L2.St} {i : Nat} {l : List D}, (ownA δ σ).Nodup → δ[i]? = some (.ow l) → σ[i]? = some (some (.ref a)) → SlotsOk K dr S H δ σ →
    SlotsOk K dr S (upd H a (.lst ys)) (δ.set i (.ow m)) σ := by
  have hide_upd : hide S (upd H a (.lst ys)) = hide S H := by
    funext b
    unfold hide
    by_cases c : b ∈ S
    · rw [if_pos c, if_pos c]
    · rw [if_neg c, if_neg c, upd_ne (fun z => c (by rw [z]; exact ha))]
  have other : ∀ {δ : De} {σ : L2.St}, a ∉ ownA δ σ → SlotsOk K dr S H δ σ → SlotsOk K dr S (upd H a (.lst ys)) δ σ := fun {δ σ} hn h => h.stay (by rw [hide_upd]; exact LamX.ExtN.refl _) fun b u hb e _ => by
    rw [upd_ne (fun z => hn (by rw [← z]; exact hb))]
    exact e
  intro δ
  induction δ with
  | nil => intro σ i l _ h; simp at h
  | cons s δ ih =>
    intro σ i l nd hd hs h
    cases σ with
    | nil => exact h.elim
    | cons o σ =>
      rw [ownA_eq] at nd
      obtain ⟨n1, n2, n3⟩ := List.nodup_append.mp nd
      cases i with
      | zero =>
        simp at hd hs
        subst hd hs
        refine ⟨⟨a, ys, rfl, upd_same, by rw [hide_upd]; exact r⟩, other (fun z => ?_) h.2⟩
        exact n3 a (by simp [ownA]) a z rfl
      | succ i =>
        have hd' : δ[i]? = some (.ow l) := by simpa using hd
        have hs' : σ[i]? = some (some (.ref a)) := by simpa using hs
        refine ⟨?_, ih n2 hd' hs' h.2⟩
        have hn : a ∉ ownA [s] [o] := fun z => n3 a z a (mem_own (l := l) hd' hs') rfl
        exact (other (δ := [s]) (σ := [o]) hn ⟨h.1, trivial⟩).1
/-- an own list is changed -/
theorem SEnv.write {F : Fr} {K : PySem.W.Frag} {δ : De} {σ : L2.St} {H : Hp} {i : Nat} {l m : List D} {a : Addr} {xs ys : List V} (h : SEnv K F δ σ H) (hd : δ[i]? = some (.ow l)) (hs : σ[i]? = some (some (.ref a))) (ha : H a = some (.lst xs)) (r : RepL K F.W.dr (hide (hidA F.W F.M δ σ) H) m ys) :
    SEnv K F (δ.set i (.ow m)) σ (upd H a (.lst ys)) := by
  have hown := mem_own (l := l) hd hs
  have hdj := h.env.dj a hown
  have e := ownA_setOw (σ := σ) (m := m) hd
  have e2 : hidA F.W F.M (δ.set i (.ow m)) σ = hidA F.W F.M δ σ := by rw [hidA, hidA, e]
  refine ⟨⟨h.env.w.write ha trivial (fun φ z => by cases z) hdj.1, fun b hb => ?_, by rw [e]; exact h.env.nd, by rw [e]; exact h.env.dj, ?_⟩, fun b o h1 h2 h3 t => ?_, by rw [e]; exact h.own⟩
  · obtain ⟨h1, o, h2, h3⟩ := h.env.m b hb
    refine ⟨h1, o, ?_, h3⟩
    rw [upd_ne (fun z => hdj.2 (by rw [← z]; exact hb))]
    exact h2
  · rw [e2]
    exact slots_write (by simp [hidA, hown]) r h.env.nd hd hs h.env.sl
  · rw [upd_ne (fun z => ?_)]
    · exact h.ext b o h1 h2 h3 t
    · rw [z] at h2 h3
      rcases h.own a hown with q | q | ⟨ps, q⟩
      · exact h2 q
      · rw [q] at h3; cases h3
      · rw [q] at h3; exact t ps (Option.some.inj h3).symm
theorem hide_write {S : List Addr} {H : Hp} {a : Addr} {o : HO} (h : a ∈ S) : hide S (upd H a o) = hide S H := by
  funext b
  unfold hide
  by_cases c : b ∈ S
  · rw [if_pos c, if_pos c]
  · rw [if_neg c, if_neg c, upd_ne (fun z => c (by rw [z]; exact h))]
/-- xs.append(e) -/
theorem ds_append (i : Nat) {x : Str} {l : List D} {p1 p2 : Pos} (hN : X.N[i]? = some x) (hv : Vis X.env.scope x) (hd : δ[i]? = some (.ow l)) (hl : l.length < 16777216) (h : DE X W M wx δ e (fun d => O.nx (δ.set i (.ow (l ++ [d])))) Ke)
    (hs : swapsWith (.Call (.Attribute (.Name x p1) "append" p2) [e] [] pos) none pos.line X.env = pure false := by rfl) (hline : (p2.endLine == pos.line) = true := by rfl) (hse : starEach [e] X.env = (false, eval e X.env) :: starEach [] X.env := by rfl)
    (hdb : (x == ("__debug__" : Str)) = false := by decide) (hcd : (x == ("__classdict__" : Str)) = false := by decide) (hbase : attributeBase (.Name x p1) "append" X.env (eval (.Name x p1) X.env) = eval (.Name x p1) X.env := by rfl)
    (hfew : ((backTo pos (starEach [e] X.env)).all (fun x => !x.1) && (backToKw pos (keywordEach [] X.env)).all (fun x => x.1.isSome) && decide (([e] : List Expr).length + ([] : List Keyword).length + (if ([] : List Keyword).isEmpty then 0 else 1) < 30)) = true := by rfl) (hpl : (backTo pos (starEach [] X.env)).any (·.1) = false := by rfl) :
    DS X W M wx δ (.Expr (.Call (.Attribute (.Name x p1) "append" p2) [e] [] pos) pos) O Ke := fun H0 N =>
  PS.imp (ps_expr (pe_bm PySem.F.plainAttrs_list PySem.F.slot_list_append PySem.F.type_list_append mt_append (pe_var hN hv hdb hcd) (pa_cons pe_any pa_nil hse) hbase hfew hline hse hpl) hs) fun Dn σ H ⟨env, n, b, c, r, x⟩ => by
    obtain ⟨a, xs, e1, hown, h2, h3⟩ := own_at env.env hd
    refine ⟨_, e1, .inl ⟨rfl, xs, SqL.of h2⟩, ex_run h env (fun v H' d env' ex r1 k => ?_) x⟩
    obtain ⟨a', xs', e1', hown', h2', h3'⟩ := own_at env'.env hd
    rw [e1] at e1'
    cases e1'
    exact ⟨a, xs', v, rfl, rfl, h2', by rw [← h3'.length, sizeLine_eq]; exact hl, n _ _ _ (env'.write hd e1 h2' (h3'.append (.cons r1 .nil))) k⟩
end
end Lay

/-! # DS9: the built-in names, once -/
namespace Lay
open PySem PySem.Spec PyProof.Rows L2


theorem brT {P Q : Prop} {b : Bool} (hb : b = true) (h : P) : (b = true → P) ∧ (b = false → Q) := ⟨fun _ => h, fun e => (by rw [hb] at e; cases e)⟩
theorem brF {P Q : Prop} {b : Bool} (hb : b = false) (h : Q) : (b = true → P) ∧ (b = false → Q) := ⟨fun e => (by rw [hb] at e; cases e), fun _ => h⟩
theorem takes_wx0 {X : Cx} : Takes X wx0 := fun _ _ ⟨_, _, _, _, _, _, _, _, _, _, _, _, _, _, _, _, w⟩ => w.elim
theorem bb_int : bootBuiltins "int" = some (.type "int") := by decide +kernel
theorem bb_bool : bootBuiltins "bool" = some (.type "bool") := by decide +kernel
theorem bb_tuple : bootBuiltins "tuple" = some (.type "tuple") := by decide +kernel
theorem bb_list : bootBuiltins "list" = some (.type "list") := by decide +kernel
theorem bb_dict : bootBuiltins "dict" = some (.type "dict") := by decide +kernel
theorem bb_str : bootBuiltins "str" = some (.type "str") := by decide +kernel
theorem bb_len : bootBuiltins "len" = some (.builtin "len") := by decide +kernel
theorem bb_abs : bootBuiltins "abs" = some (.builtin "abs") := by decide +kernel
theorem bb_all : bootBuiltins "all" = some (.builtin "all") := by decide +kernel
theorem bb_min : bootBuiltins "min" = some (.builtin "min") := by decide +kernel
theorem bb_max : bootBuiltins "max" = some (.builtin "max") := by decide +kernel
theorem ty_int : ("int" : String) ∈ tys := by decide +kernel
theorem ty_bool : ("bool" : String) ∈ tys := by decide +kernel
theorem ty_tuple : ("tuple" : String) ∈ tys := by decide +kernel
theorem ty_list : ("list" : String) ∈ tys := by decide +kernel
theorem ty_dict : ("dict" : String) ∈ tys := by decide +kernel
theorem ty_str : ("str" : String) ∈ tys := by decide +kernel



/-- a number of the top -/
def GInt (mg : Str → Option Value) (x : Str) (n : Int) : Prop := ∃ t, mg x = some (.int n t)
theorem dx_gint {X : Cx} {W : Wd} {M : List Addr} {wx : WX} {δ : De} {x : Str} {n : Int} {Kp : KD} {Ke : KX} {pos : Pos} (hg : Gl X x) (hm : GInt X.mg x n) (k : Kp (.int n)) (hdb : (x == ("__debug__" : Str)) = false := by decide) : DE X W M wx δ (.Name x pos) Kp Ke :=
  let ⟨t, h⟩ := hm; dx_glob (v := .int n) (d := .int n) hg h ⟨t, rfl⟩ (fun _ => rfl) (fun _ _ h => h) k hdb
section
variable {X : Cx} {W : Wd} {M : List Addr} {δ : De} {scope : Scope} {elt c : Expr} {vs : List Nat} {t : Tg} {ds : List D} {Kl : List D → Prop}
/-- a comprehension that maps -/
theorem lc_map (f : D → D) (hl : ds.length ≤ 16777216) (ht : ∀ d ∈ ds, t.fits d) (hb : ∀ d ∈ ds, ∀ A s H C cl fp, DE (BX X scope s H C cl fp) W (A :: M) wx0 (t.put d (wipeD δ vs)) elt (fun y => y = f d) kx0) (hk : Kl (ds.map f)) :
    ds.length ≤ 16777216 ∧ ∃ R : D → Option D → Prop, (∀ d ∈ ds, LcB X W M δ scope vs t elt R d) ∧ ∀ l, Coll R ds l → Kl l :=
  ⟨hl, fun d y => y = some (f d), fun d hd => ⟨ht d hd, fun A s H C cl fp => (hb d hd A s H C cl fp).weak (fun _ e => by rw [e])⟩, fun l h => by rw [coll_map h fun d _ y e => e]; exact hk⟩
/-- a comprehension that maps and leaves out -/
theorem lc_filter (f : D → Option D) (hl : ds.length ≤ 16777216) (ht : ∀ d ∈ ds, t.fits d)
    (hb : ∀ d ∈ ds, ∀ A s H C cl fp, DT (BX X scope s H C cl fp) W (A :: M) wx0 (t.put d (wipeD δ vs)) c (fun b => (b = true → ∀ s H C cl fp, DE (BX X scope s H C cl fp) W (A :: M) wx0 (t.put d (wipeD δ vs)) elt (fun y => f d = some y) kx0) ∧ (b = false → f d = none)) kx0) (hk : Kl (ds.filterMap f)) :
    ds.length ≤ 16777216 ∧ ∃ R : D → Option D → Prop, (∀ d ∈ ds, LcC X W M δ scope vs t elt c R d) ∧ ∀ l, Coll R ds l → Kl l :=
  ⟨hl, fun d y => f d = y, fun d hd => ⟨ht d hd, fun A s H C cl fp => (hb d hd A s H C cl fp)⟩, fun l h => by rw [coll_filter h fun d _ y e => e.symm]; exact hk⟩
end

end Lay

/-! # DS10: data that can be compared -/
namespace Lay
open PySem PySem.Spec PyProof.Rows L2
mutual
/-- None, bool, int, str, and tuples and lists of these, at most n deep -/
def okd : Nat → D → Bool
  | _, .non => true
  | _, .bl _ => true
  | _, .int _ => true
  | _, .str x => PyData.canLay0 (.str x)
  | n + 1, .tup l => okdL n l
  | n + 1, .lst l => okdL n l
  | _, _ => false
def okdL : Nat → List D → Bool
  | _, [] => true
  | n, d :: ds => okd n d && okdL n ds
end
mutual
theorem okd_py : ∀ (n : Nat) (d : D), okd n d = true → ∃ p, py d = some p ∧ p.canLay0 = true ∧ p.depth ≤ n
  | n, .non, _ => ⟨_, rfl, rfl, by simp [PyData.depth]⟩
  | n, .bl _, _ => ⟨_, rfl, rfl, by simp [PyData.depth]⟩
  | n, .int _, _ => ⟨_, rfl, rfl, by simp [PyData.depth]⟩
  | n, .str x, h => ⟨_, rfl, by cases n <;> exact h, by simp [PyData.depth]⟩
  | 0, .tup l, h => by cases h
  | 0, .lst l, h => by cases h
  | n + 1, .tup l, h => by
    obtain ⟨ps, h1, h2, h3⟩ := okdL_py n l h
    refine ⟨.tuple ps, by simp [py, h1], by simpa [PyData.canLay0] using h2, ?_⟩
    simp only [PyData.depth]; omega
  | n + 1, .lst l, h => by
    obtain ⟨ps, h1, h2, h3⟩ := okdL_py n l h
    refine ⟨.list ps, by simp [py, h1], by simpa [PyData.canLay0] using h2, ?_⟩
    simp only [PyData.depth]; omega
  | 0, .dic _ _, h => by cases h
  | 0, .ins _ _ _, h => by cases h
  | 0, .exc _ _ _, h => by cases h
  | 0, .drw, h => by cases h
  | 0, .frz _, h => by cases h
  | n + 1, .dic _ _, h => by cases h
  | n + 1, .ins _ _ _, h => by cases h
  | n + 1, .exc _ _ _, h => by cases h
  | n + 1, .drw, h => by cases h
  | n + 1, .frz _, h => by cases h
theorem okdL_py : ∀ (n : Nat) (l : List D), okdL n l = true → ∃ ps, pyL l = some ps ∧ PyData.canLayAll0 ps = true ∧ PyData.depthAll ps ≤ n
  | n, [], _ => ⟨[], rfl, by simp [PyData.canLayAll0], by simp [PyData.depthAll]⟩
  | n, d :: l, h => by
    simp only [okdL, Bool.and_eq_true] at h
    obtain ⟨p, a1, a2, a3⟩ := okd_py n d h.1
    obtain ⟨ps, b1, b2, b3⟩ := okdL_py n l h.2
    refine ⟨p :: ps, by simp [pyL, a1, b1], by simp [PyData.canLayAll0, a2, b2], ?_⟩
    simp only [PyData.depthAll]; omega
end
theorem okd_dok {d : D} (h : okd 64 d = true) : dok d = true := by
  obtain ⟨p, a1, a2, a3⟩ := okd_py 64 d h
  unfold dok
  rw [a1]
  simp [SeqAt.shaped, a2, a3]
theorem okdL_iff {n : Nat} : ∀ {l : List D}, okdL n l = true ↔ ∀ d ∈ l, okd n d = true
  | [] => by simp [okdL]
  | d :: l => by simp only [okdL, Bool.and_eq_true, okdL_iff (l := l), List.forall_mem_cons]
theorem okd_lst {n : Nat} {l : List D} : okd (n + 1) (.lst l) = true ↔ ∀ d ∈ l, okd n d = true := okdL_iff
theorem okd_tup {n : Nat} {l : List D} : okd (n + 1) (.tup l) = true ↔ ∀ d ∈ l, okd n d = true := okdL_iff
mutual
theorem okd_mono : ∀ {n m : Nat} {d : D}, okd n d = true → n ≤ m → okd m d = true
  | n, m, .non, h, _ => by cases m <;> rfl
  | n, m, .bl _, h, _ => by cases m <;> rfl
  | n, m, .int _, h, _ => by cases m <;> rfl
  | n, m, .str x, h, _ => by
    cases n <;> cases m <;> exact h
  | 0, m, .tup l, h, _ => by cases h
  | 0, m, .lst l, h, _ => by cases h
  | n + 1, 0, .tup l, h, g => by omega
  | n + 1, 0, .lst l, h, g => by omega
  | n + 1, m + 1, .tup l, h, g => okdL_mono (n := n) (m := m) (l := l) h (by omega)
  | n + 1, m + 1, .lst l, h, g => okdL_mono (n := n) (m := m) (l := l) h (by omega)
  | 0, _, .dic _ _, h, _ => by cases h
  | 0, _, .ins _ _ _, h, _ => by cases h
  | 0, _, .exc _ _ _, h, _ => by cases h
  | 0, _, .drw, h, _ => by cases h
  | 0, _, .frz _, h, _ => by cases h
  | n + 1, _, .dic _ _, h, _ => by cases h
  | n + 1, _, .ins _ _ _, h, _ => by cases h
  | n + 1, _, .exc _ _ _, h, _ => by cases h
  | n + 1, _, .drw, h, _ => by cases h
  | n + 1, _, .frz _, h, _ => by cases h
theorem okdL_mono : ∀ {n m : Nat} {l : List D}, okdL n l = true → n ≤ m → okdL m l = true
  | n, m, [], _, _ => rfl
  | n, m, d :: l, h, g => by
    simp only [okdL, Bool.and_eq_true] at h ⊢
    exact ⟨okd_mono h.1 g, okdL_mono h.2 g⟩
end
/-- l is the empty list -/
theorem deq_nil {l : List D} (h : okd 64 (.lst l) = true) : deq (.lst l) (.lst []) = l.isEmpty := by
  obtain ⟨p, a1, a2, a3⟩ := okd_py 64 _ h
  unfold deq
  rw [a1]
  cases l with
  | nil => simp [py, pyL] at a1; subst a1; simp [py, pyL, PyData.eqv, PyData.eqvAll]
  | cons d l =>
    obtain ⟨ps, h1, h2, h3⟩ := okdL_py 63 (d :: l) h
    simp only [py, h1] at a1
    cases a1
    simp only [pyL] at h1
    split at h1
    · cases h1
      simp [py, pyL, PyData.eqv, PyData.eqvAll]
    · cases h1
theorem gNe_nil {l : List D} {k : KD} (h : okd 64 (.lst l) = true) (q : k (.bl (!l.isEmpty))) : gNe (.lst l) (.lst []) k := ⟨okd_dok h, by decide +kernel, by rw [deq_nil h]; exact q⟩
theorem gEq_nil {l : List D} {k : KD} (h : okd 64 (.lst l) = true) (q : k (.bl l.isEmpty)) : gEq (.lst l) (.lst []) k := ⟨okd_dok h, by decide +kernel, by rw [deq_nil h]; exact q⟩
end Lay

/-! # DS11: keywords, fields, properties, instances -/
namespace Lay
open PySem PySem.Spec PyProof.Rows L2

/-! ### keyword arguments -/
theorem PK.imp {X : Cx} {kws : List Keyword} {t t' : TA} (h : PK X kws t) (k : ∀ σ H Q, t' σ H Q → t σ H Q) : PK X kws t' := ⟨fun pos pins s σ H Q I q => h.run pos pins s σ H Q I (k σ H Q q)⟩
def tkAny (X : Cx) (kws : List Keyword) : TA := fun σ H Q => ∃ t, PK X kws t ∧ t σ H Q
theorem pk_any {X : Cx} {kws : List Keyword} : PK X kws (tkAny X kws) := ⟨fun pos pins s σ H Q I ⟨_, h, q⟩ => h.run pos pins s σ H Q I q⟩
def DK (X : Cx) (W : Wd) (M : List Addr) (wx : WX) (δ : De) (kws : List Keyword) (Kl : List D → Prop) (Ke : KX) : Prop := PK X kws (tA X.K W M wx δ Kl Ke)
section
variable {X : Cx} {W : Wd} {M : List Addr} {wx : WX} {δ : De} {e o : Expr} {es : List Expr} {kws : List Keyword} {Kp : KD} {Kl : List D → Prop} {Ke : KX} {pos p p1 p2 kpos : Pos} {x : Str} {f : FS} {k : Nat} {ps ks : List Str} {nm : Option Str} {st : Stmt}
theorem DK.run {σ : L2.St} {H : Hp} {Q : List V → Hp → Prop} (h : DK X W M wx δ kws Kl Ke) (env : EnvOk X.K W M δ σ H) (q : ∀ vs H' ds, Ext W H H' → RepL X.K W.dr (hide (hidA W M δ σ) H') ds vs → Kl ds → Q vs H')
    (qx : ∀ x cls dd H', Ext W H H' → XOk X.K W.dr (hide (hidA W M δ σ) H') x cls dd → Ke x → wx cls dd σ H') : tkAny X kws σ H Q := ⟨_, h, env, q, qx⟩
theorem dk_nil (k : Kl []) : DK X W M wx δ [] Kl Ke := PK.imp pk_nil fun σ H Q ⟨env, q, qx⟩ => q [] H [] (Ext.refl env.w) .nil k
theorem dk_cons (h : DE X W M wx δ e (fun d => DK X W M wx δ kws (fun ds => Kl (d :: ds)) Ke) Ke) : DK X W M wx δ (⟨nm, e, kpos⟩ :: kws) Kl Ke :=
  PK.imp (pk_cons pe_any pk_any) fun σ H Q ⟨env, q, qx⟩ => h.run env (fun x H1 d1 e1 r1 ha =>
    ha.run (env.ext e1) (fun vs H2 ds e2 r2 k => q (x :: vs) H2 (d1 :: ds) (e1.trans e2) (.cons (r1.mono ((env.ext e1).amb.hid e2)) r2) k) fun x cls dd H' e => qx x cls dd H' (e1.trans e)) qx
/-- a def by its name and its text -/
def FnD (G : Pg) (x : Str) (st : Stmt) (k : Nat) (ps : List Str) (f : FS) : Prop := ∃ fa fd, G.mg x = some (.ref fa) ∧ FunD G.K x x (defArgs st) (defBody st) (defScope st) [] [] fa fd ∧ FnOk G.P G.w G.K G.mg G.base (L2.CX G.P G.w) k fa fd ps (spD G.K G.T ps.length f)
theorem FnD.fn {G : Pg} (F : FnD G x st k ps f) (hb : ∀ (kV doc pm : Value) (an : Option Addr) (cdv ct : Value) (us : List Value), us.length = ps.length → bindArgs (PySem.W.fnOf x x (defArgs st) (defBody st) (defScope st) .none kV doc pm an cdv ct) ⟨us, []⟩ = pure (ps.zip us)) : Fn G x k ps f := by
  obtain ⟨fa, fd, a, b, c⟩ := F
  exact ⟨fa, fd, a, b.kp, c, b.bindsN hb⟩
theorem FnD.mono {G : Pg} {j : Nat} (F : FnD G x st j ps f) (h : j ≤ k) : FnD G x st k ps f := by
  obtain ⟨fa, fd, a, b, c⟩ := F
  exact ⟨fa, fd, a, b, c.mono h⟩
theorem vals_rev {vs : List V} {us : List Value} (h : Vals vs us) : Vals vs.reverse us.reverse := by
  induction h with
  | nil => exact .nil
  | cons r _ ih =>
    rw [List.reverse_cons, List.reverse_cons]
    exact ih.append (.cons r .nil)
theorem run_fnP {CX : CXT} {fd : FuncData} {fa : Addr} {sp : Sp} {E : XK} {n : Nat} {g : List Value → List Value → List Value} {gV : List V → List V → List V} {pins : List (Addr × Obj)} {σ : L2.St} {H : Hp} {s : Shared} {Q : VK} {us ws : List Value} {vs zs : List V} (F : FnOk X.prog X.w X.K X.mg X.base CX k fa fd ps sp) (hr : Room k X.A)
    (hb : KBn X.K fd ps n ks g gV) (hx : PassesAt CX X σ E) (I : L2.Inv X pins σ H s) (r : Vals vs us) (rz : Vals zs ws) (l1 : vs.length = n) (l2 : zs.length = ks.length) (h : sp (gV vs zs) H Q E) : wpAny (model X.prog X.w) X.A (call (.ref fa) us (ks.zip ws)) (EP X pins σ Q) X.xe s :=
  wpAny_call (codeAny_mono (F.run X.A X.stack s H ⟨us, ks.zip ws⟩ (g us ws) (gV vs zs) Q E hr I.env0 (hb.to s us ws I.kIn (r.length.symm.trans l1) (rz.length.symm.trans l2)) (hb.rel r rz) h) fun r s' hq => match r, hq with
    | .error e, hq => hx pins H s e s' I hq
    | .ok (.ret u), hq => I.after hq
    | .ok .next, hq => False.elim hq
    | .ok .brk, hq => False.elim hq
    | .ok .cont, hq => False.elim hq)
theorem pe_callN0 {CX : CXT} {fd : FuncData} {fa : Addr} {sp : Sp} {E : L2.St → XK} {tk : TA} {g : List Value → List Value → List Value} {gV : List V → List V → List V} (F : FnOk X.prog X.w X.K X.mg X.base CX k fa fd ps sp) (hr : Room k X.A) (hg : Gl X x) (hm : X.mg x = some (.ref fa)) (hk : PySem.W.keepIn X.K (.ref fa) = true)
    (hb : KBn X.K fd ps 0 ks g gV) (hx : ∀ σ, PassesAt CX X σ (E σ)) (hkw : PK X kws tk) (hall : (backToKw pos (keywordEach kws X.env)).all (·.1.isSome) = true) (hks : (backToKw pos (keywordEach kws X.env)).filterMap (·.1) = ks) (hdb : (x == ("__debug__" : Str)) = false)
    (hpl : ((backTo pos (starEach [] X.env)).any (·.1) || (backToKw pos (keywordEach kws X.env)).any (·.1.isNone)) = false) : PE X (.Call (.Name x p) [] kws pos) (fun σ H Q => tk σ H fun zs H2 => zs.length = ks.length ∧ sp (gV [] zs) H2 Q (E σ)) := by
  refine ⟨fun pins s σ H Q I h => wpAny_Call_Name_kw (ld_glob I hg hm ?_ hdb)⟩
  refine PySem.W.callWith_KW0 (h₀ := X.base) I.ok.mod.kin hk hall (thn (hkw.run pos pins s σ H _ I h) fun ws s2 ⟨zs, H2, I2, rz, l2, q2⟩ => ⟨I2.kIn, ?_⟩) hpl
  rw [hks]
  exact run_fnP (us := []) (vs := []) F hr hb (hx σ) I2 .nil rz rfl l2 q2
/-- f(k = v, ..), the parameters from the last to the first -/
theorem dx_callR (F : FnD (Cx.pg X W.T) x st k ps f) (hr : Room k X.A) (tk : Takes X wx) (hg : Gl X x) (ks : List Str) (hks : (backToKw pos (keywordEach kws X.env)).filterMap (·.1) = ks) (hl : ks.length = ps.length)
    (hb : ∀ (kV doc pm : Value) (an : Option Addr) (cdv ct : Value) (ws : List Value), ws.length = ks.length → bindArgs (PySem.W.fnOf x x (defArgs st) (defBody st) (defScope st) .none kV doc pm an cdv ct) ⟨[], ks.zip ws⟩ = pure (ps.zip ws.reverse))
    (h : DK X W M wx δ kws (fun ds => ds.length = ps.length ∧ f ds.reverse Kp Ke) Ke) (hall : (backToKw pos (keywordEach kws X.env)).all (·.1.isSome) = true := by rfl) (hdb : (x == ("__debug__" : Str)) = false := by decide)
    (hpl : ((backTo pos (starEach [] X.env)).any (·.1) || (backToKw pos (keywordEach kws X.env)).any (·.1.isNone)) = false := by rfl) : DE X W M wx δ (.Call (.Name x p) [] kws pos) Kp Ke := by
  obtain ⟨fa, fd, hm, F, FO⟩ := F
  have hB : KBn X.K fd ps 0 ks (fun _ ws => ws.reverse) (fun _ zs => zs.reverse) := by
    obtain ⟨oc, od, dV, kV, doc, pm, an, cdv, ct, osl, rfl, lk, hcd, hD, hK⟩ := F.ex
    rcases hD with ⟨_, rfl⟩ | ⟨e, _⟩
    · exact ⟨fun s us ws _ l1 l2 => by
        cases us with
        | nil => exact .of_eq (hb kV doc pm an cdv ct ws l2)
        | cons _ _ => simp at l1, fun _ r => vals_rev r⟩
    · exact absurd rfl e
  refine PE.imp (pe_callN0 FO hr hg hm F.kp hB (fun σ => passAt tk σ) pk_any hall hks hdb hpl) fun σ H Q ⟨env, q, qx⟩ => ?_
  exact h.run env (fun vs H1 ds e1 r1 ⟨hl2, hf⟩ => ⟨by rw [← r1.length, hl2, hl], sp_of (by rw [List.length_reverse]; exact hl2) env q qx e1 r1.reverse hf⟩) qx

/-! ### fields -/
theorem look_rep {K : PySem.W.Frag} {dr : Option Dr} {H : Hp} {f : Str} : ∀ {fs : List Str} {ds : List D} {xs : List V} {d : D}, RepL K dr H ds xs → (fs.zip ds).lookup f = some d → ∃ v, (fs.zip xs).lookup f = some v ∧ Rep K dr H d v
  | [], _, _, _, _, h => by simp at h
  | g :: fs, [], _, _, _, h => by simp at h
  | g :: fs, d' :: ds, _, d, r, h => by
    obtain ⟨v, xs, rfl, r1, r2⟩ := r
    rw [List.zip_cons_cons, List.lookup_cons] at h ⊢
    by_cases c : (f == g) = true
    · rw [c] at h ⊢
      cases h
      exact ⟨v, rfl, r1⟩
    · rw [show (f == g) = false by simpa using c] at h ⊢
      exact look_rep r2 h
/-- o.f -/
theorem dx_fld {a : Str} (h : DE X W M wx δ o (fun d => ∃ C fs ds v, d = .ins C fs ds ∧ Cls X.K C ∧ NoAttr X.K C a ∧ (fs.zip ds).lookup a = some v ∧ Kp v) Ke) (hb : attributeBase o a X.env (eval o X.env) = eval o X.env := by rfl) : DE X W M wx δ (.Attribute o a pos) Kp Ke :=
  PE.imp (pe_fld pe_any hb) fun σ H Q ⟨env, q, qx⟩ => h.run env (fun x H1 d1 e1 r1 ⟨C, fs, ds, v, hd, c, n, l, k⟩ => by
    subst hd
    obtain ⟨p, dx, xs, rfl, h1, h2, h3⟩ := r1
    obtain ⟨u, l2, r2⟩ := look_rep h3 l
    exact ⟨p, C, dx, _, u, rfl, (hide_some h1).2, c, n, l2, q u H1 v e1 r2 k⟩) qx
/-- a def at an address -/
def FnA (G : Pg) (fa : Addr) (k : Nat) (ps : List Str) (f : FS) : Prop := ∃ fd, FnOk G.P G.w G.K G.mg G.base (L2.CX G.P G.w) k fa fd ps (spD G.K G.T ps.length f) ∧ Binds G.K fd ps []
theorem FnA.mono {G : Pg} {fa : Addr} {j : Nat} (F : FnA G fa j ps f) (h : j ≤ k) : FnA G fa k ps f := by
  obtain ⟨fd, a, b⟩ := F
  exact ⟨fd, a.mono h, b⟩
/-- o.f, a property -/
theorem dx_prop {C pp g : Addr} {a ps0 : Str} (c : Cls X.K C) (hp : PropOf X.K C a pp g) (F : FnA (Cx.pg X W.T) g k [ps0] f) (hr : Room (k + 1) X.A) (h : DE X W M wx δ o (fun d => (∃ fs ds, d = .ins C fs ds) ∧ f [d] Kp (fun _ => False)) Ke) (hb : attributeBase o a X.env (eval o X.env) = eval o X.env := by rfl) :
    DE X W M wx δ (.Attribute o a pos) Kp Ke := by
  obtain ⟨fd, FO, hB⟩ := F
  refine PE.imp (pe_prop (E := fun _ _ _ => False) pe_any c hp FO hr hB .nil (fun pins σ H s e s' I c => passAt (X := X.nox) takes_wx0 σ pins H s e s' I c) hb) fun σ H Q ⟨env, q, qx⟩ => h.run env (fun x H1 d1 e1 r1 ⟨⟨fs, ds, hd⟩, hf⟩ => ?_) qx
  subst hd
  have r1' := r1
  obtain ⟨p, dx, xs, rfl, h1, h2, h3⟩ := r1
  refine ⟨p, dx, _, rfl, (hide_some h1).2, ?_⟩
  refine ⟨rfl, W, hidA W M δ σ, [.ins C fs ds], Kp, (fun _ => False), rfl, (env.ext e1).amb, .cons r1' .nil, hf, fun v H' d e2 r2 kk => q v H' d (e1.trans e2) r2 kk, fun _ _ _ _ _ _ z => z.elim⟩
end
end Lay

/-! # DS12: instances are made -/
namespace Lay
open PySem PySem.Spec PyProof.Rows L2

abbrev FI := List D → (List Str → List D → Prop) → KX → Prop
/-- what an __init__ makes of the data: the fields and what they bear -/
def spI (K : PySem.W.Frag) (T : List (Addr × Str)) (C : Addr) (n : Nat) (f : FI) : Sp := fun vs H Q E => vs.length = n ∧ ∃ (W : Wd) (S : List Addr) (x dx : Addr) (vs' : List V) (ds : List D) (Kf : List Str → List D → Prop) (Ke : KX),
  W.T = T ∧ vs = .ref x :: vs' ∧ Amb W (x :: S) H ∧ (∀ a ∈ W.rg, a ∈ S) ∧ x ∉ S ∧ H x = some (.ins C dx []) ∧ RepL K W.dr (hide (x :: S) H) ds vs' ∧ f ds Kf Ke ∧
    (∀ H' fs es xs dx', (∀ b o, b ∉ W.rg → b ≠ x → H b = some o → (∀ ps, o ≠ .tbl ps) → H' b = some o) → WOk W H' → H' x = some (.ins C dx' (fs.zip xs)) → fs.length = xs.length → RepL K W.dr (hide (x :: S) H') es xs → Kf fs es → Q .non H') ∧
    ∀ y cls dd H', (∀ b o, b ∉ W.rg → b ≠ x → H b = some o → (∀ ps, o ≠ .tbl ps) → H' b = some o) → WOk W H' → XOk K W.dr (hide S H') y cls dd → Ke y → E cls dd H'
/-- the slots at an __init__'s entry -/
def stI (N : List Str) (x C : Addr) (ds : List D) : De := .oi x C [] [] :: (ds.map Sl.im ++ List.replicate (N.length - (ds.length + 1)) Sl.un)
theorem env_startI {K : PySem.W.Frag} {W : Wd} {S : List Addr} {H : Hp} {ds : List D} {vs : List V} {x C dx : Addr} (N : List Str) (am : Amb W (x :: S) H) (hS : ∀ a ∈ W.rg, a ∈ S) (hx : x ∉ S) (hH : H x = some (.ins C dx [])) (r : RepL K W.dr (hide (x :: S) H) ds vs) :
    EnvOk K W (outM W S) (stI N x C ds) (L2.start N (.ref x :: vs)) H ∧ ownA (stI N x C ds) (L2.start N (.ref x :: vs)) = [x] ∧ (∀ a, a ∈ W.rg ++ outM W S ↔ a ∈ S) := by
  have hm : ∀ a, a ∈ W.rg ++ outM W S ↔ a ∈ S := fun a => by
    simp only [outM, List.mem_append, List.mem_filter, decide_eq_true_eq]
    constructor
    · rintro (h | ⟨h, _⟩)
      · exact hS a h
      · exact h
    · intro h
      by_cases c : a ∈ W.rg
      · exact .inl c
      · exact .inr ⟨h, c⟩
  have e0 : L2.start N (.ref x :: vs) = some (.ref x) :: (vs.map some ++ List.replicate (N.length - (vs.length + 1)) none) := by
    simp [L2.start]
  have ho : ownA (stI N x C ds) (L2.start N (.ref x :: vs)) = [x] := by
    rw [e0]
    show x :: ownA (ds.map Sl.im ++ List.replicate (N.length - (ds.length + 1)) Sl.un) _ = [x]
    rw [ownA_im ds _ _ _ (by rw [List.length_map]; exact r.length) (by rw [r.length]; exact ownA_un _ _)]
  have hxr : x ∉ W.rg := fun z => hx (hS x z)
  refine ⟨⟨am.w, fun a ha => ?_, by rw [ho]; simp, fun a ha => ?_, ?_⟩, ho, hm⟩
  · simp only [outM, List.mem_filter, decide_eq_true_eq] at ha
    rcases am.tr a (List.mem_cons_of_mem _ ha.1) with z | z
    · exact absurd z ha.2
    · exact ⟨ha.2, z⟩
  · rw [ho] at ha
    cases List.mem_singleton.mp ha
    refine ⟨hxr, fun z => hx ?_⟩
    simp only [outM, List.mem_filter] at z
    exact z.1
  · have e : ExN (hide (x :: S) H) (hide (hidA W (outM W S) (stI N x C ds) (L2.start N (.ref x :: vs))) H) := hide_more fun a ha => by
      rw [hidA, ho, List.mem_append] at ha
      rcases ha with ha | ha
      · exact List.mem_cons_of_mem _ ((hm a).mp ha)
      · rw [List.mem_singleton.mp ha]; exact List.mem_cons_self
    have q := slots_im (slots_un (K := K) (dr := W.dr) (S := hidA W (outM W S) (stI N x C ds) (L2.start N (.ref x :: vs))) (H := H) (N.length - (vs.length + 1))) (r.mono e)
    generalize hidA W (outM W S) (stI N x C ds) (L2.start N (.ref x :: vs)) = S' at q ⊢
    rw [e0]
    unfold stI
    rw [r.length]
    exact ⟨⟨x, dx, [], rfl, hH, rfl, rfl, rfl⟩, q⟩
theorem mem_oi {δ : De} {σ : L2.St} {i : Nat} {p C : Addr} {fs : List Str} {ds : List D} : δ[i]? = some (.oi p C fs ds) → σ[i]? = some (some (.ref p)) → p ∈ ownA δ σ := by
  induction δ generalizing σ i with
  | nil => intro h; simp at h
  | cons s δ ih =>
    intro h1 h2
    cases σ with
    | nil => simp at h2
    | cons o σ =>
      cases i with
      | zero =>
        simp at h1 h2
        subst h1 h2
        exact ownA_cons.mpr (.inl (by simp [ownA]))
      | succ i => exact ownA_cons.mpr (.inr (ih (by simpa using h1) (by simpa using h2)))
/-- an __init__ at an address -/
def FnI (G : Pg) (C fI : Addr) (k : Nat) (ps : List Str) (f : FI) : Prop := ∃ fd, FnOk G.P G.w G.K G.mg G.base (L2.CX G.P G.w) k fI fd ps (spI G.K G.T C ps.length f) ∧ Binds G.K fd ps [] ∧ ∃ x q st, FunD G.K x q (defArgs st) (defBody st) (defScope st) [] [] fI fd
theorem init_ok {G : Pg} {q : Str} {st : Stmt} {fa C : Addr} {fd : FuncData} {k : Nat} {N ps : List Str} {f : FI} {x : Str} (F : FunD G.K x q (defArgs st) (defBody st) (defScope st) [] [] fa fd) (S : FnScope N ps (defScope st))
    (body : ∀ (cdv : Value) (A : Around) (outer : List Env) (s : Shared) (H : Hp) (E : XK) (dr : Option Dr) (M : List Addr) (x : Addr) (ds : List D) (Kf : List Str → List D → Prop) (Ke : KX), Takes (FX G N q st fa cdv A outer s H E) (wxE E) → PassesOwn (model G.P G.w) (FX G N q st fa cdv A outer s H E).A (FX G N q st fa cdv A outer s H E).env (FX G N q st fa cdv A outer s H E).xe →
      Room k (FX G N q st fa cdv A outer s H E).A → ds.length + 1 = ps.length → f ds Kf Ke → DSs (FX G N q st fa cdv A outer s H E) ⟨G.T, dr⟩ M (wxE E) (stI N x C ds) (defBody st) { nx := fun δ' => ∃ fs es, δ'[0]? = some (.oi x C fs es) ∧ Kf fs es, rt := fun _ => False } Ke) :
    FnOk G.P G.w G.K G.mg G.base (L2.CX G.P G.w) (k + 1) fa fd ps (spI G.K G.T C ps.length f) := by
  obtain ⟨oc, od, dV, kV, doc, pm, an, cdv0, ct, osl, e0, lk, hcd, _, _⟩ := F.ex
  subst e0
  refine fn_of lk hcd S (fun vs H Q E h => h.1) fun A outer s H vs Q E hr h => ?_
  obtain ⟨hl, W, S', x, dx, vs', ds, Kf, Ke, hT, rfl, am, hrg, hx, hH, r, hf, q1, qx⟩ := h
  obtain ⟨env, ho, hm⟩ := env_startI N am hrg hx hH r
  obtain ⟨WT, dr⟩ := W
  have hT : WT = G.T := hT
  subst hT
  have b := body cdv0 A outer s H E dr (outM ⟨G.T, dr⟩ S') x ds Kf Ke (takes_of rfl rfl rfl rfl) PassesOwn.leaving hr (by rw [r.length, ← hl]; rfl) hf H [x]
  have hk : ∀ {H' : Hp}, (∀ b o, b ∉ Wd.rg ⟨G.T, dr⟩ → b ∉ [x] → H b = some o → (∀ ps, o ≠ .tbl ps) → H' b = some o) → ∀ b o, b ∉ Wd.rg ⟨G.T, dr⟩ → b ≠ x → H b = some o → (∀ ps, o ≠ .tbl ps) → H' b = some o := fun e b o h1 h2 h3 t => e b o h1 (fun z => h2 (List.mem_singleton.mp z)) h3 t
  refine ⟨_, b, ⟨env, fun b o _ _ e _ => e, fun a ha => .inl (by rw [ho] at ha; exact ha)⟩, fun δ' σ' H' e k => ?_, fun _ _ _ _ z => z.elim, fun _ _ _ _ z => z.elim, fun _ _ _ _ _ z => z.elim, fun y cls dd σ' H' xe rd k => ?_⟩
  · obtain ⟨fs, es, h0, kf⟩ := k
    obtain ⟨o, e1, a, dx', xs, rfl, h2, h3, h4, rfl⟩ := e.env.sl.get h0
    refine q1 H' fs es xs dx' (hk e.ext) e.env.w h2 h3 (h4.mono (hide_more fun b hb => ?_)) kf
    rcases List.mem_cons.mp hb with rfl | hb
    · simp only [hidA, List.mem_append]
      exact .inr (mem_oi h0 e1)
    · simp only [hidA, List.mem_append]
      exact .inl (by have := (hm b).mpr hb; simpa using this)
  · exact qx y cls dd H' (hk xe.ext) xe.w (rd.mono (hide_more fun a ha => (hm a).mpr ha)) k
theorem FnI.of {G : Pg} {q : Str} {st : Stmt} {fa C : Addr} {fd : FuncData} {k : Nat} {N ps : List Str} {f : FI} {x : Str} (F : FunD G.K x q (defArgs st) (defBody st) (defScope st) [] [] fa fd) (S : FnScope N ps (defScope st))
    (hb : ∀ (kV doc pm : Value) (an : Option Addr) (cdv ct : Value) (us : List Value), us.length = ps.length → bindArgs (PySem.W.fnOf x q (defArgs st) (defBody st) (defScope st) .none kV doc pm an cdv ct) ⟨us, []⟩ = pure (ps.zip us))
    (body : ∀ (cdv : Value) (A : Around) (outer : List Env) (s : Shared) (H : Hp) (E : XK) (dr : Option Dr) (M : List Addr) (x : Addr) (ds : List D) (Kf : List Str → List D → Prop) (Ke : KX), Takes (FX G N q st fa cdv A outer s H E) (wxE E) → PassesOwn (model G.P G.w) (FX G N q st fa cdv A outer s H E).A (FX G N q st fa cdv A outer s H E).env (FX G N q st fa cdv A outer s H E).xe →
      Room k (FX G N q st fa cdv A outer s H E).A → ds.length + 1 = ps.length → f ds Kf Ke → DSs (FX G N q st fa cdv A outer s H E) ⟨G.T, dr⟩ M (wxE E) (stI N x C ds) (defBody st) { nx := fun δ' => ∃ fs es, δ'[0]? = some (.oi x C fs es) ∧ Kf fs es, rt := fun _ => False } Ke) :
    FnI G C fa (k + 1) ps f := ⟨fd, init_ok F S body, F.bindsN hb, x, q, st, F⟩
/-- a method, a getter by its body -/
theorem FnA.of {G : Pg} {q : Str} {st : Stmt} {fa : Addr} {fd : FuncData} {k : Nat} {N ps : List Str} {f : FS} {x : Str} (F : FunD G.K x q (defArgs st) (defBody st) (defScope st) [] [] fa fd) (S : FnScope N ps (defScope st))
    (hb : ∀ (kV doc pm : Value) (an : Option Addr) (cdv ct : Value) (us : List Value), us.length = ps.length → bindArgs (PySem.W.fnOf x q (defArgs st) (defBody st) (defScope st) .none kV doc pm an cdv ct) ⟨us, []⟩ = pure (ps.zip us))
    (body : ∀ (cdv : Value) (A : Around) (outer : List Env) (s : Shared) (H : Hp) (E : XK) (dr : Option Dr) (M : List Addr) (ds : List D) (Kp : KD) (Ke : KX), Takes (FX G N q st fa cdv A outer s H E) (wxE E) → PassesOwn (model G.P G.w) (FX G N q st fa cdv A outer s H E).A (FX G N q st fa cdv A outer s H E).env (FX G N q st fa cdv A outer s H E).xe →
      Room k (FX G N q st fa cdv A outer s H E).A → ds.length = ps.length → f ds Kp Ke → DSs (FX G N q st fa cdv A outer s H E) ⟨G.T, dr⟩ M (wxE E) (st0 N ds) (defBody st) { nx := fun _ => Kp .non, rt := Kp } Ke) : FnA G fa (k + 1) ps f := ⟨fd, fn_ok F S body, F.bindsN hb⟩
end Lay

/-! # DS13: C(..), self.f = e, own == -/
namespace Lay
open PySem PySem.Spec PyProof.Rows L2
section
variable {X : Cx} {W : Wd} {M : List Addr} {wx : WX} {δ : De} {e o : Expr} {es : List Expr} {kws : List Keyword} {Kp : KD} {Kl : List D → Prop} {Ke : KX} {pos p p1 p2 kpos : Pos} {x : Str} {k : Nat} {ps ks : List Str} {C fI : Addr} {f : FI}
theorem run_makeP {CX : CXT} {fd : FuncData} {sp : Sp} {E : XK} {g : List Value → List Value → List Value} {gV : List V → List V → List V} {n : Nat} {pins : List (Addr × Obj)} {σ : L2.St} {H : Hp} {s : Shared} {Q : VK} {us ws : List Value} {vs zs : List V} (mk : Mk X.K C fI)
    (F : FnOk X.prog X.w X.K X.mg X.base CX k fI fd ps sp) (hr : Room (k + 1) X.A) (hb : KBn X.K fd ps (n + 1) ks g gV) (hx : PassesAt CX X σ E) (I : L2.Inv X pins σ H s) (r : Vals vs us) (rz : Vals zs ws) (l1 : vs.length = n) (l2 : zs.length = ks.length)
    (h : ∀ x dx, H x = none → H dx = none → dx ≠ x → sp (gV (.ref x :: vs) zs) (upd (upd H dx (.own x)) x (.ins C dx [])) (fun v H2 => v = .non ∧ Q (.ref x) H2) E) : wpAny (model X.prog X.w) X.A (call (.ref C) us (ks.zip ws)) (EP X pins σ Q) X.xe s := by
  have hq := h (s.heap.objs.size + 1) s.heap.objs.size (I.hok.fresh (Nat.le_succ _)) (I.hok.fresh (Nat.le_refl _)) (Nat.ne_of_lt (Nat.lt_succ_self _))
  have J := L2.Inv.made (C := C) I; have r1 : Vals (V.ref (s.heap.objs.size + 1) :: vs) (Value.ref (s.heap.objs.size + 1) :: us) := .cons rfl r
  refine wpAny_call (make_map (f := fI) I.kIn mk.makes mk.init (beq_iff_eq.mp mk.fn) (codeAny_mono (F.run _ X.stack _ _ ⟨Value.ref (s.heap.objs.size + 1) :: us, ks.zip ws⟩ (g (Value.ref (s.heap.objs.size + 1) :: us) ws) _ _ E (hr.make C us (ks.zip ws)) (J.env0.make C us (ks.zip ws))
    (hb.to _ (Value.ref (s.heap.objs.size + 1) :: us) ws J.kIn (by rw [List.length_cons, ← r.length, l1]) (rz.length.symm.trans l2)) (hb.rel r1 rz) hq) fun r s' hq' => match r, hq' with
    | .error e, hq' => hx pins _ _ e s' J hq'
    | .ok (.ret u), hq' => by
      obtain ⟨v, H', I3, rv, rfl, q3⟩ := J.after hq'
      exact ⟨rv, ⟨V.ref (s.heap.objs.size + 1), H', I3, rfl, q3⟩⟩
    | .ok .next, hq' => False.elim hq'
    | .ok .brk, hq' => False.elim hq'
    | .ok .cont, hq' => False.elim hq'))
theorem kbn_pos {fd : FuncData} {n : Nat} (hb : Binds X.K fd ps []) (hn : ps.length = n) : KBn X.K fd ps n [] (fun us _ => us) (fun vs _ => vs) := ⟨fun s us ws hk l1 l2 => by
  have := hb s us hk (by rw [List.append_nil, l1, hn])
  rw [List.append_nil] at this
  exact this, fun r _ => r⟩
/-- what the maker's reading comes to -/
theorem make_run {σ : L2.St} {H H1 : Hp} {Q : VK} {vs : List V} {ds : List D} (hl : ds.length + 1 = ps.length) (env : EnvOk X.K W M δ σ H) (q : ∀ v H' d, Ext W H H' → Rep X.K W.dr (hide (hidA W M δ σ) H') d v → Kp d → Q v H')
    (qx : ∀ x cls dd H', Ext W H H' → XOk X.K W.dr (hide (hidA W M δ σ) H') x cls dd → Ke x → wx cls dd σ H') (e1 : Ext W H H1) (r1 : RepL X.K W.dr (hide (hidA W M δ σ) H1) ds vs) (hf : f ds (fun fs es => Kp (.ins C fs es)) Ke) :
    ∀ x dx, H1 x = none → H1 dx = none → dx ≠ x → spI X.K W.T C ps.length f (.ref x :: vs) (upd (upd H1 dx (.own x)) x (.ins C dx [])) (fun v H2 => v = .non ∧ Q (.ref x) H2) (WE wx σ) := by
  intro x dx hx hdx hne
  have am := (env.ext e1).amb
  have e2 : Ext W H1 (upd (upd H1 dx (.own x)) x (.ins C dx [])) := (Ext.new am.w hdx).trans (Ext.new (am.ext (Ext.new am.w hdx)).w (by rw [upd_ne (Ne.symm hne)]; exact hx))
  have nx := am.new hx
  have am2 := am.ext e2
  have keep : ∀ {H' : Hp}, (∀ b o, b ∉ W.rg → b ≠ x → upd (upd H1 dx (.own x)) x (.ins C dx []) b = some o → (∀ ps, o ≠ .tbl ps) → H' b = some o) → WOk W H' → Ext W H H' := fun kp ok => e1.trans ⟨fun b o h1 h2 t => kp b o h1 (fun z => by rw [z, hx] at h2; cases h2) (e2.keep b o h1 h2 t) t, ok⟩
  refine ⟨by rw [List.length_cons, ← r1.length, hl], W, hidA W M δ σ, x, dx, vs, ds, _, Ke, rfl, rfl, ⟨e2.ok, fun a ha => List.mem_cons_of_mem _ (am.rg a ha), fun a ha => ?_⟩, am.rg, nx, upd_same, r1.mono fun b u hb t => ?_, hf, fun H' fs es xs dx' kp ok hH hln re kf => ⟨rfl, ?_⟩, fun y cls dd H' kp ok rd ke => qx y cls dd H' (keep kp ok) rd ke⟩
  · rcases List.mem_cons.mp ha with rfl | ha
    · exact .inr ⟨_, upd_same, fun _ z => by cases z⟩
    · exact am2.tr a ha
  · obtain ⟨h1, h2⟩ := hide_some hb
    have hbx : b ≠ x := fun z => by rw [z, hx] at h2; cases h2
    refine hide_of (fun z => (List.mem_cons.mp z).elim hbx h1) ?_
    rw [upd_ne hbx, upd_ne (fun z => by rw [z, hdx] at h2; cases h2)]
    exact h2
  · exact q _ H' (.ins C fs es) (keep kp ok) ⟨x, dx', xs, rfl, hide_of nx hH, hln, re.mono (hide_more fun a ha => List.mem_cons_of_mem _ ha)⟩ kf
/-- C(e, ..) -/
theorem dx_make (mk : Mk X.K C fI) (F : FnI (Cx.pg X W.T) C fI k ps f) (hr : Room (k + 1) X.A) (tk : Takes X wx) (hg : Gl X x) (hm : X.mg x = some (.ref C)) (h : DA X W M wx δ (e :: es) (fun ds => ds.length + 1 = ps.length ∧ f ds (fun fs es => Kp (.ins C fs es)) Ke) Ke)
    (hdb : (x == ("__debug__" : Str)) = false := by decide) (he : starEach (e :: es) X.env = (false, eval e X.env) :: starEach es X.env := by rfl) (hpl : (backTo pos (starEach es X.env)).any (·.1) = false := by rfl) : DE X W M wx δ (.Call (.Name x p) (e :: es) [] pos) Kp Ke := by
  obtain ⟨fd, FO, hB, _⟩ := F
  refine ⟨fun pins s σ H Q I ⟨env, q, qx⟩ => wpAny_Call_Name_kw (ld_glob I hg hm ?_ hdb)⟩
  refine PySem.W.callWith_K (h₀ := X.base) I.ok.mod.kin mk.kp (thn ((pa_any (es := e :: es)).run pos pins s σ H _ I (h.run env (Q := fun vs H1 => vs.length + 1 = ps.length ∧ ∀ x dx, H1 x = none → H1 dx = none → dx ≠ x → spI X.K W.T C ps.length f (.ref x :: vs) (upd (upd H1 dx (.own x)) x (.ins C dx [])) (fun v H2 => v = .non ∧ Q (.ref x) H2) (WE wx σ))
    (fun vs H1 ds e1 r1 ⟨hl, hf⟩ => ⟨by rw [← r1.length]; exact hl, make_run hl env q qx e1 r1 hf⟩) qx)) fun us s1 ⟨vs, H1, I1, r, hn, q1⟩ => ⟨I1.kIn, ?_⟩) he hpl
  exact run_makeP (ks := []) (ws := []) (zs := []) (n := vs.length) mk FO hr (kbn_pos hB hn.symm) (passAt tk σ) I1 r .nil rfl rfl q1
/-- C(k = v) -/
theorem dx_makeK (mk : Mk X.K C fI) (F : FnI (Cx.pg X W.T) C fI k ps f) (hr : Room (k + 1) X.A) (tk : Takes X wx) (hg : Gl X x) (hm : X.mg x = some (.ref C)) (ks : List Str) (hks : (backToKw pos (keywordEach kws X.env)).filterMap (·.1) = ks) (hl : ks.length + 1 = ps.length)
    (hb : ∀ fd, (∃ x q st, FunD X.K x q (defArgs st) (defBody st) (defScope st) [] [] fI fd) → ∀ (s : Shared) (self : Value) (ws : List Value), X.K.In s.heap → ws.length = ks.length → BindsTo s fd ⟨[self], ks.zip ws⟩ (ps.zip (self :: ws)))
    (h : DK X W M wx δ kws (fun ds => ds.length + 1 = ps.length ∧ f ds (fun fs es => Kp (.ins C fs es)) Ke) Ke) (hall : (backToKw pos (keywordEach kws X.env)).all (·.1.isSome) = true := by rfl) (hdb : (x == ("__debug__" : Str)) = false := by decide)
    (hpl : ((backTo pos (starEach [] X.env)).any (·.1) || (backToKw pos (keywordEach kws X.env)).any (·.1.isNone)) = false := by rfl) : DE X W M wx δ (.Call (.Name x p) [] kws pos) Kp Ke := by
  obtain ⟨fd, FO, _, ex⟩ := F
  refine ⟨fun pins s σ H Q I ⟨env, q, qx⟩ => wpAny_Call_Name_kw (ld_glob I hg hm ?_ hdb)⟩
  refine PySem.W.callWith_KW0 (h₀ := X.base) I.ok.mod.kin mk.kp hall (thn ((pk_any (kws := kws)).run pos pins s σ H _ I (h.run env (Q := fun vs H1 => vs.length + 1 = ps.length ∧ ∀ x dx, H1 x = none → H1 dx = none → dx ≠ x → spI X.K W.T C ps.length f (.ref x :: vs) (upd (upd H1 dx (.own x)) x (.ins C dx [])) (fun v H2 => v = .non ∧ Q (.ref x) H2) (WE wx σ))
    (fun vs H1 ds e1 r1 ⟨hl, hf⟩ => ⟨by rw [← r1.length]; exact hl, make_run hl env q qx e1 r1 hf⟩) qx)) fun ws s1 ⟨zs, H1, I1, rz, hn, q1⟩ => ⟨I1.kIn, ?_⟩) hpl
  rw [hks]
  have B : KBn X.K fd ps (0 + 1) ks (fun us ws => us ++ ws) (fun vs zs => vs ++ zs) := ⟨fun s us ws hk l1 l2 => by
    match us, l1 with
    | [self], _ => exact hb fd ex s self ws hk l2, fun r rz => r.append rz⟩
  exact run_makeP (us := []) (vs := []) mk FO hr B (passAt tk σ) I1 .nil rz rfl (by omega) q1
end
end Lay

/-! # DS14: self.f = e; own == and != -/
namespace Lay
open PySem PySem.Spec PyProof.Rows L2
theorem ownA_swap {s s' : Sl} : ∀ {δ : De} {σ : L2.St} {i : Nat} {o : Option V}, ownA [s] [o] = ownA [s'] [o] → δ[i]? = some s → σ[i]? = some o → ownA (δ.set i s') σ = ownA δ σ
  | [], σ, i, o, _, h, _ => by simp at h
  | t :: δ, [], i, o, _, _, h => by simp at h
  | t :: δ, u :: σ, 0, o, e, h1, h2 => by
    simp at h1 h2
    subst h1 h2
    show ownA (s' :: δ) (u :: σ) = ownA (t :: δ) (u :: σ)
    rw [ownA_eq (s := s'), ownA_eq (s := t), e]
  | t :: δ, u :: σ, i + 1, o, e, h1, h2 => by
    show ownA (t :: δ.set i s') (u :: σ) = ownA (t :: δ) (u :: σ)
    rw [ownA_eq (s := t) (δ := δ.set i s'), ownA_eq (s := t) (δ := δ), ownA_swap e (by simpa using h1) (by simpa using h2)]
theorem slots_swap {K : PySem.W.Frag} {dr : Option Dr} {S : List Addr} {H : Hp} {a : Addr} {u : HO} {s s' : Sl} (ha : a ∈ S) (ho : ownA [s] [some (.ref a)] = [a]) (hs' : SlotOk K dr S (upd H a u) s' (some (.ref a))) : ∀ {δ : De} {σ : L2.St} {i : Nat}, (ownA δ σ).Nodup → δ[i]? = some s → σ[i]? = some (some (.ref a)) → SlotsOk K dr S H δ σ →
    SlotsOk K dr S (upd H a u) (δ.set i s') σ := by
  have other : ∀ {δ : De} {σ : L2.St}, a ∉ ownA δ σ → SlotsOk K dr S H δ σ → SlotsOk K dr S (upd H a u) δ σ := fun {δ σ} hn h => h.stay (by rw [hide_write ha]; exact LamX.ExtN.refl _) fun b w hb e _ => by
    rw [upd_ne (fun z => hn (by rw [← z]; exact hb))]
    exact e
  intro δ
  induction δ with
  | nil => intro σ i _ h; simp at h
  | cons t δ ih =>
    intro σ i nd hd hs h
    cases σ with
    | nil => exact h.elim
    | cons o σ =>
      rw [ownA_eq] at nd
      obtain ⟨n1, n2, n3⟩ := List.nodup_append.mp nd
      cases i with
      | zero =>
        simp at hd hs
        subst hd hs
        exact ⟨hs', other (fun z => n3 a (by rw [ho]; simp) a z rfl) h.2⟩
      | succ i =>
        have hd' : δ[i]? = some s := by simpa using hd
        have hs' : σ[i]? = some (some (.ref a)) := by simpa using hs
        have hin : a ∈ ownA δ σ := by
          clear ih n1 n2 n3 nd h hd hs
          induction δ generalizing σ i with
          | nil => simp at hd'
          | cons t' δ ih2 =>
            cases σ with
            | nil => simp at hs'
            | cons o' σ =>
              cases i with
              | zero =>
                simp at hd' hs'
                subst hd' hs'
                exact ownA_cons.mpr (.inl (by rw [ho]; simp))
              | succ i => exact ownA_cons.mpr (.inr (ih2 σ i (by simpa using hd') (by simpa using hs')))
        refine ⟨?_, ih n2 hd' hs' h.2⟩
        have hn : a ∉ ownA [t] [o] := fun z => n3 a z a hin rfl
        exact (other (δ := [t]) (σ := [o]) hn ⟨h.1, trivial⟩).1
theorem SEnv.swap {F : Fr} {K : PySem.W.Frag} {δ : De} {σ : L2.St} {H : Hp} {i : Nat} {s s' : Sl} {a : Addr} {o u : HO} (h : SEnv K F δ σ H) (hd : δ[i]? = some s) (hs : σ[i]? = some (some (.ref a))) (hown : a ∈ ownA δ σ) (ho : ownA [s] [some (.ref a)] = [a]) (ho' : ownA [s'] [some (.ref a)] = [a])
    (ha : H a = some o) (mu : Mut (some o)) (hx : ∀ φ, o ≠ .ext φ) (r : SlotOk K F.W.dr (hidA F.W F.M δ σ) (upd H a u) s' (some (.ref a))) : SEnv K F (δ.set i s') σ (upd H a u) := by
  have hdj := h.env.dj a hown
  have e := ownA_swap (s' := s') (by rw [ho, ho']) hd hs
  have e2 : hidA F.W F.M (δ.set i s') σ = hidA F.W F.M δ σ := by rw [hidA, hidA, e]
  refine ⟨⟨h.env.w.write ha mu hx hdj.1, fun b hb => ?_, by rw [e]; exact h.env.nd, by rw [e]; exact h.env.dj, ?_⟩, fun b w h1 h2 h3 t => ?_, by rw [e]; exact h.own⟩
  · obtain ⟨h1, w, h2, h3⟩ := h.env.m b hb
    refine ⟨h1, w, ?_, h3⟩
    rw [upd_ne (fun z => hdj.2 (by rw [← z]; exact hb))]
    exact h2
  · rw [e2]
    exact slots_swap (by simp [hidA, hown]) ho r h.env.nd hd hs h.env.sl
  · rw [upd_ne (fun z => ?_)]
    · exact h.ext b w h1 h2 h3 t
    · rw [z] at h2 h3
      rcases h.own a hown with q | q | ⟨ps, q⟩
      · exact h2 q
      · rw [q] at h3; cases h3
      · rw [q] at h3; exact t ps (Option.some.inj h3).symm
theorem putF_new {f : Str} {v : V} : ∀ {fs : List Str} {xs : List V}, fs.length = xs.length → f ∉ fs → putF f v (fs.zip xs) = (fs ++ [f]).zip (xs ++ [v])
  | [], [], _, _ => rfl
  | g :: fs, x :: xs, h, n => by
    simp only [List.mem_cons, not_or] at n
    show (if g = f then _ else (g, x) :: putF f v (fs.zip xs)) = _
    rw [if_neg (fun z => n.1 z.symm), putF_new (by simpa using h) n.2]
    rfl
section
variable {X : Cx} {W : Wd} {M : List Addr} {wx : WX} {δ : De} {e o : Expr} {O : Out} {Kp : KD} {Ke : KX} {pos p p1 p2 : Pos} {x : Str}
/-- self.a = e, in an __init__: a new field -/
theorem ds_fld (i : Nat) {a : Str} {q C : Addr} {fs : List Str} {ds : List D} (hN : X.N[i]? = some x) (hv : Vis X.env.scope x) (hd : δ[i]? = some (.oi q C fs ds)) (c : Cls X.K C) (n : NoAttr X.K C a) (hf : a ∉ fs) (hl : fs.length < 1000)
    (h : DE X W M wx δ e (fun d => O.nx (δ.set i (.oi q C (fs ++ [a]) (ds ++ [d])))) Ke) (hs : swapsWith e (some (.Attribute (.Name x p1) a p2)) pos.line X.env = pure false := by rfl) (hdb : (x == ("__debug__" : Str)) = false := by decide) (hcd : (x == ("__classdict__" : Str)) = false := by decide) :
    DS X W M wx δ (.Assign [.Attribute (.Name x p1) a p2] e pos) O Ke := fun H0 N =>
  PS.imp (ps_fld (pe_var hN hv hdb hcd) pe_any hs) fun Dn σ H ⟨env, nn, b, cc, r, xx⟩ => ex_run h env (fun v H' d env' ex r1 k => by
    obtain ⟨o, e1, p, dx, xs, rfl, h2, h3, h4, rfl⟩ := env'.env.sl.get hd
    refine ⟨_, e1, p, C, dx, _, rfl, h2, c, n, ?_, nn _ _ _ (env'.swap (s' := .oi p C (fs ++ [a]) (ds ++ [d])) hd e1 (mem_oi hd e1) (by simp [ownA]) (by simp [ownA]) h2 trivial (fun φ z => by cases z) ⟨p, dx, xs ++ [v], rfl, ?_, by simp [h3], ?_, rfl⟩) k⟩
    · rw [List.length_zip, ← h3, Nat.min_self]; exact hl
    · rw [upd_same, putF_new h3 hf]
    · rw [hide_write (by simp [hidA, mem_oi hd e1])]
      exact h4.append (.cons r1 .nil)) xx

/-! ### own == and != -/
/-- the class has a text's ==, and the != of object -/
structure OwnE (K : PySem.W.Frag) (C fe : Addr) : Prop where
  eq : PySem.W.findIn K (.ref C) "__eq__" = some (some (.ref fe))
  ne : PySem.W.findIn K (.ref C) "__ne__" = some (some (.builtin "object.__ne__"))
  fn : PySem.W.isFn K (.ref fe) = true
  ti : PySem.W.clsIn K C ≠ none
theorem ne_bind (self : Value) : bindSpecial (.builtin "object.__ne__") self = pure (.builtin "object.__ne__", [self]) :=
  (Slot.of (T := "object") (name := "__ne__") (owner := "object") (n := "__ne__") (by rw [typeLookup_type, builtinLookup_eq_fast]; kernel_rfl) (by decide +kernel) (by decide +kernel) (by decide +kernel)
    (.inl (by decide +kernel)) (by rw [isSubtype_type]; kernel_rfl)).bind self
theorem ne_plain : plainId "object.__ne__" = true := by decide +kernel
/-- != by the own == -/
theorem neK {prog : Program} {w : World} {A : Around} {E : Value → Shared → Prop} {s : Shared} {K : PySem.W.Frag} {x C f : Addr} {ox : Obj} {od : Option Obj} {b tb : Value} {Q : Value → Shared → Prop} (hu : A.units + 1 < cLine) (X : K.In s.heap) (I : PySem.W.InstAt s.heap x ox C od)
    (hb : PySem.W.Looks (model prog w) s.heap (typeOf b) tb) (hn : PySem.W.notFirst K C tb = true) (c : L2.Cls K C) (hne : PySem.W.findIn K (.ref C) "__ne__" = some (some (.builtin "object.__ne__"))) (heq : PySem.W.findIn K (.ref C) "__eq__" = some (some (.ref f))) (hf : PySem.W.isFn K (.ref f) = true)
    (h : wpAny (model prog w) A.in1 (call (.ref f) [.ref x, b]) (fun v s' => ∃ k, v = .bool k ∧ Q (.bool (!k)) s') E s) : wpAny (model prog w) A (richCompare .NotEq (.ref x) b) Q E s := by
  have bi : wpAny (model prog w) A (callSpecialIfBound? (.ref x) "__ne__" [b]) (fun r s' => ∃ k, r = some (.bool (!k)) ∧ Q (.bool (!k)) s') E s := by
    simp only [callSpecialIfBound?, bindSpecialIfBound?]
    refine wpAny_holding (wpAny_bind (wpAny_bind (wpAny_bind (I.type.here ((PySem.W.looks_findIn X hne).here ?_)))))
    refine wpAny_bind (wpAny_askSetting (wpAny_ite ?_))
    have fin : wpAny (model prog w) A (call (.builtin "object.__ne__") ([.ref x] ++ [b]) >>= fun v => pure (some v)) (fun r s' => ∃ k, r = some (.bool (!k)) ∧ Q (.bool (!k)) s') E s := by
      obtain ⟨cd, hc, ho⟩ := PySem.W.any_some c.po
      have ne : cd.mro.isEmpty = false := by cases q : cd.mro with | nil => rw [q] at ho; cases ho | cons _ _ => rfl
      have sub : PySem.W.Looks (model prog w) s.heap (isInstance (.ref x) (.type "object")) true := I.type.andThen (PySem.W.looks_mroIn X (by unfold PySem.W.mroIn; rw [hc, Option.bind_some, if_neg (by rw [ne]; decide), PySem.W.only_has ho]))
      refine wpAny_bind (wpAny_mono (Q := fun v s' => ∃ k, v = .bool (!k) ∧ Q (.bool (!k)) s') (wpAny_call (codeAny_call_builtin ne_plain F.cmpEntry_ne (@PySem.W.check_slot (model prog w) _ _ s "object.__ne__" "object" "__ne__" (.ref x) [b] [] _ F.cmpKind_ne F.cmpSplit_ne sub (F.cmpArgs_ne _ _) ?_))) (fun v s' ⟨k, e, q⟩ => by subst e; exact wpAny_pure ⟨k, rfl, q⟩) fun _ _ e => e)
      unfold Builtin.«object.__ne__»
      have inner : wpAny (model prog w) A.in1 (callSpecialIfBound? (.ref x) "__eq__" [b]) (fun r s' => ∃ k, r = some (.bool k) ∧ Q (.bool (!k)) s') E s := PySem.W.ifBound_K X I heq hf (wpAny_mono h (fun v s' ⟨k, e, q⟩ => ⟨k, by rw [e], q⟩) fun _ _ e => e)
      have sa : slotArgs "__ne__" 1 ⟨[.ref x] ++ [b], []⟩ = pure (.ref x, [b]) := by rfl
      rw [sa]; refine wpAny_bind (wpAny_pure (wpAny_bind (wpAny_cRoomFor hu (wpAny_bind (wpAny_mono inner (fun r s' ⟨k, e, q⟩ => ?_) fun _ _ e => e)))))
      subst e
      show wpAny _ _ (truthy (.bool k) >>= fun d => ret (.bool !d)) _ _ s'
      exact wpAny_bind (wpAny_truthy_bool (wpAny_pure ⟨k, rfl, q⟩))
    split
    · exact wpAny_bind ((PySem.W.Looks.of_pure (ne_bind (.ref x))).here (wpAny_pure (by exact fin)))
    · exact wpAny_tryCatch (wpAny_bind ((PySem.W.Looks.of_pure (ne_bind (.ref x))).here (wpAny_pure (by exact fin))))
  have one : wpAny (model prog w) A (tryCompare (.ref x) "__ne__" b) (fun r s' => ∃ k, r = some (.bool (!k)) ∧ Q (.bool (!k)) s') E s := by
    unfold tryCompare; exact wpAny_bind (wpAny_mono bi (fun r s' ⟨k, e, q⟩ => by subst e; exact wpAny_pure ⟨k, rfl, q⟩) fun _ _ e => e)
  unfold richCompare; simp only [oneThing_ref]
  refine wpAny_holding (wpAny_bind (wpAny_cRoomFor (by omega) (wpAny_bind (I.type.here (wpAny_bind (hb.here ?_))))))
  split
  · rename_i q
    have e : PySem.W.subIn K tb (.ref C) = some false := by
      rcases Bool.or_eq_true_iff.mp hn with e | e
      · rw [beq_iff_eq.mp e] at q; simp at q
      · exact beq_iff_eq.mp e
    refine wpAny_bind ((PySem.W.looks_subIn X e).here ?_); simp only [Bool.false_eq_true, if_false]
    exact wpAny_bind (wpAny_mono one (fun r s' ⟨k, e, q⟩ => by subst e; exact wpAny_pure q) fun _ _ e => e)
  · refine wpAny_bind (wpAny_pure ?_); simp only [Bool.false_eq_true, if_false]
    exact wpAny_bind (wpAny_mono one (fun r s' ⟨k, e, q⟩ => by subst e; exact wpAny_pure q) fun _ _ e => e)
end
end Lay

/-! # DS15: own == and != on data -/
namespace Lay
open PySem PySem.Spec PyProof.Rows L2
section
variable {X : Cx} {W : Wd} {M : List Addr} {wx : WX} {δ : De} {a b : Expr} {Kp : KD} {Kb : Bool → Prop} {Ke : KX} {pos : Pos} {C fe : Addr} {k : Nat} {p1 p2 : Str} {f : FS}
/-- an instance of C beside one of C or a tuple -/
def rOwnO (K : PySem.W.Frag) (C : Addr) (sp : Sp) : R2 := fun x y H Q => ∃ a dx fs b, x = .ref a ∧ y = .ref b ∧ H a = some (.ins C dx fs) ∧ ((∃ dy gs, H b = some (.ins C dy gs)) ∨ ∃ ys, SqT K H b ys) ∧ sp [x, y] H Q (fun _ _ _ => False)
theorem own_looks {pins : List (Addr × Obj)} {σ : L2.St} {H : Hp} {s : Shared} {b : Addr} (I : L2.Inv X pins σ H s) (h : (∃ dy gs, H b = some (.ins C dy gs)) ∨ ∃ ys, SqT X.K H b ys) :
    ∃ tb, PySem.W.Looks (model X.prog X.w) s.heap (typeOf (.ref b)) tb ∧ PySem.W.notFirst X.K C tb = true := by
  rcases h with ⟨dy, gs, hb⟩ | ⟨ys, hb⟩
  · obtain ⟨mB, J', _⟩ := ins_get I.hok hb
    obtain ⟨od', J', _⟩ := J'.look
    exact ⟨_, J'.type, by simp [PySem.W.notFirst]⟩
  · obtain ⟨its, r, ⟨⟨cls, dd, data, sl⟩, ho, hc, n, hd⟩, hs⟩ := I.tuple hb
    simp only at hc; subst hc
    refine ⟨.type "tuple", (PySem.W.Looks.ld ho).andThen .now, ?_⟩
    have : PySem.W.subIn X.K (.type "tuple") (.ref C) = some false := by rfl
    simp [PySem.W.notFirst, this]
theorem op_eqO (O : OwnE X.K C fe) {fd : FuncData} {ps : List Str} {sp : Sp} (FO : FnOk X.prog X.w X.K X.mg X.base (L2.CX X.prog X.w) k fe fd ps sp) (hB : Binds X.K fd ps []) (hr : Room k X.A) :
    OpR X (compareOp .Eq) (fun x y H Q => rOwnO X.K C sp x y H fun v H' => ∃ t, v = .bl t ∧ Q (.bl t) H') := by
  intro pins s σ H x y v u Q I rx ry h
  obtain ⟨a, dx, fs, b, rfl, rfl, ha, hb, q⟩ := h
  cases rx; cases ry
  obtain ⟨mA, J, _⟩ := ins_get I.hok ha
  obtain ⟨od, J, _⟩ := J.look
  obtain ⟨m, hF⟩ := I.fr
  obtain ⟨tb, lk, nf⟩ := own_looks I hb
  show wpAny (model X.prog X.w) X.A (richCompare .Eq (.ref a) (.ref b)) (EP X pins σ Q) X.xe s
  refine PySem.W.cmp_K (op := .Eq) (tb := tb) hr.units0 hF I.ok.mod.kin J lk nf O.eq O.fn (wpAny_mono (run_fnS (E := fun _ _ _ _ => False) (vs := [.ref a, .ref b]) (us := [.ref a, .ref b]) FO hr hB (fun pins H s e s' I c => passAt (X := X) takes_wx0 σ pins H s e s' I c) I (.cons rfl (.cons rfl .nil)) q) (fun r s' z => ?_) fun _ _ e => e)
  obtain ⟨w, H', I', rw, t, rfl, q'⟩ := z
  cases rw
  exact ⟨.bl t, H', I', rfl, q'⟩
theorem op_neO (O : OwnE X.K C fe) (c : Cls X.K C) {fd : FuncData} {ps : List Str} {sp : Sp} (FO : FnOk X.prog X.w X.K X.mg X.base (L2.CX X.prog X.w) k fe fd ps sp) (hB : Binds X.K fd ps []) (hr : Room (k + 2) X.A) :
    OpR X (compareOp .NotEq) (fun x y H Q => rOwnO X.K C sp x y H fun v H' => ∃ t, v = .bl t ∧ Q (.bl (!t)) H') := by
  intro pins s σ H x y v u Q I rx ry h
  obtain ⟨a, dx, fs, b, rfl, rfl, ha, hb, q⟩ := h
  cases rx; cases ry
  obtain ⟨mA, J, _⟩ := ins_get I.hok ha
  obtain ⟨od, J, _⟩ := J.look
  obtain ⟨tb, lk, nf⟩ := own_looks I hb
  have r2 : Vals [V.ref a, V.ref b] [Value.ref a, Value.ref b] := .cons rfl (.cons rfl .nil)
  have hl : [Value.ref a, Value.ref b].length = ps.length := by rw [← r2.length]; exact FO.len _ _ _ _ q
  have bb := hB s [.ref a, .ref b] I.kIn (by rw [List.append_nil]; exact hl)
  rw [List.append_nil] at bb
  have un : X.A.units + 1 < cLine := by
    have := hr.units
    omega
  show wpAny (model X.prog X.w) X.A (richCompare .NotEq (.ref a) (.ref b)) (EP X pins σ Q) X.xe s
  refine neK un I.kIn J lk nf c O.ne O.eq O.fn (wpAny_call (codeAny_mono (FO.run X.A.in1 X.stack s H ⟨[.ref a, .ref b], []⟩ [.ref a, .ref b] [.ref a, .ref b] _ _ ((hr.mono (by omega : k + 1 ≤ k + 2)).in1) I.env0.in1 bb r2 q) fun r s' hq => ?_))
  match r, hq with
  | .error e, hq => exact passAt (X := X) takes_wx0 σ pins H s e s' I hq
  | .ok (.ret u), hq =>
    obtain ⟨w, H', I', rw, t, rfl, q'⟩ := I.after hq
    cases rw
    exact ⟨t, rfl, .bl (!t), H', I', rfl, q'⟩
  | .ok .next, hq => exact False.elim hq
  | .ok .brk, hq => exact False.elim hq
  | .ok .cont, hq => exact False.elim hq
/-- an operator in this world -/
def OpDW (X : Cx) (W : Wd) (F : Value → Value → Sem Value) (g : D → D → KD → Prop) : Prop := ∃ r, OpR X F r ∧ ∀ S H x y d e (Kp : KD) (Q : VK), Amb W S H → Rep X.K W.dr (hide S H) d x → Rep X.K W.dr (hide S H) e y → g d e Kp → (∀ v H' d', Ext W H H' → Rep X.K W.dr (hide S H') d' v → Kp d' → Q v H') → r x y H Q
def gOwn (neg : Bool) (C : Addr) (f : FS) : D → D → KD → Prop := fun d e k => (∃ fs ds, d = .ins C fs ds) ∧ ((∃ fs ds, e = .ins C fs ds) ∨ ∃ l, e = .tup l) ∧ f [d, e] (fun r => ∃ t, r = .bl t ∧ k (.bl (if neg then !t else t))) (fun _ => False)
theorem own_arg {K : PySem.W.Frag} {dr : Option Dr} {H : Hp} {S : List Addr} {e : D} {y : V} (r : Rep K dr (hide S H) e y) (h : (∃ fs ds, e = .ins C fs ds) ∨ ∃ l, e = .tup l) : ∃ b, y = .ref b ∧ ((∃ dy gs, H b = some (.ins C dy gs)) ∨ ∃ ys, SqT K H b ys) := by
  rcases h with ⟨fs, ds, rfl⟩ | ⟨l, rfl⟩
  · obtain ⟨b, dy, xs, rfl, h1, _⟩ := r
    exact ⟨b, rfl, .inl ⟨dy, _, (hide_some h1).2⟩⟩
  · obtain ⟨b, xs, rfl, h1, _⟩ := r
    exact ⟨b, rfl, .inr ⟨xs, hide_SqT h1⟩⟩
theorem own_sp {S : List Addr} {H : Hp} {x y : V} {d e : D} {Kq : KD} {Q : VK} (am : Amb W S H) (rx : Rep X.K W.dr (hide S H) d x) (ry : Rep X.K W.dr (hide S H) e y) (hf : f [d, e] Kq (fun _ => False)) (q : ∀ v H' d', Ext W H H' → Rep X.K W.dr (hide S H') d' v → Kq d' → Q v H') :
    spD X.K W.T 2 f [x, y] H Q (fun _ _ _ => False) := ⟨rfl, W, S, [d, e], Kq, _, rfl, am, .cons rx (.cons ry .nil), hf, q, fun _ _ _ _ _ _ z => z.elim⟩
theorem od_eqO (O : OwnE X.K C fe) (F : FnA (Cx.pg X W.T) fe k [p1, p2] f) (hr : Room k X.A) : OpDW X W (compareOp .Eq) (gOwn false C f) := by
  obtain ⟨fd, FO, hB⟩ := F
  refine ⟨_, op_eqO O FO hB hr, fun S H x y d e Kp Q am rx ry ⟨⟨fs, ds, hd⟩, he, hf⟩ q => ?_⟩
  subst hd
  have rx' := rx
  obtain ⟨p, dx, xs, rfl, h1, h2⟩ := rx
  obtain ⟨b, rfl, hb⟩ := own_arg ry he
  refine ⟨p, dx, _, b, rfl, rfl, (hide_some h1).2, hb, own_sp am rx' ry hf fun v H' d' e1 r1 ⟨t, e2, kk⟩ => ?_⟩
  subst e2; cases r1
  exact ⟨t, rfl, q _ H' (.bl t) e1 rfl kk⟩
theorem od_neO (O : OwnE X.K C fe) (c : Cls X.K C) (F : FnA (Cx.pg X W.T) fe k [p1, p2] f) (hr : Room (k + 2) X.A) : OpDW X W (compareOp .NotEq) (gOwn true C f) := by
  obtain ⟨fd, FO, hB⟩ := F
  refine ⟨_, op_neO O c FO hB hr, fun S H x y d e Kp Q am rx ry ⟨⟨fs, ds, hd⟩, he, hf⟩ q => ?_⟩
  subst hd
  have rx' := rx
  obtain ⟨p, dx, xs, rfl, h1, h2⟩ := rx
  obtain ⟨b, rfl, hb⟩ := own_arg ry he
  refine ⟨p, dx, _, b, rfl, rfl, (hide_some h1).2, hb, own_sp am rx' ry hf fun v H' d' e1 r1 ⟨t, e2, kk⟩ => ?_⟩
  subst e2; cases r1
  exact ⟨t, rfl, q _ H' (.bl (!t)) e1 rfl kk⟩
theorem dx_cmpW {op : CmpOp} {g : D → D → KD → Prop} (ho : OpDW X W (compareOp op) g) (hm : behindInMarks op b = false) (h : DE X W M wx δ a (fun d1 => DE X W M wx δ b (fun d2 => g d1 d2 Kp) Ke) Ke) : DE X W M wx δ (.Compare a [op] [b] pos) Kp Ke := by
  obtain ⟨r, hr, hD⟩ := ho
  refine PE.imp (pe_cmpR hr pe_any pe_any hm) fun σ H Q ⟨env, q, qx⟩ => h.run env (fun x H1 d1 e1 r1 hb => ?_) qx
  refine hb.run (env.ext e1) (fun y H2 d2 e2 r2 hg => ?_) fun x cls dd H' e => qx x cls dd H' (e1.trans e)
  exact hD _ H2 x y d1 d2 Kp Q (env.ext (e1.trans e2)).amb (r1.mono ((env.ext e1).amb.hid e2)) r2 hg fun v H' d' e3 r3 k => q v H' d' ((e1.trans e2).trans e3) r3 k
theorem dt_cmpW {op : CmpOp} {g : D → D → KD → Prop} (ho : OpDW X W (compareOp op) g) (hm : behindInMarks op b = false) (h : DE X W M wx δ a (fun d1 => DE X W M wx δ b (fun d2 => g d1 d2 (asB Kb)) Ke) Ke) : DT X W M wx δ (.Compare a [op] [b] pos) Kb Ke := by
  obtain ⟨r, hr, hD⟩ := ho
  refine PT.imp (pt_cmpR hr pe_any pe_any hm) fun σ H Q ⟨env, q, qx⟩ => h.run env (fun x H1 d1 e1 r1 hb => ?_) qx
  refine hb.run (env.ext e1) (fun y H2 d2 e2 r2 hg => ?_) fun x cls dd H' e => qx x cls dd H' (e1.trans e)
  refine hD _ H2 x y d1 d2 _ _ (env.ext (e1.trans e2)).amb (r1.mono ((env.ext e1).amb.hid e2)) r2 hg fun v H' d' e3 r3 k => ?_
  obtain ⟨k', rfl, kb⟩ := asB_ex k
  exact ⟨k', r3, q k' H' ((e1.trans e2).trans e3) kb⟩
end
end Lay

/-! # DS16: len(set(few numbers)) -/
namespace Lay
open PySem PySem.Spec PyProof.Rows L2
def dup2 : List Int → Nat
  | [a, b] => if a = b then 1 else 2
  | l => l.length
theorem dup2_nodup {ns : List Int} (h : ns.Nodup) : dup2 ns = ns.length := by
  match ns, h with
  | [], _ => rfl
  | [_], _ => rfl
  | [a, b], h => simp only [List.nodup_cons, List.mem_singleton] at h; simp [dup2, h.1]
  | _ :: _ :: _ :: _, _ => rfl
theorem dup2_le : ∀ {ns : List Int}, ns.length ≤ 2 → dup2 ns ≤ 2
  | [], _ => Nat.zero_le _
  | [_], _ => Nat.le_succ _
  | [a, b], _ => by simp only [dup2]; split <;> omega
  | _ :: _ :: _ :: _, h => by simp at h
theorem met2 : ∀ {ns : List Int}, ns.length ≤ 2 → (PyProof.Rows.firstMet (fun i => ns.getD i 0) ns.length).length = dup2 ns
  | [], _ => rfl
  | [a], _ => rfl
  | [a, b], _ => by
    show (PyProof.Rows.firstMet (fun i => [a, b].getD i 0) 2).length = _
    rw [PyProof.Rows.firstMet_succ, PyProof.Rows.firstMet_succ]
    show (PyProof.Rows.step_dedup [a] b).length = _
    show (if ([a] : List Int).any (· == b) then [a] else [a] ++ [b]).length = (if a = b then 1 else 2)
    by_cases h : a = b
    · simp [h]
    · simp [h]
  | _ :: _ :: _ :: _, h => by simp at h
section
variable {X : Cx} {W : Wd} {M : List Addr} {wx : WX} {δ : De} {a : Expr} {Kp : KD} {Ke : KX} {p p2 q pos : Pos}
theorem pe_lenSet2 {ta : TE} (hc : X.calm = true) (hg : Gl X "len") (hm : X.mg "len" = none) (hg2 : Gl X "set") (hm2 : X.mg "set" = none) (ha : PE X a ta) (na : starEach [a] X.env = (false, eval a X.env) :: starEach [] X.env) :
    PE X (.Call (.Name "len" p) [.Call (.Name "set" p2) [a] [] q] [] pos) (fun σ H Q => ta σ H fun x H1 => ∃ (l : Addr) (ns : List Int), x = .ref l ∧ (SqL X.K H1 l (ns.map V.int) ∨ (SqT X.K H1 l (ns.map V.int) ∧ ns.Nodup)) ∧ ns.length ≤ 2 ∧ Q (.int (dup2 ns : Nat)) H1) := by
  refine ⟨fun pins s σ H Q I h => ?_⟩; refine Call_ (ld_blt I hg hm PySem.boot_len ?_)
  refine PyProof.Rows.callWith_builtin1 (PyProof.Rows.args_cons ?_ rfl) rfl rfl; refine Call_ (ld_blt I hg2 hm2 PyProof.Rows.boot_set ?_)
  refine PyProof.Rows.callWith_type1 (PyProof.Rows.args_cons (thn (ha.run pins s σ H _ I h) fun v s1 ⟨x, H1, I1, r1, q1⟩ => PyProof.Rows.args_nil ?_) na) na rfl
  obtain ⟨l, ns, rfl, hq, h1, q1⟩ := q1
  cases r1
  rcases hq with hq | ⟨hq, hnd⟩
  · obtain ⟨its, r, pl, hz⟩ := I1.list hq
    have hl : its.toArray.size = ns.length := by rw [List.size_toArray, ← r.length, List.length_map]
    refine call_set_list (I1.ok.hd hc) pl.isList (ns := ns) (by simpa using RZ.intsAre_vals r) (by unfold scanBound; omega) fun h' tk hS hk => PyProof.Rows.args_nil ?_
    rw [hl, met2 h1] at hS
    obtain ⟨o, es, ep, t, ho, hex, hd, _, _, _, hf, hn⟩ := hS
    have h3 : dup2 ns ≤ 2 := dup2_le h1
    have I2 : L2.Inv X pins σ H1 { s1 with heap := h', toks := tk } := I1.kept fun b o e => hk b o (Heap.lt_size e) e
    exact call_len_set ho hex hd hf (by rw [hn] <;> omega) ⟨.int (dup2 ns), H1, I2.tok _, ⟨_, by rw [hn]⟩, q1⟩
  · obtain ⟨its, r, pl, hz⟩ := I1.tuple hq
    refine call_set_tupI ns (I1.ok.hd hc) pl (by simpa using RZ.intsAre_vals r) (by unfold scanBound; omega) fun h' tk c hS hc' hk => PyProof.Rows.args_nil ?_
    obtain ⟨o, es, ep, t, ho, hex, hd, g1, g2, g3, g4, hf, hn, _⟩ := hS
    have e : es.size = dup2 ns := by
      have pm : (es.toList.map keyOf).Perm ns := (List.perm_ext_iff_of_nodup g2 hnd).mpr fun k => by rw [← g3 k]; simp
      have := pm.length_eq
      rw [dup2_nodup hnd, ← this, List.length_map]
      simp
    have h3 : dup2 ns ≤ 2 := by rw [dup2_nodup hnd]; exact h1
    have I2 : L2.Inv X pins σ H1 { s1 with heap := h', toks := tk } := I1.kept fun b o e => hk b o e
    exact call_len_set ho hex hd hf (by rw [e]; omega) ⟨.int (dup2 ns), H1, I2.tok _, ⟨_, by rw [e]⟩, q1⟩
theorem ints_rep {K : PySem.W.Frag} {dr : Option Dr} {H : Hp} : ∀ {ns : List Int} {xs : List V}, RepL K dr H (ns.map D.int) xs → xs = ns.map V.int
  | [], _, r => by cases r; rfl
  | n :: ns, _, r => by
    obtain ⟨v, vs, rfl, h1, h2⟩ := r
    cases h1
    rw [ints_rep h2]; rfl
/-- len(set(a)) -/
theorem dx_lenSet (hc : X.calm = true) (hg : Gl X "len") (hm : X.mg "len" = none) (hg2 : Gl X "set") (hm2 : X.mg "set" = none) (h : DE X W M wx δ a (fun d => ∃ ns : List Int, (d = .lst (ns.map D.int) ∨ (d = .tup (ns.map D.int) ∧ ns.Nodup)) ∧ ns.length ≤ 2 ∧ Kp (.int (dup2 ns : Nat))) Ke)
    (na : starEach [a] X.env = (false, eval a X.env) :: starEach [] X.env := by rfl) : DE X W M wx δ (.Call (.Name "len" p) [.Call (.Name "set" p2) [a] [] q] [] pos) Kp Ke :=
  PE.imp (pe_lenSet2 hc hg hm hg2 hm2 pe_any na) fun σ H Q ⟨env, qq, qx⟩ => h.run env (fun x H1 d1 e1 r1 ⟨ns, hd, hl, k⟩ => by
    rcases hd with rfl | ⟨rfl, hnd⟩
    · obtain ⟨l, xs, rfl, h1, h2⟩ := r1
      cases ints_rep h2
      exact ⟨l, ns, rfl, .inl (SqL.of (hide_lst h1)), hl, qq _ H1 (.int _) e1 rfl k⟩
    · obtain ⟨l, xs, rfl, h1, h2⟩ := r1
      cases ints_rep h2
      exact ⟨l, ns, rfl, .inr ⟨hide_SqT h1, hnd⟩, hl, qq _ H1 (.int _) e1 rfl k⟩) qx
end
end Lay

/-! # DS17: own lists are stored, popped, asked, returned -/
namespace Lay
open PySem PySem.Spec PyProof.Rows L2
theorem ownA_add {s : Sl} {p : Addr} : ∀ {δ : De} {σ : L2.St} {i : Nat} {o : Option V}, ownA [s] [o] = [p] → ∀ a, a ∈ ownA (δ.set i s) (σ.set i o) → a = p ∨ a ∈ ownA δ σ
  | [], σ, i, o, h, a, m => by simp [ownA] at m
  | t :: δ, [], i, o, h, a, m => by
    exfalso
    cases i <;> (cases t <;> simp [ownA] at m)
    all_goals (cases s <;> simp [ownA] at m)
  | t :: δ, u :: σ, 0, o, h, a, m => by
    have m' : a ∈ ownA (s :: δ) (o :: σ) := m
    rcases ownA_cons.mp m' with m | m
    · rw [h] at m; exact .inl (List.mem_singleton.mp m)
    · exact .inr (ownA_cons.mpr (.inr m))
  | t :: δ, u :: σ, i + 1, o, h, a, m => by
    have m' : a ∈ ownA (t :: δ.set i s) (u :: σ.set i o) := m
    rcases ownA_cons.mp m' with m | m
    · exact .inr (ownA_cons.mpr (.inl m))
    · exact (ownA_add h a m).imp id fun z => ownA_cons.mpr (.inr z)
theorem ownA_addN {s : Sl} {p : Addr} : ∀ {δ : De} {σ : L2.St} {i : Nat} {o : Option V}, ownA [s] [o] = [p] → p ∉ ownA δ σ → (ownA δ σ).Nodup → (ownA (δ.set i s) (σ.set i o)).Nodup
  | [], σ, i, o, h, _, n => by simp [ownA]
  | t :: δ, [], i, o, h, _, n => by
    cases i <;> (cases t <;> simp [ownA])
    all_goals (cases s <;> simp [ownA])
  | t :: δ, u :: σ, 0, o, h, hp, n => by
    show (ownA (s :: δ) (o :: σ)).Nodup
    rw [ownA_eq, h]
    rw [ownA_eq] at n hp
    refine List.nodup_append.mpr ⟨by simp, (List.nodup_append.mp n).2.1, fun a ha b hb e => hp ?_⟩
    rw [← List.mem_singleton.mp ha, e]
    exact List.mem_append_right _ hb
  | t :: δ, u :: σ, i + 1, o, h, hp, n => by
    show (ownA (t :: δ.set i s) (u :: σ.set i o)).Nodup
    rw [ownA_eq] at n hp ⊢
    obtain ⟨n1, n2, n3⟩ := List.nodup_append.mp n
    refine List.nodup_append.mpr ⟨n1, ownA_addN h (fun z => hp (List.mem_append_right _ z)) n2, fun a ha b hb e => ?_⟩
    rcases ownA_add h b hb with z | z
    · exact hp (List.mem_append_left _ (by rw [← z, ← e]; exact ha))
    · exact n3 a ha b z e
section
variable {K : PySem.W.Frag} {W : Wd} {M : List Addr} {δ : De} {σ : L2.St} {H : Hp} {i : Nat} {l : List D} {xs : List V} {p : Addr}
/-- a new list of one's own is put into a slot -/
theorem EnvOk.setOw (h : EnvOk K W M δ σ H) (hp : H p = none) (r : RepL K W.dr (hide (hidA W M δ σ) H) l xs) : EnvOk K W M (δ.set i (.ow l)) (σ.set i (some (.ref p))) (upd H p (.lst xs)) := by
  have e1 : Ext W H (upd H p (.lst xs)) := Ext.new h.w hp
  have np := h.amb.new hp
  have sub : ∀ a, a ∈ hidA W M (δ.set i (.ow l)) (σ.set i (some (.ref p))) → a = p ∨ a ∈ hidA W M δ σ := fun a ha => by
    simp only [hidA, List.mem_append] at ha ⊢
    rcases ha with ha | ha
    · exact .inr (.inl ha)
    · exact (ownA_add (s := .ow l) rfl a ha).imp id .inr
  have k : ExN (hide (hidA W M δ σ) H) (hide (hidA W M (δ.set i (.ow l)) (σ.set i (some (.ref p)))) (upd H p (.lst xs))) := fun b u hb t => by
    obtain ⟨h1, h2⟩ := hide_some hb
    have hbp : b ≠ p := fun z => by rw [z, hp] at h2; cases h2
    exact hide_of (fun z => (sub b z).elim hbp h1) (by rw [upd_ne hbp]; exact h2)
  refine ⟨e1.ok, (h.ext e1).m, ownA_addN (s := .ow l) rfl (fun z => np (by simp [hidA, z])) h.nd, fun a ha => ?_, ?_⟩
  · rcases ownA_add (s := .ow l) rfl a ha with rfl | z
    · simp only [hidA, List.mem_append, not_or] at np
      exact np.1
    · exact h.dj a z
  · exact SlotsOk.set (s := .ow l) (o := some (.ref p)) ⟨p, xs, rfl, upd_same, r.mono k⟩ i (h.sl.stay k fun a u ha e _ => by
      rw [upd_ne (fun z => np (by rw [← z]; simp [hidA, ha]))]; exact e)
end
theorem SEnv.setOw {F : Fr} {K : PySem.W.Frag} {δ : De} {σ : L2.St} {H : Hp} {i : Nat} {l : List D} {xs : List V} {p : Addr} (h : SEnv K F δ σ H) (hp : H p = none) (r : RepL K F.W.dr (hide (hidA F.W F.M δ σ) H) l xs) : SEnv K F (δ.set i (.ow l)) (σ.set i (some (.ref p))) (upd H p (.lst xs)) := by
  refine ⟨h.env.setOw hp r, (h.go (Ext.new h.env.w hp)).ext, fun a ha => ?_⟩
  rcases ownA_add (s := .ow l) rfl a ha with rfl | z
  · cases e : F.H0 a with
    | none => exact .inr (.inl rfl)
    | some o =>
      by_cases t : ∃ ps, o = .tbl ps
      · obtain ⟨ps, rfl⟩ := t
        exact .inr (.inr ⟨ps, rfl⟩)
      · by_cases n : a ∈ F.N
        · exact .inl n
        · have hr : a ∉ F.W.rg := fun z => by
            obtain ⟨o', e', _⟩ := h.env.w.tr z
            rw [hp] at e'; cases e'
          have := h.ext a o hr n e fun ps z => t ⟨ps, z⟩
          rw [hp] at this; cases this
  · exact h.own a z
section
variable {X : Cx} {W : Wd} {M : List Addr} {wx : WX} {δ : De} {e a b : Expr} {O : Out} {Ke : KX} {Kp : KD} {Kb : Bool → Prop} {Kl : List D → Prop} {pos p1 p2 p3 : Pos} {x : Str}
/-- x = a new list, x one's own -/
theorem ds_setF (i : Nat) {pos' : Pos} (hN : X.N.Nodup) (hi : X.N[i]? = some x) (hx : Loc X.env.scope x) (h : DF X W M wx δ e (fun l => O.nx (δ.set i (.ow l))) Ke) (hs : swapsWith e (some (.Name x pos')) pos.line X.env = pure false := by rfl) (hf : X.fn x = true ∨ X.env.scope.names.lookup x = some .local := by first | exact .inl rfl | exact .inr rfl) :
    DS X W M wx δ (.Assign [.Name x pos'] e pos) O Ke := fun H0 N =>
  PS.imp (ps_set hN hi hx pe_any hs hf) fun Dn σ H ⟨env, n, bb, c, r, xx⟩ => h.run env.env (fun p H1 xs l e1 hp r1 k => n _ _ _ ((env.go e1).setOw hp (r1)) k) fun y cls dd H' e1 r1 k => xx y cls dd σ H' (env.go e1).xe (r1.mono (hid_more (F := ⟨W, M, H0, N⟩))) k
/-- x, y = two new lists -/
theorem ds_par2F (i j : Nat) {y : Str} {px py pt : Pos} {kt k2 pt2} (hc : X.calm = true) (hN : X.N.Nodup) (hi : X.N[i]? = some x) (hj : X.N[j]? = some y) (hij : i ≠ j) (hx : X.env.scope.names.lookup x = some .local) (hy : X.env.scope.names.lookup y = some .local)
    (hw : swappedStores [.Tuple [.Name x px, .Name y py] kt pt] (.Tuple [a, b] k2 pt2) X.env = pure (some [x, y])) (h : DF X W M wx δ a (fun l => ∀ p, DF X W (p :: M) wx δ b (fun m => O.nx ((δ.set i (.ow l)).set j (.ow m))) Ke) Ke)
    (hs : swapsWithSole [.Tuple [.Name x px, .Name y py] kt pt] (.Tuple [a, b] k2 pt2) pos.line X.env = pure false := by rfl) (h1 : starEach [a, b] X.env = (false, eval a X.env) :: starEach [b] X.env := by rfl) (h2 : starEach [b] X.env = (false, eval b X.env) :: starEach [] X.env := by rfl) :
    DS X W M wx δ (.Assign [.Tuple [.Name x px, .Name y py] kt pt] (.Tuple [a, b] k2 pt2) pos) O Ke := fun H0 N =>
  PS.imp (ps_par hc hN hi hj hij hx hy (pa_cons pe_any (pa_cons pe_any pa_nil h2) h1) hw hs) fun Dn σ H ⟨env, n, bb, c, r, xx⟩ => h.run env.env (fun p H1 xs l e1 hp r1 hb => by
    have env1 := env.go e1
    have e2 : Ext W H1 (upd H1 p (.lst xs)) := Ext.new env1.env.w hp
    have hr : p ∉ W.rg := fun z => by
      obtain ⟨o', e', _⟩ := env1.env.w.tr z
      rw [hp] at e'; cases e'
    have np := env1.env.amb.new hp
    have envp : EnvOk X.K W (p :: M) δ σ (upd H1 p (.lst xs)) := by
      refine ⟨e2.ok, fun a ha => ?_, env1.env.nd, fun a ha => ⟨(env1.env.dj a ha).1, fun z => ?_⟩, env1.env.sl.stay (fun b u hb t => ?_) fun a u ha e _ => ?_⟩
      · rcases List.mem_cons.mp ha with rfl | ha
        · exact ⟨hr, _, upd_same, fun _ z => by cases z⟩
        · exact ((env1.go e2).env.m a ha)
      · rcases List.mem_cons.mp z with rfl | z
        · exact np (by simp [hidA, ha])
        · exact (env1.env.dj a ha).2 z
      · obtain ⟨h1, h2⟩ := hide_some hb
        have hbp : b ≠ p := fun z => by rw [z, hp] at h2; cases h2
        refine hide_of (fun z => h1 ?_) (by rw [upd_ne hbp]; exact h2)
        simp only [hidA, List.mem_append, List.mem_cons] at z ⊢
        rcases z with (z | z | z) | z
        · exact .inl (.inl z)
        · exact absurd z hbp
        · exact .inl (.inr z)
        · exact .inr z
      · rw [upd_ne (fun z => np (by rw [← z]; simp [hidA, ha]))]; exact e
    refine (hb p).run envp (fun q H2 ys m e3 hq r3 k => ?_) fun y cls dd H' e r1 k => xx y cls dd σ H' (env.go (e1.trans (e2.trans e))).xe (r1.mono (hide_more fun a ha => ?_)) k
    · have s1 := (env1.setOw (i := i) hp r1).go e3
      refine ⟨_, _, rfl, n _ _ _ (s1.setOw (i := j) hq (r3.mono (hide_more fun a ha => ?_))) k⟩
      simp only [hidA, List.mem_append, List.mem_cons] at ha ⊢
      rcases ha with ha | ha
      · rcases ha with ha | ha
        · exact .inl (.inl ha)
        · exact .inl (.inr (.inr ha))
      · rcases ownA_add (s := .ow l) rfl a ha with z | z
        · exact .inl (.inr (.inl z))
        · exact .inr z
    · simp only [hid0, List.mem_append, List.mem_cons] at ha ⊢
      rcases ha with ha | ha
      · exact .inl (.inl ha)
      · exact .inl (.inr (.inr ha)))
    fun y cls dd H' e1 r1 k => xx y cls dd σ H' (env.go e1).xe (r1.mono (hid_more (F := ⟨W, M, H0, N⟩))) k
end
end Lay

/-! # DS18: own lists: popped, asked, returned -/
namespace Lay
open PySem PySem.Spec PyProof.Rows L2
theorem RepL.unsnoc {K : PySem.W.Frag} {dr : Option Dr} {H : Hp} {l : List D} {d : D} {xs : List V} (r : RepL K dr H (l ++ [d]) xs) : ∃ v, xs[xs.length - 1]? = some v ∧ Rep K dr H d v ∧ RepL K dr H l xs.dropLast := by
  obtain ⟨v, h1, h2⟩ := r.getD (i := l.length) (d := d) (by simp)
  have hl : xs.length = l.length + 1 := by rw [← r.length]; simp
  refine ⟨v, by rw [hl]; exact h1, h2, ?_⟩
  have := r.dropLast
  rwa [List.dropLast_concat] at this
section
variable {X : Cx} {W : Wd} {M : List Addr} {wx : WX} {δ : De} {O : Out} {Ke : KX} {Kb : Bool → Prop} {pos pos' p1 p2 p3 : Pos} {x y : Str} {l : List D} {d : D}
/-- x = y.pop(), y a list of one's own -/
theorem ds_popS (i j : Nat) (hN : X.N.Nodup) (hi : X.N[i]? = some x) (hx : Loc X.env.scope x) (hj : X.N[j]? = some y) (hv : Vis X.env.scope y) (hd : δ[j]? = some (.ow (l ++ [d]))) (k : O.nx ((δ.set j (.ow l)).set i (.im d)))
    (hs : swapsWith (.Call (.Attribute (.Name y p1) "pop" p2) [] [] p3) (some (.Name x pos')) pos.line X.env = pure false := by rfl) (hf : X.fn x = true ∨ X.env.scope.names.lookup x = some .local := by first | exact .inl rfl | exact .inr rfl)
    (hline : (p2.endLine == p3.line) = true := by rfl) (hdb : (y == ("__debug__" : Str)) = false := by decide) (hcd : (y == ("__classdict__" : Str)) = false := by decide) (hbase : attributeBase (.Name y p1) "pop" X.env (eval (.Name y p1) X.env) = eval (.Name y p1) X.env := by rfl) :
    DS X W M wx δ (.Assign [.Name x pos'] (.Call (.Attribute (.Name y p1) "pop" p2) [] [] p3) pos) O Ke := fun H0 N =>
  PS.imp (ps_set hN hi hx (pe_bm0 PySem.F.plainAttrs_list PySem.F.slot_list_pop PySem.F.type_list_pop mt_pop (pe_var hj hv hdb hcd) hbase hline) hs hf) fun Dn σ H ⟨env, n, b, c, r, xx⟩ => by
    obtain ⟨a, xs, e1, hown, h2, h3⟩ := own_at env.env hd
    obtain ⟨v, h4, h5, h6⟩ := h3.unsnoc
    refine ⟨_, e1, .inl ⟨rfl, xs, SqL.of h2⟩, a, xs, v, rfl, rfl, h2, h4, ?_⟩
    have env1 := env.write (m := l) (ys := xs.dropLast) hd e1 h2 h6
    refine n _ _ _ (env1.put (h5.mono ?_)) k
    rw [show hidA W M (δ.set j (.ow l)) σ = hidA W M δ σ by rw [hidA, hidA, ownA_setOw hd], hide_write (by simp [hidA, hown])]
    exact LamX.ExtN.refl _
/-- y != [], y a list of one's own -/
theorem dt_owNe {k : Nat} (j : Nat) (hr : Room k X.A) (hj : X.N[j]? = some y) (hv : Vis X.env.scope y) (hd : δ[j]? = some (.ow l)) (hok : okd 64 (.lst l) = true) (h : Kb (!l.isEmpty)) (hdb : (y == ("__debug__" : Str)) = false := by decide) (hcd : (y == ("__classdict__" : Str)) = false := by decide) :
    DT X W M wx δ (.Compare (.Name y p1) [.NotEq] [.List [] p2] pos) Kb Ke :=
  PT.imp (pt_cmpR (op_neD hr.units) (pe_var hj hv hdb hcd) (pe_lst pa_nil) rfl) fun σ H Q ⟨env, q, qx⟩ => by
    obtain ⟨a, xs, e1, hown, h2, h3⟩ := own_at env hd
    refine ⟨_, e1, by rw [sizeLine_eq]; exact Nat.zero_le _, fun p hp => ?_⟩
    have am := env.amb
    have e2 : Ext W H (upd H p (.lst [])) := Ext.new am.w hp
    obtain ⟨pd, a1, a2, a3⟩ := okd_py 64 _ hok
    obtain ⟨ps, h5, h6, h7⟩ := okdL_py 63 l hok
    have ep : pd = .list ps := by simp only [py, h5] at a1; exact (Option.some.inj a1).symm
    subst ep
    have hpa : p ≠ a := fun z => by rw [z, h2] at hp; cases hp
    have hA : upd H p (.lst []) a = some (.lst xs) := by rw [upd_ne (fun z => hpa z.symm)]; exact h2
    have dd := deq_nil hok
    unfold deq at dd
    rw [a1] at dd
    refine ⟨.list ps, .list [], .lst (SqL.of hA) (dpL_of l xs ps (h3.mono (am.hid e2)) h5), .lst (SqL.of upd_same) .nil, by simp [SeqAt.shaped, a2, a3], by decide +kernel, _, rfl, ?_⟩
    have e : PyData.eqv (.list ps) (.list []) = l.isEmpty := by simpa [py, pyL] using dd
    rw [e]
    exact q _ _ e2 h
/-- return y, a list of one's own -/
theorem ds_retOw (j : Nat) (hj : X.N[j]? = some y) (hv : Vis X.env.scope y) (hd : δ[j]? = some (.ow l)) (k : O.rt (.lst l)) (hdb : (y == ("__debug__" : Str)) = false := by decide) (hcd : (y == ("__classdict__" : Str)) = false := by decide) : DS X W M wx δ (.Return (some (.Name y p1)) pos) O Ke := fun H0 N =>
  PS.imp (ps_ret (pe_var hj hv hdb hcd)) fun Dn σ H ⟨env, n, b, c, r, xx⟩ => by
    obtain ⟨a, xs, e1, hown, h2, h3⟩ := own_at env.env hd
    have hdj := env.env.dj a hown
    refine ⟨_, e1, r _ H (.lst l) env.xe ⟨a, xs, rfl, hide_of (fun z => ?_) h2, h3.mono (hid_more (F := ⟨W, M, H0, N⟩))⟩ k⟩
    simp only [hid0, List.mem_append] at z
    exact z.elim hdj.1 hdj.2
end
end Lay

/-! # DS19: the draws' state -/
namespace Lay
open PySem PySem.Spec PyProof.Rows L2
/-- the draws' state is changed -/
theorem Ext.draw {W : Wd} {H : Hp} {d : Dr} {a : Addr} {o u : HO} (h : WOk W H) (hd : W.dr = some d) (ha : a ∈ W.rg) (e : H a = some o) (m : Mut (some o)) (hx : ∀ φ, o ≠ .ext φ) (new : DrOk d (upd H a u)) : Ext W H (upd H a u) := by
  have nt : ∀ ps, o ≠ .tbl ps := fun ps z => by subst z; exact m
  refine ⟨fun b w hb hw _ => by rw [upd_ne (fun z => hb (by rw [z]; exact ha))]; exact hw, ⟨fun p hp => ?_, fun d' hd' => ?_⟩⟩
  · obtain ⟨ps, h1, h2, h3⟩ := h.tabs p hp
    refine ⟨ps, ?_, h2, fun pos cv hc => ?_⟩
    · rw [upd_ne (fun z => by rw [z, e] at h1; exact nt ps (Option.some.inj h1))]
      exact h1
    · obtain ⟨c, e1, e2⟩ := h3 pos cv hc
      refine ⟨c, e1, ?_⟩
      rw [upd_ne (fun z => by rw [z, e] at e2; exact hx _ (Option.some.inj e2))]
      exact e2
  · rw [hd] at hd'
    cases hd'
    exact new
theorem rep_intsV {K : PySem.W.Frag} {dr : Option Dr} {H : Hp} : ∀ ns : List Int, RepL K dr H (ns.map D.int) (ns.map V.int)
  | [] => rfl
  | n :: ns => ⟨_, _, rfl, rfl, rep_intsV ns⟩
section
variable {X : Cx} {T : List (Addr × Str)} {d : Dr} {M : List Addr} {wx : WX} {δ : De} {O : Out} {Ke : KX} {Kp : KD} {Kb : Bool → Prop} {e b : Expr} {pos p1 p2 p3 p4 p5 p6 p7 p8 : Pos} {x : Str} {j k : Nat} {jj : Nat}
abbrev dwE (x key : Str) (p1 p2 p3 : Pos) (jj : Nat) : Expr := .Subscript (.Name x p1) (.Constant (.str key) jj p2) p3
theorem dw_slot {σ : L2.St} {H : Hp} {W : Wd} (env : EnvOk X.K W M δ σ H) (hd : δ[j]? = some (.im .drw)) (hdr : W.dr = some d) : σ[j]? = some (some (.ref d.dw)) := by
  obtain ⟨v, e1, d', e2, rfl⟩ := env.get hd
  rw [hdr] at e2
  cases e2
  exact e1
/-- without draws there is no draws' datum -/
theorem dss_nodr {st : List Stmt} (j : Nat) (hd : δ[j]? = some (.im .drw)) : DSs X ⟨T, none⟩ M wx δ st O Ke := fun H0 N => ⟨fun pins s σ H Q I ⟨env, _⟩ => by
  obtain ⟨v, e1, d', e2, rfl⟩ := env.env.get hd
  cases e2⟩
/-- draw["rest"], draw["turn"] -/
theorem dx_dget {key : Str} (hr : Room k X.A) (hk : key = "rest" ∨ key = "turn") (hj : X.N[j]? = some x) (hv : Vis X.env.scope x) (hd : δ[j]? = some (.im .drw)) (h : ∀ i : Int, Kp (.int i)) (hdb : (x == ("__debug__" : Str)) = false := by decide) (hcd : (x == ("__classdict__" : Str)) = false := by decide) :
    DE X ⟨T, some d⟩ M wx δ (dwE x key p1 p2 p3 jj) Kp Ke :=
  PE.imp (pe_dget (by have := hr.units; omega) (pe_var hj hv hdb hcd) pe_str fun _ _ => rfl) fun σ H Q ⟨env, q, qx⟩ => by
    obtain ⟨rest, turn, lg, h1, h2, h3, h4⟩ := env.w.drs d rfl
    refine ⟨_, dw_slot env hd rfl, ?_⟩
    rcases hk with rfl | rfl
    · exact ⟨d.dw, .int rest, rfl, DGet.k (k := .inr "rest") h1, q _ H (.int rest) (Ext.refl env.w) rfl (h rest)⟩
    · exact ⟨d.dw, .int turn, rfl, DGet.k (k := .inr "turn") h1, q _ H (.int turn) (Ext.refl env.w) rfl (h turn)⟩
/-- draw["rest"] = e, draw["turn"] = e -/
theorem ds_dput (j : Nat) {key : Str} (hr : Room k X.A) (hk : key = "rest" ∨ key = "turn") (hj : X.N[j]? = some x) (hv : Vis X.env.scope x) (hd : δ[j]? = some (.im .drw)) (h : DE X ⟨T, some d⟩ M wx δ e (asI fun _ => O.nx δ) Ke) (hs : swapsWith e (some (dwE x key p1 p2 p3 jj)) pos.line X.env = pure false := by rfl)
    (hdb : (x == ("__debug__" : Str)) = false := by decide) (hcd : (x == ("__classdict__" : Str)) = false := by decide) : DS X ⟨T, some d⟩ M wx δ (.Assign [dwE x key p1 p2 p3 jj] e pos) O Ke := fun H0 N =>
  PS.imp (ps_dput (by have := hr.units; omega) (pe_var hj hv hdb hcd) pe_str pe_any hs) fun Dn σ H ⟨env, n, bb, c, r, xx⟩ => ex_run h env (fun v H' dd env' e1 r1 kk => by
    obtain ⟨i, rfl, kk⟩ := asI_ex kk
    cases r1
    obtain ⟨rest, turn, lg, h1, h2, h3, h4⟩ := env'.env.w.drs d rfl
    have ne1 : d.lg ≠ d.dw := fun z => by rw [z, h1] at h2; cases h2
    have ne2 : d.cl ≠ d.dw := fun z => by rw [z, h1] at h3; cases h3
    refine ⟨_, dw_slot env'.env hd rfl, ?_⟩
    rcases hk with rfl | rfl
    · have e2 : Ext ⟨T, some d⟩ H' (upd H' d.dw (drD d i turn)) := Ext.draw env'.env.w rfl (by simp [Wd.rg]) h1 trivial (fun _ z => by cases z) ⟨i, turn, lg, upd_same, by rw [upd_ne ne1]; exact h2, by rw [upd_ne ne2]; exact h3, h4⟩
      exact ⟨d.dw, _, rfl, DPut.k (k := .inr "rest") h1 (by rw [sizeLine_eq]; simp), n _ _ _ (env'.go e2) kk⟩
    · have e2 : Ext ⟨T, some d⟩ H' (upd H' d.dw (drD d rest i)) := Ext.draw env'.env.w rfl (by simp [Wd.rg]) h1 trivial (fun _ z => by cases z) ⟨rest, i, lg, upd_same, by rw [upd_ne ne1]; exact h2, by rw [upd_ne ne2]; exact h3, h4⟩
      exact ⟨d.dw, _, rfl, DPut.k (k := .inr "turn") h1 (by rw [sizeLine_eq]; simp), n _ _ _ (env'.go e2) kk⟩) xx
/-- in draw["cells"] -/
theorem di_cells {tg : Expr} {KI : List D → Prop} (hr : Room k X.A) (hj : X.N[j]? = some x) (hv : Vis X.env.scope x) (hd : δ[j]? = some (.im .drw)) (h : KI (d.cs.map D.int)) (hdb : (x == ("__debug__" : Str)) = false := by decide) (hcd : (x == ("__classdict__" : Str)) = false := by decide) :
    DI X ⟨T, some d⟩ M wx δ tg (dwE x "cells" p1 p2 p3 jj) KI Ke :=
  PI.imp (pi_seq (pe_dget (by have := hr.units; omega) (pe_var hj hv hdb hcd) pe_str fun _ _ => rfl)) fun σ H R ⟨env, q, qx⟩ => by
    obtain ⟨rest, turn, lg, h1, h2, h3, h4⟩ := env.w.drs d rfl
    refine ⟨_, dw_slot env hd rfl, d.dw, .ref d.cl, rfl, DGet.k (k := .inr "cells") h1, d.cl, rfl, .inl ⟨d.cs.map V.int, SqL.of h3, q _ H (d.cs.map D.int) (Ext.refl env.w) ?_ h⟩⟩
    refine ⟨fun H => SqL X.K H d.cl (d.cs.map V.int), YAt (d.cs.map V.int), by rw [List.length_map]; have := walk_list (K := X.K) (a := d.cl) (xs := d.cs.map V.int); rw [List.length_map] at this; exact this, fun S' H w _ => ?_, fun S' i H x H' hi am' e y => ?_⟩
    · obtain ⟨_, _, _, _, _, h3, _⟩ := w.drs d rfl
      exact SqL.of h3
    · obtain ⟨rfl, y⟩ := y
      rw [List.getElem?_map] at y
      obtain ⟨c, hc, rfl⟩ := Option.map_eq_some_iff.mp y
      exact ⟨Ext.refl am'.w, .int c, by rw [List.getElem?_map, hc]; rfl, rfl⟩
/-- draw["large"].pop(0) if draw["large"] != [] else mixed(draw) -/
theorem dx_draw {y : Str} {ps : List Str} (hr : Room k X.A) (tk : Takes X wx) (hj : X.N[j]? = some x) (hv : Vis X.env.scope x) (hd : δ[j]? = some (.im .drw)) (F : Fn (Cx.pg X T) y k ps fun ds Kp _ => as1 (fun d => d = .drw ∧ ∀ i : Int, Kp (.int i)) ds) (hps : ps.length = 1) (hg : Gl X y)
    (h : ∀ i : Int, Kp (.int i)) (hy : (y == ("__debug__" : Str)) = false := by decide) (hdb : (x == ("__debug__" : Str)) = false := by decide) (hcd : (x == ("__classdict__" : Str)) = false := by decide) (he : starEach [.Name x p7] X.env = (false, eval (.Name x p7) X.env) :: starEach [] X.env := by rfl)
    {q1 q2 q3 q4 q5 q6 : Pos} {j2 j3 : Nat} (hc0 : starEach [.Constant (.int 0) j3 q5] X.env = (false, eval (.Constant (.int 0) j3 q5) X.env) :: starEach [] X.env := by rfl) (hline : (q4.endLine == q6.line) = true := by rfl)
    (hbase : attributeBase (dwE x "large" q1 q2 q3 j2) "pop" X.env (eval (dwE x "large" q1 q2 q3 j2) X.env) = eval (dwE x "large" q1 q2 q3 j2) X.env := by rfl)
    (hfew : ((backTo q6 (starEach [.Constant (.int 0) j3 q5] X.env)).all (fun x => !x.1) && (backToKw q6 (keywordEach [] X.env)).all (fun x => x.1.isSome) && decide (([.Constant (.int 0) j3 q5] : List Expr).length + ([] : List Keyword).length + (if ([] : List Keyword).isEmpty then 0 else 1) < 30)) = true := by rfl)
    (hpl : (backTo q6 (starEach [] X.env)).any (·.1) = false := by rfl) :
    DE X ⟨T, some d⟩ M wx δ (.IfExp (.Compare (dwE x "large" p1 p2 p3 jj) [.NotEq] [.List [] p4] p5) (.Call (.Attribute (dwE x "large" q1 q2 q3 j2) "pop" q4) [.Constant (.int 0) j3 q5] [] q6) (.Call (.Name y p6) [.Name x p7] [] p8) pos) Kp Ke := by
  have hu : X.A.units + 1 < cLine := by have := hr.units; omega
  have call : DE X ⟨T, some d⟩ M wx δ (.Call (.Name y p6) [.Name x p7] [] p8) Kp Ke :=
    dx_call F hr tk hg (da_cons (dx_name j hj hv hd (da_nil ⟨hps.symm, rfl, h⟩) hdb hcd) he) hy he (by rfl)
  refine PE.imp (pe_ifExp (pt_cmpR (op_neD hr.units) (pe_dget hu (pe_var hj hv hdb hcd) pe_str fun _ _ => rfl) (pe_lst pa_nil) rfl) (pe_bm PySem.F.plainAttrs_list PySem.F.slot_list_pop PySem.F.type_list_pop mt_popAt (pe_dget hu (pe_var hj hv hdb hcd) pe_str fun _ _ => rfl) (pa_cons pe_int pa_nil hc0) hbase hfew hline hc0 hpl) pe_any) fun σ H Q ⟨env, q, qx⟩ => ?_
  obtain ⟨rest, turn, lg, h1, h2, h3, h4⟩ := env.w.drs d rfl
  have sl := dw_slot env hd rfl
  refine ⟨_, sl, d.dw, .ref d.lg, rfl, DGet.k (k := .inr "large") h1, by rw [sizeLine_eq]; exact Nat.zero_le _, fun p hp => ?_⟩
  have am := env.amb
  have e2 : Ext ⟨T, some d⟩ H (upd H p (.lst [])) := Ext.new am.w hp
  have hok : okd 64 (.lst (lg.map D.int)) = true := okd_lst.mpr fun z hz => by
    obtain ⟨n, _, rfl⟩ := List.mem_map.mp hz
    rfl
  obtain ⟨pd, a1, a2, a3⟩ := okd_py 64 _ hok
  obtain ⟨ps', h5, h6, h7⟩ := okdL_py 63 (lg.map D.int) hok
  have ep : pd = .list ps' := by simp only [py, h5] at a1; exact (Option.some.inj a1).symm
  subst ep
  have np : ∀ {a : Addr} {o : HO}, H a = some o → a ≠ p := fun h z => by rw [z, hp] at h; cases h
  have g1 : upd H p (.lst []) d.lg = some (.lst (lg.map V.int)) := by rw [upd_ne (np h2)]; exact h2
  have g2 : upd H p (.lst []) d.dw = some (drD d rest turn) := by rw [upd_ne (np h1)]; exact h1
  have g3 : upd H p (.lst []) d.cl = some (.lst (d.cs.map V.int)) := by rw [upd_ne (np h3)]; exact h3
  have dd := deq_nil hok
  unfold deq at dd
  rw [a1] at dd
  have ev : PyData.eqv (.list ps') (.list []) = (lg.map D.int).isEmpty := by simpa [py, pyL] using dd
  refine ⟨.list ps', .list [], .lst (SqL.of g1) (dpL_of (S := []) (dr := none) (lg.map D.int) (lg.map V.int) ps' (rep_intsV lg) h5), .lst (SqL.of upd_same) .nil, by simp [SeqAt.shaped, a2, a3], by decide +kernel, _, rfl, ?_⟩
  rw [ev]
  cases lg with
  | nil => exact iteF (call.run (env.ext e2) (fun v H' dd e r k => q v H' dd (e2.trans e) r k) fun x cls dd H' e => qx x cls dd H' (e2.trans e))
  | cons n lg =>
    refine iteT ⟨_, sl, d.dw, .ref d.lg, rfl, DGet.k (k := .inr "large") g2, .inl ⟨rfl, _, SqL.of g1⟩, d.lg, _, 0, 0, .int n, rfl, rfl, g1, by decide, by decide, by simp [seqIndex?], rfl, ?_⟩
    have ne1 : d.lg ≠ d.dw := fun z => by rw [z, h1] at h2; cases h2
    have e3 : Ext ⟨T, some d⟩ (upd H p (.lst [])) (upd (upd H p (.lst [])) d.lg (.lst (lg.map V.int))) := Ext.draw e2.ok rfl (by simp [Wd.rg]) g1 trivial (fun _ z => by cases z) ⟨rest, turn, lg, by rw [upd_ne (Ne.symm ne1)]; exact g2, upd_same, by rw [upd_ne (Ne.symm h4)]; exact g3, h4⟩
    exact q (.int n) _ (.int n) (e2.trans e3) rfl (h n)
end
end Lay

/-! # DS20: dicts as data; comprehensions of which all items are good -/
namespace Lay
open PySem PySem.Spec PyProof.Rows L2
def kD : Key → D
  | .inl i => .int i
  | .inr x => .str x
theorem kD_rep {K : PySem.W.Frag} {dr : Option Dr} {H : Hp} {k : Key} {v : V} (r : Rep K dr H (kD k) v) : v = kV k := by
  cases k <;> exact r
theorem pairs_rep {K : PySem.W.Frag} {dr : Option Dr} {H : Hp} {S : List Addr} : ∀ {kvs : List (Key × D)} {xs : List V}, RepL K dr (hide S H) (kvs.map fun kv => .tup [kD kv.1, kv.2]) xs →
    ∃ (ps : List Addr) (vs : List V), xs = ps.map V.ref ∧ Paired (fun p (kv : Key × V) => SqT K H p [kV kv.1, kv.2]) ps ((kvs.map (·.1)).zip vs) ∧ RepL K dr (hide S H) (kvs.map (·.2)) vs
  | [], _, r => by cases r; exact ⟨[], [], rfl, .nil, rfl⟩
  | kv :: kvs, _, r => by
    obtain ⟨v, vs, rfl, ⟨a, ys, rfl, h1, h2⟩, h3⟩ := r
    obtain ⟨k, w, rfl, r1, r2⟩ := h2.two
    obtain ⟨ps, vs', rfl, h4, h5⟩ := pairs_rep h3
    cases kD_rep r1
    exact ⟨a :: ps, w :: vs', rfl, .cons (hide_SqT h1) h4, .cons r2 h5⟩
theorem mergeK_new : ∀ {kvs acc : List (Key × V)}, (kvs.map (·.1)).Nodup → (∀ k ∈ kvs.map (·.1), valV acc k = none) → mergeK acc kvs = acc ++ kvs
  | [], acc, _, _ => by simp [mergeK]
  | kv :: kvs, acc, hn, hd => by
    rw [List.map_cons, List.nodup_cons] at hn
    show mergeK (putK acc kv.1 kv.2) kvs = _
    rw [putK_new kv.2 (hd kv.1 (by simp)), mergeK_new hn.2 fun k hk => ?_]
    · simp
    · rw [valV_snoc kv.1 k kv.2 acc (hd kv.1 (by simp)), if_neg (fun z => hn.1 (by rw [← z]; exact hk))]
      exact hd k (by simp only [List.map_cons, List.mem_cons]; exact .inr hk)
section
variable {X : Cx} {W : Wd} {M : List Addr} {wx : WX} {δ : De} {e : Expr} {Kp : KD} {Ke : KX} {pos : Pos}
theorem dx_dic0 (k : Kp (.dic [] [])) : DE X W M wx δ (.Dict [] [] pos) Kp Ke := PE.imp pe_dnewK fun σ H Q ⟨env, q, qx⟩ => fun p hp =>
  q _ _ (.dic [] []) (Ext.new env.w hp) ⟨p, [], rfl, hide_of (env.amb.new hp) upd_same, rfl, rfl⟩ k
/-- {k: v} of an int or a text -/
theorem dx_dic1 {c v : Const} {j1 j2 : Nat} {p1 p2 : Pos} {key : Key} {x : V} (hk : PE X (.Constant c j1 p1) (fun _ H Q => Q (kV key) H)) (hv : PE X (.Constant v j2 p2) (fun _ H Q => Q x H)) {dd : D} (hr : ∀ H, Rep X.K none H dd x) (hr2 : ∀ H, Rep X.K W.dr H dd x) (k : Kp (.dic [key] [dd])) :
    DE X W M wx δ (.Dict [some (.Constant c j1 p1)] [.Constant v j2 p2] pos) Kp Ke :=
  PE.imp (pe_disp (pps_cons hk hv pps_nil) rfl rfl (by simp) (by simp)) fun σ H Q ⟨env, q, qx⟩ => fun p hp => ⟨upd_same, [(key, x)], rfl, by simp, by
    have e1 : Ext W H (upd H p (.dK [])) := Ext.new env.w hp
    have e : upd (upd H p (.dK [])) p (.dK (mergeK [] [(key, x)])) = upd H p (.dK [(key, x)]) := by
      funext b
      by_cases c : b = p
      · subst c; rw [upd_same, upd_same]; rfl
      · rw [upd_ne c, upd_ne c, upd_ne c]
    rw [e]
    exact q _ _ (.dic [key] [dd]) (Ext.new env.w hp) ⟨p, [x], rfl, hide_of (env.amb.new hp) upd_same, rfl, .cons (hr2 _) .nil⟩ k⟩
theorem bb_dictc : bootBuiltins "dict" = some (.type "dict") := bb_dict
/-- dict(a list of pairs) -/
abbrev gDictP : List D → KD → Prop := fun ds k => as1 (fun d => ∃ kvs : List (Key × D), d = .lst (kvs.map fun kv => .tup [kD kv.1, kv.2]) ∧ (kvs.map (·.1)).Nodup ∧ kvs.length ≤ 1000 ∧ k (.dic (kvs.map (·.1)) (kvs.map (·.2)))) ds
theorem cd_dictP (hc : X.calm = true) : ClD X (.type "dict") gDictP := by
  refine ⟨_, call_dictP hc, fun W S H xs ds Kp Q am r g q => ?_⟩
  obtain ⟨d, rfl, kvs, rfl, hn, hl, g⟩ := as1_ex g
  obtain ⟨v, rfl, a, ys, rfl, h1, h2⟩ := r.one
  obtain ⟨ps, vs, rfl, h3, h4⟩ := pairs_rep h2
  have hz : ((kvs.map (·.1)).zip vs).map (·.1) = kvs.map (·.1) := List.map_fst_zip (by rw [← h4.length]; simp)
  refine ⟨a, ps, _, rfl, SqL.of (hide_lst h1), h3, fun p hp => ?_⟩
  rw [mergeK_new (by rw [hz]; exact hn) (fun _ _ => rfl), List.nil_append]
  have e1 : Ext W H (upd H p (.dK ((kvs.map (·.1)).zip vs))) := Ext.new am.w hp
  exact q _ _ (.dic (kvs.map (·.1)) (kvs.map (·.2))) e1 ⟨p, vs, rfl, hide_of (am.new hp) upd_same, by rw [← h4.length]; simp, h4.mono (am.hid e1)⟩ g
variable {scope : Scope} {elt : Expr} {vs : List Nat} {t : Tg} {ds : List D} {Kl : List D → Prop}
/-- a comprehension of which all items have p -/
theorem lc_all (p : D → Prop) (hl : ds.length ≤ 16777216) (ht : ∀ d ∈ ds, t.fits d) (hb : ∀ d ∈ ds, ∀ A s H C cl fp, DE (BX X scope s H C cl fp) W (A :: M) wx0 (t.put d (wipeD δ vs)) elt p kx0) (hk : ∀ l : List D, l.length = ds.length → (∀ y ∈ l, p y) → Kl l) :
    ds.length ≤ 16777216 ∧ ∃ R : D → Option D → Prop, (∀ d ∈ ds, LcB X W M δ scope vs t elt R d) ∧ ∀ l, Coll R ds l → Kl l :=
  ⟨hl, fun _ y => ∃ z, y = some z ∧ p z, fun d hd => ⟨ht d hd, fun A s H C cl fp => (hb d hd A s H C cl fp).weak (fun y e => ⟨y, rfl, e⟩)⟩, fun l h => by
    obtain ⟨h1, h2⟩ := coll_all h fun _ _ _ e => e
    exact hk l h1 h2⟩
theorem ds_setLcN {O : Out} (i j : Nat) {x y : Str} {px py spos : Pos} {iter : Expr} (hc : X.calm = true) (nd : X.N.Nodup) (hy : X.N[i]? = some y) (hyl : X.env.scope.names.lookup y = some .local) (hsw : swapsWith (.ListComp elt [⟨.Name x px, iter, [], 0⟩] scope pos) (some (.Name y py)) spos.line X.env = pure true)
    (hb : blkC X.N X.env.scope scope [(x, j)] = true) (hn : noOwn δ [j] = true) (hN : X.N[j]? = some x) (hl : ∀ s H C cl fp, Loc (BX X scope s H C cl fp).env.scope x ∧ ((BX X scope s H C cl fp).fn x = true ∨ (BX X scope s H C cl fp).env.scope.names.lookup x = some .local))
    (h : DI X W M wx δ (.Name x px) iter (fun ds => ds.length ≤ 16777216 ∧ ∃ R : D → Option D → Prop, (∀ d ∈ ds, LcB X W M δ scope [j] (.n j) elt R d) ∧ ∀ l, Coll R ds l → O.nx (δ.set i (.im (.lst l)))) Ke) (hs : ∀ x, foldedSetIterable iter X.env x = pure x := by intro _; rfl) :
    DS X W M wx δ (.Assign [.Name y py] (.ListComp elt [⟨.Name x px, iter, [], 0⟩] scope pos) spos) O Ke :=
  ds_setLc i [(x, j)] (.n j) hc nd hy hyl hsw (blkOk_by hb) hn (fun j hj => hj) (fun s H C cl fp => pg_name (X := BX X scope s H C cl fp) nd hN (hl s H C cl fp).1 (hl s H C cl fp).2) h hs
end
end Lay

/-! # DS21: except C as e: x = e, where the exception is kept behind the clause -/
namespace Lay
open PySem PySem.Spec PyProof.Rows L2
/-- an exception object of the class cls with the dict d -/
def ExK (cls : Value) (d : Option Addr) (a : Addr) : HO := .ext fun h => ∃ (oe : Obj) (vs : Array Value), h.get? a = some oe ∧ oe.cls = cls ∧ oe.dict = d ∧ oe.data = .fields vs
/-- an object that stood there all along is tracked from now on -/
theorem adopt {X : Cx} {pins : List (Addr × Obj)} {σ : L2.St} {H : Hp} {s : Shared} {a : Addr} {oe : Obj} {vs : Array Value} {φ : Heap → Prop} (I : L2.Inv X pins σ H s) (he : s.heap.get? a = some oe) (hd : oe.data = .fields vs) (hn : H a = none) (h0 : X.s_0.heap.get? a = none) (nL : a ≠ X.env.locals)
    (nP : ∀ p ∈ X.pn ++ pins, p.1 ≠ a) (new : ObjOk X.prog X.w (upd H a (.ext φ)) s.heap a (.ext φ)) : L2.Inv X pins σ (upd H a (.ext φ)) s where
  ok := I.ok
  os := I.os
  bare := I.bare
  base := ⟨I.base.keep, I.base.slot, fun b o e n x => by rw [upd_ne (fun z => by rw [z, h0] at e; cases e)]; exact I.base.free b o e n x, I.base.there, fun b xs e => by
      have := I.base.tups b xs e
      rw [upd_ne (fun z => by rw [z, hn] at this; cases this)]; exact this, fun b o u e => by
      have := I.base.frzs b o u e
      rw [upd_ne (fun z => by rw [z, hn] at this; cases this)]; exact this, fun b ps e => by
      obtain ⟨more, this⟩ := I.base.tbls b ps e
      exact ⟨more, by rw [upd_ne (fun z => by rw [z, hn] at this; cases this)]; exact this⟩⟩
  loc := I.loc
  cell := I.cell
  free := by rw [upd_ne (Ne.symm nL)]; exact I.free
  freeC := fun x c e => by
    obtain ⟨v, o, ho, hc⟩ := I.cell x c e
    rw [upd_ne (fun z => by rw [z, he] at ho; cases ho; rw [hd] at hc; cases hc)]
    exact I.freeC x c e
  pin := fun p hp => by
    obtain ⟨e, n, r⟩ := I.pin p hp
    exact ⟨e, by rw [upd_ne (nP p hp)]; exact n, r⟩
  hok := fun b u e => by
    by_cases hb : b = a
    · subst hb; rw [upd_same] at e; cases e; exact new
    · rw [upd_ne hb] at e
      exact (I.hok b u e).stay (fun c v _ q => q) (fun c q => by rw [upd_ne (ne_of_none q hn)]; exact q) fun c xs q => by rw [upd_ne (ne_of_none q hn)]; exact q
  len := I.len
/-- what the clause wishes of an exception of the body: it goes on with the exception tracked -/
def wKeep (K : PySem.W.Frag) (c : Value) (i : Nat) (ts : Addr → Value → Option Addr → TS) (Wout : WX) (D : Ends) : WX := fun cls d σ H => ∃ b, PySem.W.exmOne K cls c = some b ∧ (b = false → Wout cls d σ H) ∧
  (b = true → ∀ a, H a = none → ts a cls d { nx := fun σ' H' => D.nx (σ'.set i none) (upd H' a (ExK cls d a)), rt := fun _ _ => False, bk := fun _ _ => False, ct := fun _ _ => False } (σ.set i (some (.ref a))) H)
section
variable {X : Cx} {x n : Str} {c : Value} {i : Nat} {body suite : List Stmt} {b₀ : Stmt} {np pos pos' : Pos} {tb : WX → TS} {ts : Addr → Value → Option Addr → TS} {Wout : WX}
theorem ps_try_keep (hs : X.stack = X.env :: X.outer) (hf : X.env.frame = some X.env.locals) (hex : X.ex = []) (hN : X.N.Nodup) (hi : X.N[i]? = some n) (hln : X.env.kindOf n = some .local) (hc : Names X x c) (tk : Takes X Wout)
    (hb : ∀ (W : WX) (pn : List (Addr × Obj)) (xe : Value → Shared → Prop), Takes (X.tr pn xe) W → PassesOwn (model X.prog X.w) X.A X.env xe → PSs (X.tr pn xe) body (tb W))
    (hsu : ∀ (a : Addr) (oe : Obj) (cls : Value) (d : Option Addr) (pn : List (Addr × Obj)), PSs (X.suite a ((a, oe) :: pn)) (b₀ :: suite) (ts a cls d)) :
    PS X (.Try body [.ExceptHandler (some (.Name x np)) (some n) (b₀ :: suite) pos'] [] [] pos) (fun D σ H => tb (wKeep X.K c i ts Wout D) D σ H) := by
  refine ⟨fun pins s σ H D I h => ?_⟩
  have ok := I.ok; have hfr : X.A.frames = some (X.env :: X.outer) := by rw [ok.frames, hs]
  refine wpAny_Try_except (wpAny_mono ((hb (wKeep X.K c i ts Wout D) (X.pn ++ pins) (fun e s1 => wpAny (model X.prog X.w) X.A (noteFrame e X.env) (fun _ s2 => wpAny (model X.prog X.w) X.A (setFlight e none) (fun _ s3 => wpAny (model X.prog X.w) X.A (handleBy e X.env [.ExceptHandler (some (.Name x np)) (some n) (b₀ :: suite) pos']) (SP X pins D) X.xe s3) X.xe s2) X.xe s1)
    (fun u s' xx => ?_) PassesOwn.looking).run [] s σ H D (I.toTry _) h) (fun f s1 hsp => ?_) (fun e s1 he => he))
  · obtain ⟨a, B, sI, pins', σ', H', cls, d, rfl, J', nb, up, sky, na, os, ag, b, hb1, hno, hyes⟩ := xx
    have J := J'.ofTry ok; rw [hs] at sky
    show wpAny (model X.prog X.w) X.A (noteFrame (.ref a) X.env) _ _ _
    refine Sky.land Zc.steady hfr hf sky fun h3 fl3 up3 => ?_
    have J3 : L2.Inv X pins σ' H' { s' with heap := h3 } := J.landed nb fl3.1 (up.trans up3) os ag
    obtain ⟨oe3, vs3, he3, hz3, hd3⟩ := fl3.there
    have nfr : a ∉ frs (X.env :: X.outer) := fun hm => by
      obtain ⟨_, o', e', hnf⟩ := fl3.2.2.1.mem hm
      rw [he3] at e'; cases e'; exact hnf _ hd3
    have nL : a ≠ X.env.locals := fun z => nfr (List.mem_filterMap.mpr ⟨X.env, List.mem_cons_self, by rw [hf, z]⟩)
    have nF : a ∉ X.fs := fun hm => let ⟨e, he, q⟩ := List.mem_filterMap.mp hm; nfr (List.mem_filterMap.mpr ⟨e, List.mem_cons_of_mem _ he, q⟩)
    have sI0 : sI.heap.get? a = none := by
      cases e : sI.heap.get? a with
      | none => rfl
      | some o => have := nb a o e (by rw [hs]; exact nfr); rw [fl3.2.1] at this; cases this
    have s00 : X.s_0.heap.get? a = none := by
      cases e : X.s_0.heap.get? a with
      | none => rfl
      | some o =>
        obtain ⟨o', e'⟩ := J.base.there a o e (by rw [hex]; simp)
        rw [sI0] at e'; cases e'
    have nP : ∀ p ∈ X.pn ++ pins, p.1 ≠ a := fun p hp z => by
      have := (J.pin p hp).1
      rw [z, sI0] at this; cases this
    have S3 := J3.suite he3 hd3 na nL nF
    refine wpAny_handleBy_cons (codeAny_handlers_test ?_) (by intro q; cases q)
    have LM := PySem.W.exm_one (M := model X.prog X.w) (J3.kIn) (show PySem.W.Looks (model X.prog X.w) h3 (typeOf (.ref a)) cls from fun A Q E s k q => wpAny_typeOf_ref (k _ _ he3) (by rw [hz3.1]; exact q)) hb1
    have test : ∀ {Q : Value → Shared → Prop} {E : Value → Shared → Prop}, Q c { s' with heap := h3 } → wpAny (model X.prog X.w) (X.A.mark (some (.ref a))) (eval (.Name x np) X.env) Q E { s' with heap := h3 } := fun {Q E} q => match hc with
      | ⟨hg, hdbg, .inl hm⟩ => ld_glob (X := X.suite a ((a, oe3) :: (X.pn ++ pins))) S3 hg hm q hdbg
      | ⟨hg, hdbg, .inr ⟨hm, hv, hnn⟩⟩ => ld_blt (X := X.suite a ((a, oe3) :: (X.pn ++ pins))) S3 hg hm hv q hnn hdbg
    refine test (LM.here ?_)
    cases b with
    | true =>
      refine codeAny_handlers_suite_as (HandSPX.lands_againZ fl3 fun h4 fl4 up4 => ?_)
      have J4 : L2.Inv X pins σ' H' { s' with heap := h4 } := J.landed nb fl4.1 ((up.trans up3).trans up4) os ag
      obtain ⟨oe4, vs4, he4, hz4, hd4⟩ := fl4.there
      refine store_ok (X := X.suite a ((a, oe4) :: (X.pn ++ pins))) (v := .ref a) (J4.suite he4 hd4 na nL nF) hN hi (.inl hln) rfl (fun s5 S5 => wpAny_mono ((hsu a oe4 cls d (X.pn ++ pins)).run [] s5 _ H' _ S5 (hyes rfl a na)) (fun f s6 hsp => ?_) (fun _ _ z => False.elim z)) (.inr hln)
      match f, hsp with
      | .next, ⟨σ6, H6, S6, q6⟩ =>
        obtain ⟨e6, n6, _⟩ := S6.pin (a, oe4) (List.mem_append_left _ List.mem_cons_self)
        exact gone_ok (adopt (φ := fun h => ∃ (oe : Obj) (vs : Array Value), h.get? a = some oe ∧ oe.cls = cls ∧ oe.dict = d ∧ oe.data = .fields vs) (S6.unsuite ok) e6 hd4 n6 s00 nL nP ⟨⟨oe4, vs4, e6, hz4.1, hz4.2, hd4⟩, ⟨oe4, e6⟩, fun _ _ ⟨o, v, q, r⟩ k => ⟨o, v, k o q, r⟩⟩) hN hi hln fun s7 J7 => ⟨_, _, J7, q6⟩
      | .brk, ⟨_, _, _, q6⟩ => exact q6.elim
      | .cont, ⟨_, _, _, q6⟩ => exact q6.elim
      | .ret u, ⟨_, _, _, _, _, q6⟩ => exact q6.elim
    | false =>
      show wpAny _ X.A (handleBy (.ref a) X.env []) _ _ _
      refine wpAny_handleBy_nil ?_; obtain ⟨k1, k2, k3, oe, vs, T, oT, ts', he, hz, hd, h1, hr⟩ := id fl3
      unfold PySem.passOn
      refine wpAny_bind (wpAny_field he hd h1 ?_); rw [if_neg (show ¬ ((Value.ref T == Value.none) = true) from by simp)]
      have fin : wpAny (model X.prog X.w) X.A (setFlight (.ref a) X.env.frame) (fun _ s4 => wpAny (model X.prog X.w) X.A (throw (.ref a) : Sem Flow) (SP X pins D) X.xe s4) X.xe { s' with heap := h3 } := by
        rw [hf]; exact HandSPX.setFlight_upZ fl3 fun h4 hh4 up4 => wpAny_throw (tk _ _ ⟨a, B, sI, pins, σ', H', cls, d, rfl, J, nb, (up.trans up3).trans up4, .inr (.inr (by rw [hs]; exact hh4)), na, os, ag, hno rfl⟩)
      first | exact wpAny_bind (wpAny_pure (wpAny_bind fin)) | exact wpAny_bind fin
  · match f, hsp with
    | .next, ⟨σ', H', J', q⟩ => exact wpAny_execs_nil ⟨σ', H', J'.ofTry ok, q⟩
    | .brk, ⟨σ', H', J', q⟩ => exact ⟨σ', H', J'.ofTry ok, q⟩
    | .cont, ⟨σ', H', J', q⟩ => exact ⟨σ', H', J'.ofTry ok, q⟩
    | .ret u, ⟨v, σ', H', J', r, q⟩ => exact ⟨v, σ', H', J'.ofTry ok, r, q⟩
end
end Lay

/-! # DS22: caught(lambda: e): None, or the exception of e -/
namespace Lay
open PySem PySem.Spec PyProof.Rows L2 LamX
/-- told: b = None / try: a() / except CP as n: b = n / return b -/
def TTc (K : PySem.W.Frag) (CP : Addr) : (XK → Hp → VK → Prop) → Hp → VK → Prop := fun tl H Q => ∀ Q' : VK, (∀ v H', Q .non H' → Q' v H') →
  tl (fun cls d H' => PySem.W.exmOne K cls (.ref CP) = some true ∧ ∀ a, H' a = none → Q (.ref a) (upd H' a (ExK cls d a))) H Q'
theorem caught_gives {X : Cx} {Ng : List Str} {x a b n e q : Str} {sg : Scope} {g CP : Addr} {cdg : Value} {j : Nat} {p1 p2 p3 p4 p5 p6 p7 p8 p9 p10 p11 p12 p13 p14 : Pos} (hN : Ng = [a, b, n]) (nd : Ng.Nodup) (hb : sg.names.lookup b = some .local) (hn : sg.names.lookup n = some .local) (hge : sg.names.lookup e = some .globalImplicit)
    (hme : X.mg e = some (.ref CP)) (hde : (e == ("__debug__" : Str)) = false) (hdb : (b == ("__debug__" : Str)) = false) (hcb : (b == ("__classdict__" : Str)) = false) (hdn : (n == ("__debug__" : Str)) = false) (hcn : (n == ("__classdict__" : Str)) = false)
    (s1 : ∀ env, swapsWith (.Constant .none j p1) (some (.Name b p2)) p3.line env = pure false) (s2 : ∀ env, swapsWith (.Call (.Name a p4) [] [] p5) none p6.line env = pure false) (s3 : ∀ env, swapsWith (.Name n p7) (some (.Name b p8)) p9.line env = pure false) :
    GivesTo X Ng x sg g cdg [.Assign [.Name b p2] (.Constant .none j p1) p3, .Try [.Expr (.Call (.Name a p4) [] [] p5) p6] [.ExceptHandler (some (.Name e p10)) (some n) [.Assign [.Name b p8] (.Name n p7) p9] p11] [] [] p12, .Return (some (.Name b p13)) p14] a q (TTc X.K CP) := by
  intro f c' s H Q tl act hc h
  subst hN
  refine ⟨_, pss_cons (ps_set (i := 1) nd rfl (.inl hb) pe_non (s1 _) (.inr hb)) (pss_cons (ps_try_keep (X := (cxOf C8.CX0 X.prog X.w X.K X.mg X.base [a, b, n] x sg g cdg X.A X.stack s H C8.E0).nox) (c := .ref CP) (i := 2) (Wout := fun _ _ _ _ => False)
      (tb := fun W D σ H => ∃ Ech : XK, (∀ cls d σ' H', Ech cls d H' → W cls d σ' H') ∧ σ[0]? = some (some (.ref f)) ∧ H c' = some (CodeO c' q) ∧ tl Ech H fun _ H' => D.nx σ H')
      (ts := fun a _ _ => fun D σ H => σ.length = 3 → tAsg (tVar 2) (gName 1) D σ H)
      rfl rfl rfl nd rfl hn ⟨hge, hde, .inl hme⟩ LamX.takes0 (fun W pn xe tk _ => ?_) (fun a0 oe cls d pn => ?_)) (pss_one (ps_ret (pe_var (i := 1) rfl (.inl hb) hdb hcb)))), ?_⟩
  · refine ⟨fun pins s' σ H' D I h' => ?_⟩
    obtain ⟨Ech, hW, h1, h2, h3⟩ := h'
    exact (pss_one (ps_expr (act W pn xe Ech p4 p5 tk hW) (s2 _))).run pins s' σ H' D I ⟨h1, h2, h3⟩
  · refine ⟨fun pins s' σ H' D I h' => ?_⟩
    exact (pss_one (ps_set (i := 1) nd rfl (.inl hb) (pe_var (i := 2) rfl (.inl hn) hdn hcn) (s3 _) (.inr hb))).run pins s' σ H' D I (h' I.len)
  · refine ⟨fun cls d H' => PySem.W.exmOne X.K cls (.ref CP) = some true ∧ ∀ a, H' a = none → Q (.ref a) (upd H' a (ExK cls d a)), fun cls d σ' H' ⟨e1, k⟩ => ⟨true, e1, And.intro (fun z => by cases z) (fun _ a0 ha hl => ?_)⟩, rfl, hc, h _ fun v H' hq => ⟨.non, rfl, hq⟩⟩
    have hl' : σ'.length = 3 := by simpa using hl
    refine ⟨.ref a0, by rw [List.getElem?_set_self (by omega)], .ref a0, ?_, k a0 ha⟩
    rw [List.getElem?_set_ne (by decide), List.getElem?_set_self (by simp [hl'])]
end Lay

/-! # DS23: caught(lambda: e) on data -/
namespace Lay
open PySem PySem.Spec PyProof.Rows L2 LamX
section
variable {X : Cx} {W : Wd} {M : List Addr} {wx : WX} {δ : De} {body : Expr} {Kp : KD} {Ke : KX} {pos p lpos : Pos} {x a : Str} {k : Nat} {st : Stmt} {scope : Scope} {params : Arguments} {g c P CP : Addr} {fd : FuncData} {Ng : List Str}
theorem dx_caught (hg : Gl X x) (hm : X.mg x = some (.ref g)) (F : FunD X.K x x (defArgs st) (defBody st) (defScope st) [] [] g fd) (Sg : FnScope Ng [a] (defScope st)) (hNg : Ng[0]? = some a) (hva : Vis (defScope st) a)
    (hb : ∀ (kV doc pm : Value) (an : Option Addr) (cdv ct : Value) (us : List Value), us.length = 1 → bindArgs (PySem.W.fnOf x x (defArgs st) (defBody st) (defScope st) .none kV doc pm an cdv ct) ⟨us, []⟩ = pure (([a] : List Str).zip us))
    (hG : ∀ (cdg : Value) (q : Str), GivesTo X Ng x (defScope st) g cdg (defBody st) a q (TTc X.K CP)) (TB : TabB X.base X.mg c P) (hcode : X.env.code = .ref c) (hmT : (P, X.env.qual ++ "<lambda>") ∈ W.T) (hu : ∀ p ∈ W.T, p.1 = P → p.2 = X.env.qual ++ "<lambda>") (hr : Room (k + 2) X.A)
    (L : lamSB X.env.scope scope = true) (hdef : defaultsOf params X.env = ([], [])) (hbind : ∀ (q : Str) (cl : List (Str × Addr)) (pm cv ctv : Value), bindArgs (PySem.W.kla_fn "<lambda>" q params body scope cl pm cv ctv) ⟨[], []⟩ = pure [])
    (h : ∀ (A : Around) (outer : List Env) (s : Shared) (H : Hp) (E : XK) (f c' : Addr), Room k (A.deeper (lamEnv X scope s.heap.objs.size f c')) → DE (lamCx X A outer s H E scope f c') W M (wxE E) δ body (fun _ => Kp .non) (fun y => y.fs = [] ∧ PySem.W.exmOne X.K (.ref y.C) (.ref CP) = some true ∧ Kp (.exc y.C [] [])))
    (hdb : (x == ("__debug__" : Str)) = false := by decide) (hd : (a == ("__debug__" : Str)) = false := by decide) (hcd : (a == ("__classdict__" : Str)) = false := by decide) : DE X W M wx δ (.Call (.Name x p) [.Lambda params body scope lpos] [] pos) Kp Ke := by
  have hB := F.bindsN (ps := [a]) hb
  obtain ⟨oc, od, dV, kV, doc, pm, an, cdv, ct, osl, rfl, lk, hcg, _, _⟩ := F.ex
  refine PE.imp (pe_lamcall (T := W.T) (t := fun E => tE X.K W M (wxE E) δ (fun _ => Kp .non) (fun y => y.fs = [] ∧ PySem.W.exmOne X.K (.ref y.C) (.ref CP) = some true ∧ Kp (.exc y.C [] []))) hg hm F.kp lk hcg hB Sg hNg hva (hG cdv _) TB hcode hmT hu hr (lamS_by L) hdef hbind h hdb hd hcd) fun σ H Q ⟨env, q, qx⟩ => ?_
  refine ⟨env.w.tabs, fun H1 eN T1 Q' hQ => ?_⟩
  have e1 : Ext W H H1 := ⟨fun b o _ h t => eN b o h t, ⟨T1, fun d hd => (env.w.drs d hd).stay fun b o x nt _ => eN b o x nt⟩⟩
  refine ⟨env.ext e1, fun v H' d e2 r k => hQ v H' (q .non H' .non (e1.trans e2) rfl k), fun y cls dd H' e2 xo ⟨hf, hx, k⟩ => ?_⟩
  obtain ⟨rfl, xo⟩ := xo
  rcases xo with ⟨rfl, _, _⟩ | ⟨z, _⟩
  · refine ⟨hx, fun a0 ha => ?_⟩
    have am := (env.ext (e1.trans e2)).amb
    exact q (.ref a0) _ (.exc y.C [] []) ((e1.trans e2).trans (Ext.new am.w ha)) ⟨a0, none, rfl, hide_of (am.new ha) upd_same, .inl ⟨rfl, rfl, rfl⟩⟩ k
  · exact absurd hf z
end
/-- a def by its body, told its code object -/
theorem Fn.ofC {G : Pg} {st : Stmt} {fa : Addr} {fd : FuncData} {k : Nat} {N ps : List Str} {f : FS} {x : Str} (F : FunD G.K x x (defArgs st) (defBody st) (defScope st) [] [] fa fd) (hm : G.mg x = some (.ref fa)) (S : FnScope N ps (defScope st))
    (hb : ∀ (kV doc pm : Value) (an : Option Addr) (cdv ct : Value) (us : List Value), us.length = ps.length → bindArgs (PySem.W.fnOf x x (defArgs st) (defBody st) (defScope st) .none kV doc pm an cdv ct) ⟨us, []⟩ = pure (ps.zip us))
    (body : ∀ (cdv : Value) (A : Around) (outer : List Env) (s : Shared) (H : Hp) (E : XK) (dr : Option Dr) (M : List Addr) (ds : List D) (Kp : KD) (Ke : KX), fd.code = cdv → Takes (FX G N x st fa cdv A outer s H E) (wxE E) → PassesOwn (model G.P G.w) (FX G N x st fa cdv A outer s H E).A (FX G N x st fa cdv A outer s H E).env (FX G N x st fa cdv A outer s H E).xe →
      Room k (FX G N x st fa cdv A outer s H E).A → ds.length = ps.length → f ds Kp Ke → DSs (FX G N x st fa cdv A outer s H E) ⟨G.T, dr⟩ M (wxE E) (st0 N ds) (defBody st) { nx := fun _ => Kp .non, rt := Kp } Ke) : Fn G x (k + 1) ps f := by
  refine ⟨fa, fd, hm, F.kp, ?_, F.bindsN hb⟩
  obtain ⟨oc, od, dV, kV, doc, pm, an, cdv0, ct, osl, e0, lk, hcd, _, _⟩ := F.ex
  subst e0
  refine fn_of lk hcd S (fun vs H Q E h => h.1) fun A outer s H vs Q E hr h => ?_
  obtain ⟨hl, W, S', ds, Kp, Ke, hT, am, r, hf, q1, qx⟩ := h
  obtain ⟨env, hS⟩ := env_start N am r
  obtain ⟨WT, dr⟩ := W
  have hT : WT = G.T := hT
  subst hT
  have b := body cdv0 A outer s H E dr (outM ⟨G.T, dr⟩ S') ds Kp Ke rfl (takes_of rfl rfl rfl rfl) PassesOwn.leaving hr (by rw [r.length]; exact hl) hf H []
  refine ⟨_, b, ⟨env, fun b o _ _ e _ => e, fun a ha => ?_⟩, fun δ' σ' H' e k => ?_, fun _ _ _ _ z => z.elim, fun _ _ _ _ z => z.elim, fun v H' d xe rd k => ?_, fun y cls dd σ' H' xe rd k => ?_⟩
  · have ho : ownA (st0 N ds) (L2.start N vs) = [] := ownA_im ds _ _ _ (by rw [List.length_map]; exact r.length) (by rw [r.length]; exact ownA_un _ _)
    rw [ho] at ha; simp at ha
  · exact q1 .non H' .non ⟨fun b o hb h t => e.ext b o hb (by simp) h t, e.env.w⟩ rfl k
  · exact q1 v H' d ⟨fun b o hb h t => xe.ext b o hb (by simp) h t, xe.w⟩ (rd.mono (hide_more fun a ha => (hS a).mpr ha)) k
  · exact qx y cls dd H' ⟨fun b o hb h t => xe.ext b o hb (by simp) h t, xe.w⟩ (rd.mono (hide_more fun a ha => (hS a).mpr ha)) k
end Lay

/-! # DS24: the list of a comprehension is new -/
namespace Lay
open PySem PySem.Spec PyProof.Rows L2
section
variable {X : Cx} {W : Wd} {M : List Addr} {wx : WX} {δ : De} {tg iter elt c : Expr} {scope : Scope} {Kl : List D → Prop} {Ke : KX} {own : List (Str × Nat)} {t : Tg} {σ : L2.St} {H : Hp} {Q : VK}
theorem fresh_of {H1 : Hp} {A : Addr} (w : WOk W H) (e : Ext W H H1) (hA : H1 A = none) : ∀ b o, H b = some o → (∀ ps, o ≠ .tbl ps) → b ≠ A := fun b o h nt z => by
  by_cases hb : b ∈ W.rg
  · obtain ⟨o', e', _⟩ := e.ok.tr hb
    rw [z, hA] at e'; cases e'
  · have := e.keep b o hb h nt
    rw [z, hA] at this; cases this
theorem lcIf_fresh (env : EnvOk X.K W M δ σ H) (hn : noOwn δ (own.map (·.2)) = true) (hsl : ∀ i ∈ t.slots, i ∈ own.map (·.2)) (h : DI X W M wx δ tg iter (fun ds => ds.length ≤ 16777216 ∧ ∃ R : D → Option D → Prop, (∀ d ∈ ds, LcC X W M δ scope (own.map (·.2)) t elt c R d) ∧ ∀ l, Coll R ds l → Kl l) Ke)
    (q : ∀ A H' l, Ext W H H' → (∀ b o, H b = some o → (∀ ps, o ≠ .tbl ps) → b ≠ A) → Rep X.K W.dr (hide (hidA W M δ σ) H') (.lst l) (.ref A) → Kl l → Q (.ref A) H') (qx : ∀ x cls dd H', Ext W H H' → XOk X.K W.dr (hide (hidA W M δ σ) H') x cls dd → Ke x → wx cls dd σ H') :
    tLc (tiAny X tg iter) (t.g X.K) (ttAnyB X scope c) (tAnyB X scope elt) (own.map (·.2)) σ H Q :=
  h.run env (fun J H1 ds e1 hw ⟨hds, R, hb, hk⟩ A hA => lc_run (env.ext e1) hn hsl hw hds hA (fun d hd => (hb d hd).1) (fun d hd σ' H' Qt Qf env' qt qf =>
      ⟨tT X.K W (A :: M) wx0 (t.put d (wipeD δ (List.map (fun (p : Str × Nat) => p.2) own))) (fun b => (b = true → LcE X W (A :: M) (t.put d (wipeD δ (List.map (fun (p : Str × Nat) => p.2) own))) scope elt fun y => R d (some y)) ∧ (b = false → R d none)) kx0, (hb d hd).2 A, env', fun b H3 e3 ⟨k1, k2⟩ => by
        cases b with
        | true => exact iteT ((k1 rfl).run (env'.ext e3) fun y H4 d' e4 r k => qt y H4 d' (e3.trans e4) r k)
        | false => exact iteF (qf H3 e3 (k2 rfl)), fun x cls dd H' _ _ z => z.elim⟩) fun l H' e2 r2 hc => q A H' l (e1.trans e2) (fresh_of env.w e1 hA) r2 (hk l hc)) qx
theorem lc_fresh (env : EnvOk X.K W M δ σ H) (hn : noOwn δ (own.map (·.2)) = true) (hsl : ∀ i ∈ t.slots, i ∈ own.map (·.2)) (h : DI X W M wx δ tg iter (fun ds => ds.length ≤ 16777216 ∧ ∃ R : D → Option D → Prop, (∀ d ∈ ds, LcB X W M δ scope (own.map (·.2)) t elt R d) ∧ ∀ l, Coll R ds l → Kl l) Ke)
    (q : ∀ A H' l, Ext W H H' → (∀ b o, H b = some o → (∀ ps, o ≠ .tbl ps) → b ≠ A) → Rep X.K W.dr (hide (hidA W M δ σ) H') (.lst l) (.ref A) → Kl l → Q (.ref A) H') (qx : ∀ x cls dd H', Ext W H H' → XOk X.K W.dr (hide (hidA W M δ σ) H') x cls dd → Ke x → wx cls dd σ H') :
    tLc (tiAny X tg iter) (t.g X.K) tYes (tAnyB X scope elt) (own.map (·.2)) σ H Q :=
  h.run env (fun J H1 ds e1 hw ⟨hds, R, hb, hk⟩ A hA => lc_run (env.ext e1) hn hsl hw hds hA (fun d hd => (hb d hd).1) (fun d hd σ' H' Qt Qf env' qt qf => iteT (B := Qf H') (((hb d hd).2 A).run env' qt)) fun l H' e2 r2 hc => q A H' l (e1.trans e2) (fresh_of env.w e1 hA) r2 (hk l hc)) qx
end
end Lay

/-! # DS25: a list of one's own is given away -/
namespace Lay
open PySem PySem.Spec PyProof.Rows L2
theorem ownA_give {l : List D} {d : D} : ∀ {δ : De} {σ : L2.St} {i : Nat}, δ[i]? = some (.ow l) → ∀ a, a ∈ ownA (δ.set i (.im d)) σ → a ∈ ownA δ σ
  | [], _, _, h, a, m => by simp at h
  | s :: δ, [], i, h, a, m => by cases i <;> simp [ownA] at m <;> cases s <;> simp [ownA] at m
  | s :: δ, o :: σ, 0, h, a, m => by
    have m' : a ∈ ownA (.im d :: δ) (o :: σ) := m
    rcases ownA_cons.mp m' with m | m
    · simp [ownA] at m
    · exact ownA_cons.mpr (.inr m)
  | s :: δ, o :: σ, i + 1, h, a, m => by
    have m' : a ∈ ownA (s :: δ.set i (.im d)) (o :: σ) := m
    rcases ownA_cons.mp m' with m | m
    · exact ownA_cons.mpr (.inl m)
    · exact ownA_cons.mpr (.inr (ownA_give (δ := δ) (σ := σ) (i := i) (by simpa using h) a m))
theorem ownA_giveN {l : List D} {d : D} : ∀ {δ : De} {σ : L2.St} {i : Nat} {a : Addr}, δ[i]? = some (.ow l) → σ[i]? = some (some (.ref a)) → (ownA δ σ).Nodup → (ownA (δ.set i (.im d)) σ).Nodup ∧ a ∉ ownA (δ.set i (.im d)) σ
  | [], _, _, _, h, _, _ => by simp at h
  | s :: δ, [], i, _, _, h, _ => by simp at h
  | s :: δ, o :: σ, 0, a, h, h2, n => by
    simp at h h2
    subst h h2
    have n' : (a :: ownA δ σ).Nodup := n
    have e : ownA ((Sl.ow l :: δ).set 0 (.im d)) (some (.ref a) :: σ) = ownA δ σ := rfl
    rw [e]
    exact ⟨(List.nodup_cons.mp n').2, (List.nodup_cons.mp n').1⟩
  | s :: δ, o :: σ, i + 1, a, h, h2, n => by
    have h' : δ[i]? = some (.ow l) := by simpa using h
    have h2' : σ[i]? = some (some (.ref a)) := by simpa using h2
    rw [ownA_eq] at n
    obtain ⟨n1, n2, n3⟩ := List.nodup_append.mp n
    obtain ⟨g1, g2⟩ := ownA_giveN (d := d) h' h2' n2
    have e : ownA ((s :: δ).set (i + 1) (.im d)) (o :: σ) = ownA [s] [o] ++ ownA (δ.set i (.im d)) σ := ownA_eq
    rw [e]
    refine ⟨List.nodup_append.mpr ⟨n1, g1, fun x hx y hy => n3 x hx y (ownA_give h' y hy)⟩, fun z => ?_⟩
    rcases List.mem_append.mp z with z | z
    · exact n3 a z a (mem_own h' h2') rfl
    · exact g2 z
theorem EnvOk.give {K : PySem.W.Frag} {W : Wd} {M : List Addr} {δ : De} {σ : L2.St} {H : Hp} {i : Nat} {l : List D} (h : EnvOk K W M δ σ H) (hd : δ[i]? = some (.ow l)) : EnvOk K W M (δ.set i (.im (.lst l))) σ H := by
  obtain ⟨a, xs, hs, ha, hH, hr⟩ := own_at h hd
  have hm : a ∈ ownA δ σ := mem_own hd hs
  obtain ⟨n1, n2⟩ := ownA_giveN (d := .lst l) hd hs h.nd
  have sub : ∀ b, b ∈ hidA W M (δ.set i (.im (.lst l))) σ → b ∈ hidA W M δ σ := fun b hb => by
    simp only [hidA, List.mem_append] at hb ⊢
    rcases hb with hb | hb
    · exact .inl hb
    · exact .inr (ownA_give hd b hb)
  have na : a ∉ hidA W M (δ.set i (.im (.lst l))) σ := fun z => by
    simp only [hidA, List.mem_append] at z
    rcases z with (z | z) | z
    · exact (h.dj a hm).1 z
    · exact (h.dj a hm).2 z
    · exact n2 z
  have k : ExN (hide (hidA W M δ σ) H) (hide (hidA W M (δ.set i (.im (.lst l))) σ) H) := hide_more sub
  have es : σ = σ.set i (some (.ref a)) := by
    refine List.ext_getElem? fun j => ?_
    by_cases c : i = j
    · subst c
      rw [List.getElem?_set_self (by
        have := List.getElem?_eq_some_iff.mp hs
        exact this.1)]
      exact hs
    · rw [List.getElem?_set_ne c]
  refine ⟨h.w, h.m, n1, fun b hb => h.dj b (ownA_give hd b hb), ?_⟩
  have := SlotsOk.set (s := .im (.lst l)) (o := some (.ref a)) (K := K) (dr := W.dr) (S := hidA W M (δ.set i (.im (.lst l))) σ) (H := H) ⟨.ref a, rfl, a, xs, rfl, hide_of na hH, hr.mono k⟩ i (h.sl.stay k fun b u _ e _ => e)
  rwa [← es] at this
section
variable {X : Cx} {W : Wd} {M : List Addr} {wx : WX} {δ : De} {O : Out} {Ke : KX}
/-- from here on the list is no more changed -/
theorem dss_give {st : Stmt} {rest : List Stmt} {l : List D} (i : Nat) (hd : δ[i]? = some (.ow l)) (h : DSs X W M wx (δ.set i (.im (.lst l))) (st :: rest) O Ke) : DSs X W M wx δ (st :: rest) O Ke := fun H0 N =>
  ⟨fun pins s σ H D I ⟨env, q⟩ => (h H0 N).run pins s σ H D I ⟨⟨env.env.give hd, env.ext, fun a ha => env.own a (ownA_give hd a ha)⟩, q⟩⟩
theorem ds_setLcNIf {iter elt c : Expr} {scope : Scope} {pos : Pos} (i j : Nat) {x y : Str} {px py spos : Pos} (hc : X.calm = true) (nd : X.N.Nodup) (hy : X.N[i]? = some y) (hyl : X.env.scope.names.lookup y = some .local) (hsw : swapsWith (.ListComp elt [⟨.Name x px, iter, [c], 0⟩] scope pos) (some (.Name y py)) spos.line X.env = pure true)
    (hb : blkC X.N X.env.scope scope [(x, j)] = true) (hn : noOwn δ [j] = true) (hN : X.N[j]? = some x) (hl : ∀ s H C cl fp, Loc (BX X scope s H C cl fp).env.scope x ∧ ((BX X scope s H C cl fp).fn x = true ∨ (BX X scope s H C cl fp).env.scope.names.lookup x = some .local))
    (h : DI X W M wx δ (.Name x px) iter (fun ds => ds.length ≤ 16777216 ∧ ∃ R : D → Option D → Prop, (∀ d ∈ ds, LcC X W M δ scope [j] (.n j) elt c R d) ∧ ∀ l, Coll R ds l → O.nx (δ.set i (.im (.lst l)))) Ke) (hs : ∀ x, foldedSetIterable iter X.env x = pure x := by intro _; rfl) :
    DS X W M wx δ (.Assign [.Name y py] (.ListComp elt [⟨.Name x px, iter, [c], 0⟩] scope pos) spos) O Ke :=
  ds_setLcIf i [(x, j)] (.n j) hc nd hy hyl hsw (blkOk_by hb) hn (fun j hj => hj) (fun s H C cl fp => pg_name (X := BX X scope s H C cl fp) nd hN (hl s H C cl fp).1 (hl s H C cl fp).2) h hs
end
end Lay

/-! # HD1: what these Bools tell -/
namespace Lay
open PySem PySem.Spec PyProof.Rows L2 He
/-! ### facts as Bools -/
theorem propB_ok {K : PySem.W.Frag} {C m : Str} (h : propB K C m = true) : PropOf K (ga K C) m (propAt C m K) (getAt C m K) := by
  obtain ⟨h1, h⟩ := ba h
  obtain ⟨h2, h⟩ := ba h
  obtain ⟨h3, h4⟩ := ba h
  refine ⟨of_decide_eq_true h1, of_decide_eq_true h2, of_decide_eq_true h3, ?_⟩
  unfold getAt
  split at h4
  · rename_i g r q
    rw [q]
    exact ⟨r, rfl⟩
  · cases h4
theorem insB_ok {K : PySem.W.Frag} {C : Addr} (c : Cls K C) (h : insB K C = true) : InsF K C ∧ clsB K C = true ∧ PySem.W.kitOne K (.ref C) (.ref C) = some true := by
  obtain ⟨h1, h⟩ := ba h
  obtain ⟨h2, h⟩ := ba h
  obtain ⟨h3, h⟩ := ba h
  obtain ⟨h4, h⟩ := ba h
  obtain ⟨h5, h6⟩ := ba h
  exact ⟨⟨c, of_decide_eq_true h1, of_decide_eq_true h2, of_decide_eq_true h3, of_decide_eq_true h4⟩, h5, of_decide_eq_true h6⟩
theorem ownEB_ok {K : PySem.W.Frag} {C : Addr} (h : ownEB K C = true) : OwnE K C (ma K C "__eq__") := by
  obtain ⟨h1, h⟩ := ba h
  obtain ⟨h2, h⟩ := ba h
  obtain ⟨h3, h4⟩ := ba h
  exact ⟨of_decide_eq_true h1, of_decide_eq_true h2, h3, fun z => by rw [z] at h4; cases h4⟩
theorem excB_ok {K : PySem.W.Frag} {C : Addr} (h : excB K C = true) : ExcC K C ∧ clsB K C = true ∧ PySem.W.kitOne K (.ref C) (.ref C) = some true := by
  obtain ⟨h1, h⟩ := ba h
  obtain ⟨h2, h⟩ := ba h
  obtain ⟨h3, h⟩ := ba h
  obtain ⟨h4, h⟩ := ba h
  obtain ⟨h5, h⟩ := ba h
  obtain ⟨h6, h⟩ := ba h
  obtain ⟨h7, h⟩ := ba h
  obtain ⟨h8, h⟩ := ba h
  obtain ⟨h9, h10⟩ := ba h
  exact ⟨⟨of_decide_eq_true h1, of_decide_eq_true h2, of_decide_eq_true h3, h4, of_decide_eq_true h5, of_decide_eq_true h6, of_decide_eq_true h7, of_decide_eq_true h8⟩, h9, of_decide_eq_true h10⟩
theorem exF_ok {K : PySem.W.Frag} {mg : Str → Option Value} {x : Str} (g : mg x = some (.ref (ga K x))) (h : (Fa.exc x).ok K = true) : ExF K mg x (ga K x) := by
  obtain ⟨a, b, c, d⟩ := exc_ok h
  exact ⟨g, a, b, c, d⟩
end Lay

namespace KK
open PySem PySem.Spec PyProof.Rows L2 Lay
local macro_rules | `(tactic| walk_at "d") => `(tactic| first
  | (with_reducible show DE _ _ _ _ _ _ _ _); (first
    | (with_reducible show DE _ _ _ _ _ (.Compare (.Name "units" _) [.NotEq] _ _) _ _); refine dx_cmpW (od_neO (by assumption) (by assumption) (by assumption) (by assumption)) rfl ?_
    | (with_reducible show DE _ _ _ _ _ (.Compare (.Name "units" _) [.Eq] _ _) _ _); refine dx_cmpW (od_eqO (by assumption) (by assumption) (by assumption)) rfl ?_
    | (with_reducible show DE _ _ _ _ _ (.Name _ _) _ _); (first | refine dx_name 0 rfl (by first | exact Or.inl rfl | exact Or.inr (Or.inl rfl) | exact Or.inr (Or.inr rfl)) rfl ?_ | refine dx_name 1 rfl (by first | exact Or.inl rfl | exact Or.inr (Or.inl rfl) | exact Or.inr (Or.inr rfl)) rfl ?_ | refine dx_name 2 rfl (by first | exact Or.inl rfl | exact Or.inr (Or.inl rfl) | exact Or.inr (Or.inr rfl)) rfl ?_ | refine dx_name 3 rfl (by first | exact Or.inl rfl | exact Or.inr (Or.inl rfl) | exact Or.inr (Or.inr rfl)) rfl ?_ | refine dx_name 4 rfl (by first | exact Or.inl rfl | exact Or.inr (Or.inl rfl) | exact Or.inr (Or.inr rfl)) rfl ?_ | refine dx_name 5 rfl (by first | exact Or.inl rfl | exact Or.inr (Or.inl rfl) | exact Or.inr (Or.inr rfl)) rfl ?_ | refine dx_name 6 rfl (by first | exact Or.inl rfl | exact Or.inr (Or.inl rfl) | exact Or.inr (Or.inr rfl)) rfl ?_ | refine dx_name 7 rfl (by first | exact Or.inl rfl | exact Or.inr (Or.inl rfl) | exact Or.inr (Or.inr rfl)) rfl ?_ | refine dx_name 8 rfl (by first | exact Or.inl rfl | exact Or.inr (Or.inl rfl) | exact Or.inr (Or.inr rfl)) rfl ?_ | refine dx_name 9 rfl (by first | exact Or.inl rfl | exact Or.inr (Or.inl rfl) | exact Or.inr (Or.inr rfl)) rfl ?_ | refine dx_name 10 rfl (by first | exact Or.inl rfl | exact Or.inr (Or.inl rfl) | exact Or.inr (Or.inr rfl)) rfl ?_ | refine dx_name 11 rfl (by first | exact Or.inl rfl | exact Or.inr (Or.inl rfl) | exact Or.inr (Or.inr rfl)) rfl ?_ | refine dx_name 12 rfl (by first | exact Or.inl rfl | exact Or.inr (Or.inl rfl) | exact Or.inr (Or.inr rfl)) rfl ?_ | refine dx_name 13 rfl (by first | exact Or.inl rfl | exact Or.inr (Or.inl rfl) | exact Or.inr (Or.inr rfl)) rfl ?_ | refine dx_name 14 rfl (by first | exact Or.inl rfl | exact Or.inr (Or.inl rfl) | exact Or.inr (Or.inr rfl)) rfl ?_ | refine dx_name 15 rfl (by first | exact Or.inl rfl | exact Or.inr (Or.inl rfl) | exact Or.inr (Or.inr rfl)) rfl ?_ | refine dx_gint rfl (by assumption) ?_)
    | (with_reducible show DE _ _ _ _ _ (.Constant (.int _) _ _) _ _); refine dx_int ?_
    | (with_reducible show DE _ _ _ _ _ (.Constant (.bool _) _ _) _ _); refine dx_bl ?_
    | (with_reducible show DE _ _ _ _ _ (.Constant .none _ _) _ _); refine dx_non ?_
    | (with_reducible show DE _ _ _ _ _ (.Constant (.str _) _ _) _ _); refine dx_str ?_
    | (with_reducible show DE _ _ _ _ _ (.BinOp _ .Add _ _) _ _); refine dx_op od_add ?_
    | (with_reducible show DE _ _ _ _ _ (.BinOp _ .Sub _ _) _ _); refine dx_op od_sub ?_
    | (with_reducible show DE _ _ _ _ _ (.BinOp _ .Mult _ _) _ _); refine dx_op od_mul ?_
    | (with_reducible show DE _ _ _ _ _ (.BinOp _ .FloorDiv _ _) _ _); refine dx_op od_fdiv ?_
    | (with_reducible show DE _ _ _ _ _ (.BinOp _ .Mod _ _) _ _); refine dx_op od_mod ?_
    | (with_reducible show DE _ _ _ _ _ (.BinOp _ .Pow _ _) _ _); refine dx_op od_pow ?_
    | (with_reducible show DE _ _ _ _ _ (.Compare _ [.Eq] _ _) _ _); refine dx_cmp (od_eq (by assumption)) rfl ?_
    | (with_reducible show DE _ _ _ _ _ (.Compare _ [.NotEq] _ _) _ _); refine dx_cmp (od_ne (by assumption)) rfl ?_
    | (with_reducible show DE _ _ _ _ _ (.Compare _ [.Lt] _ _) _ _); refine dx_cmp od_lt rfl ?_
    | (with_reducible show DE _ _ _ _ _ (.Compare _ [.LtE] _ _) _ _); refine dx_cmp od_le rfl ?_
    | (with_reducible show DE _ _ _ _ _ (.Compare _ [.Gt] _ _) _ _); refine dx_cmp od_gt rfl ?_
    | (with_reducible show DE _ _ _ _ _ (.Compare _ [.GtE] _ _) _ _); refine dx_cmp od_ge rfl ?_
    | (with_reducible show DE _ _ _ _ _ (.Compare _ [.Is] _ _) _ _); refine dx_cmp od_is rfl ?_
    | (with_reducible show DE _ _ _ _ _ (.Compare _ [.IsNot] _ _) _ _); refine dx_cmp od_isnot rfl ?_
    | (with_reducible show DE _ _ _ _ _ (.Compare _ [.In] _ _) _ _); refine dx_cmp od_in rfl ?_
    | (with_reducible show DE _ _ _ _ _ (.Compare _ [.NotIn] _ _) _ _); refine dx_cmp od_notin rfl ?_
    | (with_reducible show DE _ _ _ _ _ (.Compare _ [.LtE, .LtE] _ _) _ _); refine dx_chain od_le od_le (by with_unfolding_all rfl) ?_
    | (with_reducible show DE _ _ _ _ _ (.Compare _ [.Lt, .Lt] _ _) _ _); refine dx_chain od_lt od_lt (by with_unfolding_all rfl) ?_
    | (with_reducible show DE _ _ _ _ _ (.Compare _ [.LtE, .Lt] _ _) _ _); refine dx_chain od_le od_lt (by with_unfolding_all rfl) ?_
    | (with_reducible show DE _ _ _ _ _ (.UnaryOp .Not _ _) _ _); refine dx_not ?_
    | (with_reducible show DE _ _ _ _ _ (.UnaryOp .USub _ _) _ _); refine dx_neg ?_
    | (with_reducible show DE _ _ _ _ _ (.BoolOp _ [_] _) _ _); refine dx_one ?_
    | (with_reducible show DE _ _ _ _ _ (.BoolOp .And _ _) _ _); refine dx_and ?_
    | (with_reducible show DE _ _ _ _ _ (.BoolOp .Or _ _) _ _); refine dx_or ?_
    | (with_reducible show DE _ _ _ _ _ (.IfExp _ _ _ _) _ _); refine dx_if ?_
    | (with_reducible show DE _ _ _ _ _ (.Tuple _ _ _) _ _); refine dx_tup ?_
    | (with_reducible show DE _ _ _ _ _ (.Dict [] [] _) _ _); refine dx_dic0 ?_
    | (with_reducible show DE _ _ _ _ _ (.List _ _) _ _); refine dx_lst ?_
    | (with_reducible show DE _ _ _ _ _ (.Call (.Name "isinstance" _) [_, .Name "int" _] _ _) _ _); refine dx_isi "int" rfl (Bt.isinstance (by assumption)) rfl (Bt.int (by assumption)) bb_int ty_int ?_
    | (with_reducible show DE _ _ _ _ _ (.Call (.Name "isinstance" _) [_, .Name "bool" _] _ _) _ _); refine dx_isi "bool" rfl (Bt.isinstance (by assumption)) rfl (Bt.bool (by assumption)) bb_bool ty_bool ?_
    | (with_reducible show DE _ _ _ _ _ (.Call (.Name "isinstance" _) [_, .Name "tuple" _] _ _) _ _); refine dx_isi "tuple" rfl (Bt.isinstance (by assumption)) rfl (Bt.tuple (by assumption)) bb_tuple ty_tuple ?_
    | (with_reducible show DE _ _ _ _ _ (.Call (.Name "isinstance" _) [_, .Name "list" _] _ _) _ _); refine dx_isi "list" rfl (Bt.isinstance (by assumption)) rfl (Bt.list (by assumption)) bb_list ty_list ?_
    | (with_reducible show DE _ _ _ _ _ (.Call (.Name "isinstance" _) [_, .Name "dict" _] _ _) _ _); refine dx_isi "dict" rfl (Bt.isinstance (by assumption)) rfl (Bt.dict (by assumption)) bb_dict ty_dict ?_
    | (with_reducible show DE _ _ _ _ _ (.Call (.Name "isinstance" _) [_, .Name "str" _] _ _) _ _); refine dx_isi "str" rfl (Bt.isinstance (by assumption)) rfl (Bt.str (by assumption)) bb_str ty_str ?_
    | (with_reducible show DE _ _ _ _ _ (.Call (.Name "isinstance" _) [_, .Tuple _ _ _] _ _) _ _); refine dx_isi2 "list" "tuple" rfl (Bt.isinstance (by assumption)) rfl (Bt.list (by assumption)) bb_list rfl (Bt.tuple (by assumption)) bb_tuple ty_list ty_tuple ?_
    | (with_reducible show DE _ _ _ _ _ (.Call (.Name "len" _) [.Call (.Name "set" _) _ _ _] _ _) _ _); refine dx_lenSet rfl rfl (Bt.len (by assumption)) rfl (Bt.set (by assumption)) ?_
    | (with_reducible show DE _ _ _ _ _ (.Call (.Name "len" _) _ _ _) _ _); refine dx_blt cd_len rfl (Bt.len (by assumption)) bb_len ?_
    | (with_reducible show DE _ _ _ _ _ (.Call (.Name "abs" _) _ _ _) _ _); refine dx_blt cd_abs rfl (Bt.abs (by assumption)) bb_abs ?_
    | (with_reducible show DE _ _ _ _ _ (.Call (.Name "all" _) _ _ _) _ _); refine dx_blt (cd_all rfl) rfl (Bt.all (by assumption)) bb_all ?_
    | (with_reducible show DE _ _ _ _ _ (.Call (.Name "min" _) _ _ _) _ _); refine dx_blt (cd_min rfl) rfl (Bt.min (by assumption)) bb_min ?_
    | (with_reducible show DE _ _ _ _ _ (.Call (.Name "max" _) _ _ _) _ _); refine dx_blt (cd_max rfl) rfl (Bt.max (by assumption)) bb_max ?_
    | (with_reducible show DE _ _ _ _ _ (.Call (.Name "int" _) _ _ _) _ _); refine dx_ty cd_int rfl (Bt.int (by assumption)) bb_int ?_
    | (with_reducible show DE _ _ _ _ _ (.Call (.Name "list" _) _ _ _) _ _); refine dx_ty cd_list rfl (Bt.list (by assumption)) bb_list ?_
    | (with_reducible show DE _ _ _ _ _ (.Call (.Name "tuple" _) _ _ _) _ _); refine dx_ty cd_tuple rfl (Bt.tuple (by assumption)) bb_tuple ?_
    | (with_reducible show DE _ _ _ _ _ (.Call (.Name "dict" _) _ _ _) _ _); refine dx_ty (cd_dictP rfl) rfl (Bt.dict (by assumption)) bb_dict ?_
    | (with_reducible show DE _ _ _ _ _ (.Subscript (.Name _ _) (.Constant (.str _) _ _) _) _ _); refine dx_dget (j := 0) (by assumption) (by first | exact Or.inl rfl | exact Or.inr rfl) rfl (by first | exact Or.inl rfl | exact Or.inr (Or.inl rfl)) rfl (fun _ => ?_)
    | (with_reducible show DE _ _ _ _ _ (.Subscript _ (.Slice _ _ _ _) _) _ _); refine dx_slice ?_
    | (with_reducible show DE _ _ _ _ _ (.Subscript _ _ _) _ _); refine dx_ix (fun _ _ => rfl) ?_
    | (with_reducible show DE _ _ _ _ _ (.ListComp _ [⟨.Name _ _, _, [], _⟩] _ _) _ _); (first | refine dx_lcN 0 rfl (by assumption) rfl rfl rfl (fun _ _ _ _ _ => by first | exact ⟨Or.inl rfl, Or.inr rfl⟩ | exact ⟨Or.inr rfl, Or.inl rfl⟩ | exact ⟨Or.inl rfl, Or.inl rfl⟩) ?_ | refine dx_lcN 1 rfl (by assumption) rfl rfl rfl (fun _ _ _ _ _ => by first | exact ⟨Or.inl rfl, Or.inr rfl⟩ | exact ⟨Or.inr rfl, Or.inl rfl⟩ | exact ⟨Or.inl rfl, Or.inl rfl⟩) ?_ | refine dx_lcN 2 rfl (by assumption) rfl rfl rfl (fun _ _ _ _ _ => by first | exact ⟨Or.inl rfl, Or.inr rfl⟩ | exact ⟨Or.inr rfl, Or.inl rfl⟩ | exact ⟨Or.inl rfl, Or.inl rfl⟩) ?_ | refine dx_lcN 3 rfl (by assumption) rfl rfl rfl (fun _ _ _ _ _ => by first | exact ⟨Or.inl rfl, Or.inr rfl⟩ | exact ⟨Or.inr rfl, Or.inl rfl⟩ | exact ⟨Or.inl rfl, Or.inl rfl⟩) ?_ | refine dx_lcN 4 rfl (by assumption) rfl rfl rfl (fun _ _ _ _ _ => by first | exact ⟨Or.inl rfl, Or.inr rfl⟩ | exact ⟨Or.inr rfl, Or.inl rfl⟩ | exact ⟨Or.inl rfl, Or.inl rfl⟩) ?_ | refine dx_lcN 5 rfl (by assumption) rfl rfl rfl (fun _ _ _ _ _ => by first | exact ⟨Or.inl rfl, Or.inr rfl⟩ | exact ⟨Or.inr rfl, Or.inl rfl⟩ | exact ⟨Or.inl rfl, Or.inl rfl⟩) ?_ | refine dx_lcN 6 rfl (by assumption) rfl rfl rfl (fun _ _ _ _ _ => by first | exact ⟨Or.inl rfl, Or.inr rfl⟩ | exact ⟨Or.inr rfl, Or.inl rfl⟩ | exact ⟨Or.inl rfl, Or.inl rfl⟩) ?_ | refine dx_lcN 7 rfl (by assumption) rfl rfl rfl (fun _ _ _ _ _ => by first | exact ⟨Or.inl rfl, Or.inr rfl⟩ | exact ⟨Or.inr rfl, Or.inl rfl⟩ | exact ⟨Or.inl rfl, Or.inl rfl⟩) ?_ | refine dx_lcN 8 rfl (by assumption) rfl rfl rfl (fun _ _ _ _ _ => by first | exact ⟨Or.inl rfl, Or.inr rfl⟩ | exact ⟨Or.inr rfl, Or.inl rfl⟩ | exact ⟨Or.inl rfl, Or.inl rfl⟩) ?_ | refine dx_lcN 9 rfl (by assumption) rfl rfl rfl (fun _ _ _ _ _ => by first | exact ⟨Or.inl rfl, Or.inr rfl⟩ | exact ⟨Or.inr rfl, Or.inl rfl⟩ | exact ⟨Or.inl rfl, Or.inl rfl⟩) ?_)
    | (with_reducible show DE _ _ _ _ _ (.ListComp _ [⟨.Name _ _, _, [_], _⟩] _ _) _ _); (first | refine dx_lcNIf 0 rfl (by assumption) rfl rfl rfl (fun _ _ _ _ _ => by first | exact ⟨Or.inl rfl, Or.inr rfl⟩ | exact ⟨Or.inr rfl, Or.inl rfl⟩ | exact ⟨Or.inl rfl, Or.inl rfl⟩) ?_ | refine dx_lcNIf 1 rfl (by assumption) rfl rfl rfl (fun _ _ _ _ _ => by first | exact ⟨Or.inl rfl, Or.inr rfl⟩ | exact ⟨Or.inr rfl, Or.inl rfl⟩ | exact ⟨Or.inl rfl, Or.inl rfl⟩) ?_ | refine dx_lcNIf 2 rfl (by assumption) rfl rfl rfl (fun _ _ _ _ _ => by first | exact ⟨Or.inl rfl, Or.inr rfl⟩ | exact ⟨Or.inr rfl, Or.inl rfl⟩ | exact ⟨Or.inl rfl, Or.inl rfl⟩) ?_ | refine dx_lcNIf 3 rfl (by assumption) rfl rfl rfl (fun _ _ _ _ _ => by first | exact ⟨Or.inl rfl, Or.inr rfl⟩ | exact ⟨Or.inr rfl, Or.inl rfl⟩ | exact ⟨Or.inl rfl, Or.inl rfl⟩) ?_ | refine dx_lcNIf 4 rfl (by assumption) rfl rfl rfl (fun _ _ _ _ _ => by first | exact ⟨Or.inl rfl, Or.inr rfl⟩ | exact ⟨Or.inr rfl, Or.inl rfl⟩ | exact ⟨Or.inl rfl, Or.inl rfl⟩) ?_ | refine dx_lcNIf 5 rfl (by assumption) rfl rfl rfl (fun _ _ _ _ _ => by first | exact ⟨Or.inl rfl, Or.inr rfl⟩ | exact ⟨Or.inr rfl, Or.inl rfl⟩ | exact ⟨Or.inl rfl, Or.inl rfl⟩) ?_ | refine dx_lcNIf 6 rfl (by assumption) rfl rfl rfl (fun _ _ _ _ _ => by first | exact ⟨Or.inl rfl, Or.inr rfl⟩ | exact ⟨Or.inr rfl, Or.inl rfl⟩ | exact ⟨Or.inl rfl, Or.inl rfl⟩) ?_ | refine dx_lcNIf 7 rfl (by assumption) rfl rfl rfl (fun _ _ _ _ _ => by first | exact ⟨Or.inl rfl, Or.inr rfl⟩ | exact ⟨Or.inr rfl, Or.inl rfl⟩ | exact ⟨Or.inl rfl, Or.inl rfl⟩) ?_ | refine dx_lcNIf 8 rfl (by assumption) rfl rfl rfl (fun _ _ _ _ _ => by first | exact ⟨Or.inl rfl, Or.inr rfl⟩ | exact ⟨Or.inr rfl, Or.inl rfl⟩ | exact ⟨Or.inl rfl, Or.inl rfl⟩) ?_ | refine dx_lcNIf 9 rfl (by assumption) rfl rfl rfl (fun _ _ _ _ _ => by first | exact ⟨Or.inl rfl, Or.inr rfl⟩ | exact ⟨Or.inr rfl, Or.inl rfl⟩ | exact ⟨Or.inl rfl, Or.inl rfl⟩) ?_)
    | (with_reducible show DE _ _ _ _ _ (.ListComp _ [⟨.Tuple _ _ _, _, [], _⟩] _ _) _ _); (first | refine dx_lcP 0 1 rfl (by assumption) rfl rfl rfl rfl (fun _ _ _ _ _ => by first | exact ⟨⟨Or.inl rfl, Or.inr rfl⟩, ⟨Or.inl rfl, Or.inr rfl⟩⟩ | exact ⟨⟨Or.inr rfl, Or.inl rfl⟩, ⟨Or.inr rfl, Or.inl rfl⟩⟩ | exact ⟨⟨Or.inl rfl, Or.inl rfl⟩, ⟨Or.inl rfl, Or.inl rfl⟩⟩) ?_ | refine dx_lcP 1 2 rfl (by assumption) rfl rfl rfl rfl (fun _ _ _ _ _ => by first | exact ⟨⟨Or.inl rfl, Or.inr rfl⟩, ⟨Or.inl rfl, Or.inr rfl⟩⟩ | exact ⟨⟨Or.inr rfl, Or.inl rfl⟩, ⟨Or.inr rfl, Or.inl rfl⟩⟩ | exact ⟨⟨Or.inl rfl, Or.inl rfl⟩, ⟨Or.inl rfl, Or.inl rfl⟩⟩) ?_ | refine dx_lcP 1 0 rfl (by assumption) rfl rfl rfl rfl (fun _ _ _ _ _ => by first | exact ⟨⟨Or.inl rfl, Or.inr rfl⟩, ⟨Or.inl rfl, Or.inr rfl⟩⟩ | exact ⟨⟨Or.inr rfl, Or.inl rfl⟩, ⟨Or.inr rfl, Or.inl rfl⟩⟩ | exact ⟨⟨Or.inl rfl, Or.inl rfl⟩, ⟨Or.inl rfl, Or.inl rfl⟩⟩) ?_ | refine dx_lcP 2 3 rfl (by assumption) rfl rfl rfl rfl (fun _ _ _ _ _ => by first | exact ⟨⟨Or.inl rfl, Or.inr rfl⟩, ⟨Or.inl rfl, Or.inr rfl⟩⟩ | exact ⟨⟨Or.inr rfl, Or.inl rfl⟩, ⟨Or.inr rfl, Or.inl rfl⟩⟩ | exact ⟨⟨Or.inl rfl, Or.inl rfl⟩, ⟨Or.inl rfl, Or.inl rfl⟩⟩) ?_ | refine dx_lcP 2 1 rfl (by assumption) rfl rfl rfl rfl (fun _ _ _ _ _ => by first | exact ⟨⟨Or.inl rfl, Or.inr rfl⟩, ⟨Or.inl rfl, Or.inr rfl⟩⟩ | exact ⟨⟨Or.inr rfl, Or.inl rfl⟩, ⟨Or.inr rfl, Or.inl rfl⟩⟩ | exact ⟨⟨Or.inl rfl, Or.inl rfl⟩, ⟨Or.inl rfl, Or.inl rfl⟩⟩) ?_ | refine dx_lcP 3 4 rfl (by assumption) rfl rfl rfl rfl (fun _ _ _ _ _ => by first | exact ⟨⟨Or.inl rfl, Or.inr rfl⟩, ⟨Or.inl rfl, Or.inr rfl⟩⟩ | exact ⟨⟨Or.inr rfl, Or.inl rfl⟩, ⟨Or.inr rfl, Or.inl rfl⟩⟩ | exact ⟨⟨Or.inl rfl, Or.inl rfl⟩, ⟨Or.inl rfl, Or.inl rfl⟩⟩) ?_ | refine dx_lcP 3 2 rfl (by assumption) rfl rfl rfl rfl (fun _ _ _ _ _ => by first | exact ⟨⟨Or.inl rfl, Or.inr rfl⟩, ⟨Or.inl rfl, Or.inr rfl⟩⟩ | exact ⟨⟨Or.inr rfl, Or.inl rfl⟩, ⟨Or.inr rfl, Or.inl rfl⟩⟩ | exact ⟨⟨Or.inl rfl, Or.inl rfl⟩, ⟨Or.inl rfl, Or.inl rfl⟩⟩) ?_ | refine dx_lcP 4 5 rfl (by assumption) rfl rfl rfl rfl (fun _ _ _ _ _ => by first | exact ⟨⟨Or.inl rfl, Or.inr rfl⟩, ⟨Or.inl rfl, Or.inr rfl⟩⟩ | exact ⟨⟨Or.inr rfl, Or.inl rfl⟩, ⟨Or.inr rfl, Or.inl rfl⟩⟩ | exact ⟨⟨Or.inl rfl, Or.inl rfl⟩, ⟨Or.inl rfl, Or.inl rfl⟩⟩) ?_ | refine dx_lcP 4 3 rfl (by assumption) rfl rfl rfl rfl (fun _ _ _ _ _ => by first | exact ⟨⟨Or.inl rfl, Or.inr rfl⟩, ⟨Or.inl rfl, Or.inr rfl⟩⟩ | exact ⟨⟨Or.inr rfl, Or.inl rfl⟩, ⟨Or.inr rfl, Or.inl rfl⟩⟩ | exact ⟨⟨Or.inl rfl, Or.inl rfl⟩, ⟨Or.inl rfl, Or.inl rfl⟩⟩) ?_ | refine dx_lcP 5 6 rfl (by assumption) rfl rfl rfl rfl (fun _ _ _ _ _ => by first | exact ⟨⟨Or.inl rfl, Or.inr rfl⟩, ⟨Or.inl rfl, Or.inr rfl⟩⟩ | exact ⟨⟨Or.inr rfl, Or.inl rfl⟩, ⟨Or.inr rfl, Or.inl rfl⟩⟩ | exact ⟨⟨Or.inl rfl, Or.inl rfl⟩, ⟨Or.inl rfl, Or.inl rfl⟩⟩) ?_ | refine dx_lcP 5 4 rfl (by assumption) rfl rfl rfl rfl (fun _ _ _ _ _ => by first | exact ⟨⟨Or.inl rfl, Or.inr rfl⟩, ⟨Or.inl rfl, Or.inr rfl⟩⟩ | exact ⟨⟨Or.inr rfl, Or.inl rfl⟩, ⟨Or.inr rfl, Or.inl rfl⟩⟩ | exact ⟨⟨Or.inl rfl, Or.inl rfl⟩, ⟨Or.inl rfl, Or.inl rfl⟩⟩) ?_ | refine dx_lcP 6 7 rfl (by assumption) rfl rfl rfl rfl (fun _ _ _ _ _ => by first | exact ⟨⟨Or.inl rfl, Or.inr rfl⟩, ⟨Or.inl rfl, Or.inr rfl⟩⟩ | exact ⟨⟨Or.inr rfl, Or.inl rfl⟩, ⟨Or.inr rfl, Or.inl rfl⟩⟩ | exact ⟨⟨Or.inl rfl, Or.inl rfl⟩, ⟨Or.inl rfl, Or.inl rfl⟩⟩) ?_ | refine dx_lcP 6 5 rfl (by assumption) rfl rfl rfl rfl (fun _ _ _ _ _ => by first | exact ⟨⟨Or.inl rfl, Or.inr rfl⟩, ⟨Or.inl rfl, Or.inr rfl⟩⟩ | exact ⟨⟨Or.inr rfl, Or.inl rfl⟩, ⟨Or.inr rfl, Or.inl rfl⟩⟩ | exact ⟨⟨Or.inl rfl, Or.inl rfl⟩, ⟨Or.inl rfl, Or.inl rfl⟩⟩) ?_ | refine dx_lcP 7 8 rfl (by assumption) rfl rfl rfl rfl (fun _ _ _ _ _ => by first | exact ⟨⟨Or.inl rfl, Or.inr rfl⟩, ⟨Or.inl rfl, Or.inr rfl⟩⟩ | exact ⟨⟨Or.inr rfl, Or.inl rfl⟩, ⟨Or.inr rfl, Or.inl rfl⟩⟩ | exact ⟨⟨Or.inl rfl, Or.inl rfl⟩, ⟨Or.inl rfl, Or.inl rfl⟩⟩) ?_ | refine dx_lcP 7 6 rfl (by assumption) rfl rfl rfl rfl (fun _ _ _ _ _ => by first | exact ⟨⟨Or.inl rfl, Or.inr rfl⟩, ⟨Or.inl rfl, Or.inr rfl⟩⟩ | exact ⟨⟨Or.inr rfl, Or.inl rfl⟩, ⟨Or.inr rfl, Or.inl rfl⟩⟩ | exact ⟨⟨Or.inl rfl, Or.inl rfl⟩, ⟨Or.inl rfl, Or.inl rfl⟩⟩) ?_)
    | (with_reducible show DE _ _ _ _ _ (.Call (.Name "gcd" _) _ _ _) _ _); refine dx_bfun cd_gcd rfl (by assumption) ?_
    | (with_reducible show DE _ _ _ _ _ (.Call (.Name _ _) _ _ _) _ _); refine dx_call (by assumption) (by assumption) (by first | assumption | exact takes_wx0) rfl ?_)
  | (with_reducible show DT _ _ _ _ _ _ _ _); (first
    | (with_reducible show DT _ _ _ _ _ (.Compare (.Name "units" _) [.NotEq] _ _) _ _); refine dt_cmpW (od_neO (by assumption) (by assumption) (by assumption) (by assumption)) rfl ?_
    | (with_reducible show DT _ _ _ _ _ (.Compare (.Name "units" _) [.Eq] _ _) _ _); refine dt_cmpW (od_eqO (by assumption) (by assumption) (by assumption)) rfl ?_
    | (with_reducible show DT _ _ _ _ _ (.Compare _ [.Eq] _ _) _ _); refine dt_cmp (od_eq (by assumption)) rfl ?_
    | (with_reducible show DT _ _ _ _ _ (.Compare _ [.NotEq] _ _) _ _); refine dt_cmp (od_ne (by assumption)) rfl ?_
    | (with_reducible show DT _ _ _ _ _ (.Compare _ [.Lt] _ _) _ _); refine dt_cmp od_lt rfl ?_
    | (with_reducible show DT _ _ _ _ _ (.Compare _ [.LtE] _ _) _ _); refine dt_cmp od_le rfl ?_
    | (with_reducible show DT _ _ _ _ _ (.Compare _ [.Gt] _ _) _ _); refine dt_cmp od_gt rfl ?_
    | (with_reducible show DT _ _ _ _ _ (.Compare _ [.GtE] _ _) _ _); refine dt_cmp od_ge rfl ?_
    | (with_reducible show DT _ _ _ _ _ (.Compare _ [.Is] _ _) _ _); refine dt_cmp od_is rfl ?_
    | (with_reducible show DT _ _ _ _ _ (.Compare _ [.IsNot] _ _) _ _); refine dt_cmp od_isnot rfl ?_
    | (with_reducible show DT _ _ _ _ _ (.Compare _ [.In] _ _) _ _); refine dt_cmp od_in rfl ?_
    | (with_reducible show DT _ _ _ _ _ (.Compare _ [.NotIn] _ _) _ _); refine dt_cmp od_notin rfl ?_
    | (with_reducible show DT _ _ _ _ _ (.Compare _ [.LtE, .LtE] _ _) _ _); refine dt_chain od_le od_le (by with_unfolding_all rfl) ?_
    | (with_reducible show DT _ _ _ _ _ (.Compare _ [.Lt, .Lt] _ _) _ _); refine dt_chain od_lt od_lt (by with_unfolding_all rfl) ?_
    | (with_reducible show DT _ _ _ _ _ (.Compare _ [.LtE, .Lt] _ _) _ _); refine dt_chain od_le od_lt (by with_unfolding_all rfl) ?_
    | (with_reducible show DT _ _ _ _ _ (.UnaryOp .Not _ _) _ _); refine dt_not ?_
    | (with_reducible show DT _ _ _ _ _ (.BoolOp .And _ _) _ _); refine dt_w (dw_and ?_)
    | (with_reducible show DT _ _ _ _ _ (.BoolOp .Or _ _) _ _); refine dt_w (dw_or ?_)
    | (with_reducible show DT _ _ _ _ _ _ _ _); refine dt_val (fun _ => rfl) ?_)
  | (with_reducible show DW _ _ _ _ _ _ _ _); (first
    | (with_reducible show DW _ _ _ _ _ (.BoolOp .And [_] _) _ _); refine dw_and1 ?_
    | (with_reducible show DW _ _ _ _ _ (.BoolOp .Or [_] _) _ _); refine dw_or1 ?_
    | (with_reducible show DW _ _ _ _ _ (.BoolOp .And _ _) _ _); refine dw_and ?_
    | (with_reducible show DW _ _ _ _ _ (.BoolOp .Or _ _) _ _); refine dw_or ?_)
  | (with_reducible show DA _ _ _ _ _ _ _ _); (first
    | (with_reducible show DA _ _ _ _ _ [] _ _); refine da_nil ?_
    | (with_reducible show DA _ _ _ _ _ _ _ _); refine da_cons ?_)
  | (with_reducible show DP _ _ _ _ _ _ _ _); (first
    | (with_reducible show DP _ _ _ _ _ none _ _); refine dp_none ?_
    | (with_reducible show DP _ _ _ _ _ _ _ _); refine dp_some ?_)
  | (with_reducible show DI _ _ _ _ _ _ _ _ _); (first
    | (with_reducible show DI _ _ _ _ _ _ (.Call (.Name "range" _) [_] _ _) _ _); refine di_range1 rfl (Bt.range (by assumption)) ?_
    | (with_reducible show DI _ _ _ _ _ _ (.Call (.Name "range" _) _ _ _) _ _); refine di_range2 rfl (Bt.range (by assumption)) ?_
    | (with_reducible show DI _ _ _ _ _ _ (.Call (.Name "zip" _) _ _ _) _ _); refine di_zip rfl (Bt.zip (by assumption)) ?_
    | (with_reducible show DI _ _ _ _ _ _ (.Call (.Name "enumerate" _) _ _ _) _ _); refine di_enum rfl (Bt.enumerate (by assumption)) ?_
    | (with_reducible show DI _ _ _ _ _ _ _ _ _); refine di_seq ?_)
  | (with_reducible show DSs _ _ _ _ _ (.If (.Compare (.Name "errors" _) _ _ _) _ _ _ :: _) _ _); (first | refine dss_give 0 rfl ?_ | refine dss_give 1 rfl ?_ | refine dss_give 2 rfl ?_ | refine dss_give 3 rfl ?_ | refine dss_give 4 rfl ?_ | refine dss_give 5 rfl ?_ | refine dss_give 6 rfl ?_ | refine dss_give 7 rfl ?_ | refine dss_give 8 rfl ?_ | refine dss_give 9 rfl ?_ | refine dss_give 10 rfl ?_ | refine dss_give 11 rfl ?_ | refine dss_give 12 rfl ?_ | refine dss_give 13 rfl ?_ | refine dss_give 14 rfl ?_ | refine dss_give 15 rfl ?_)
  | (with_reducible show DSs _ _ _ _ _ (.Return (some (.Compare (.Name "errors" _) _ _ _)) _ :: _) _ _); (first | refine dss_give 0 rfl ?_ | refine dss_give 1 rfl ?_ | refine dss_give 2 rfl ?_ | refine dss_give 3 rfl ?_ | refine dss_give 4 rfl ?_ | refine dss_give 5 rfl ?_ | refine dss_give 6 rfl ?_ | refine dss_give 7 rfl ?_ | refine dss_give 8 rfl ?_ | refine dss_give 9 rfl ?_ | refine dss_give 10 rfl ?_ | refine dss_give 11 rfl ?_ | refine dss_give 12 rfl ?_ | refine dss_give 13 rfl ?_ | refine dss_give 14 rfl ?_ | refine dss_give 15 rfl ?_)
  | (with_reducible show DS _ _ _ _ _ (.Assign [.Name "errors" _] (.List _ _) _) _ _); (first | refine ds_setF 0 (by assumption) rfl (by first | exact Or.inl rfl | exact Or.inr rfl) (df_lst ?_) | refine ds_setF 1 (by assumption) rfl (by first | exact Or.inl rfl | exact Or.inr rfl) (df_lst ?_) | refine ds_setF 2 (by assumption) rfl (by first | exact Or.inl rfl | exact Or.inr rfl) (df_lst ?_) | refine ds_setF 3 (by assumption) rfl (by first | exact Or.inl rfl | exact Or.inr rfl) (df_lst ?_) | refine ds_setF 4 (by assumption) rfl (by first | exact Or.inl rfl | exact Or.inr rfl) (df_lst ?_) | refine ds_setF 5 (by assumption) rfl (by first | exact Or.inl rfl | exact Or.inr rfl) (df_lst ?_) | refine ds_setF 6 (by assumption) rfl (by first | exact Or.inl rfl | exact Or.inr rfl) (df_lst ?_) | refine ds_setF 7 (by assumption) rfl (by first | exact Or.inl rfl | exact Or.inr rfl) (df_lst ?_) | refine ds_setF 8 (by assumption) rfl (by first | exact Or.inl rfl | exact Or.inr rfl) (df_lst ?_) | refine ds_setF 9 (by assumption) rfl (by first | exact Or.inl rfl | exact Or.inr rfl) (df_lst ?_) | refine ds_setF 10 (by assumption) rfl (by first | exact Or.inl rfl | exact Or.inr rfl) (df_lst ?_) | refine ds_setF 11 (by assumption) rfl (by first | exact Or.inl rfl | exact Or.inr rfl) (df_lst ?_) | refine ds_setF 12 (by assumption) rfl (by first | exact Or.inl rfl | exact Or.inr rfl) (df_lst ?_) | refine ds_setF 13 (by assumption) rfl (by first | exact Or.inl rfl | exact Or.inr rfl) (df_lst ?_) | refine ds_setF 14 (by assumption) rfl (by first | exact Or.inl rfl | exact Or.inr rfl) (df_lst ?_) | refine ds_setF 15 (by assumption) rfl (by first | exact Or.inl rfl | exact Or.inr rfl) (df_lst ?_))
  | (with_reducible show DS _ _ _ _ _ (.Expr (.Call (.Attribute (.Name "errors" _) _ _) _ _ _) _) _ _); (first | refine ds_append 0 rfl (by first | exact Or.inl rfl | exact Or.inr (Or.inl rfl)) rfl (Nat.le_of_ble_eq_true rfl) ?_ | refine ds_append 1 rfl (by first | exact Or.inl rfl | exact Or.inr (Or.inl rfl)) rfl (Nat.le_of_ble_eq_true rfl) ?_ | refine ds_append 2 rfl (by first | exact Or.inl rfl | exact Or.inr (Or.inl rfl)) rfl (Nat.le_of_ble_eq_true rfl) ?_ | refine ds_append 3 rfl (by first | exact Or.inl rfl | exact Or.inr (Or.inl rfl)) rfl (Nat.le_of_ble_eq_true rfl) ?_ | refine ds_append 4 rfl (by first | exact Or.inl rfl | exact Or.inr (Or.inl rfl)) rfl (Nat.le_of_ble_eq_true rfl) ?_ | refine ds_append 5 rfl (by first | exact Or.inl rfl | exact Or.inr (Or.inl rfl)) rfl (Nat.le_of_ble_eq_true rfl) ?_ | refine ds_append 6 rfl (by first | exact Or.inl rfl | exact Or.inr (Or.inl rfl)) rfl (Nat.le_of_ble_eq_true rfl) ?_ | refine ds_append 7 rfl (by first | exact Or.inl rfl | exact Or.inr (Or.inl rfl)) rfl (Nat.le_of_ble_eq_true rfl) ?_ | refine ds_append 8 rfl (by first | exact Or.inl rfl | exact Or.inr (Or.inl rfl)) rfl (Nat.le_of_ble_eq_true rfl) ?_ | refine ds_append 9 rfl (by first | exact Or.inl rfl | exact Or.inr (Or.inl rfl)) rfl (Nat.le_of_ble_eq_true rfl) ?_ | refine ds_append 10 rfl (by first | exact Or.inl rfl | exact Or.inr (Or.inl rfl)) rfl (Nat.le_of_ble_eq_true rfl) ?_ | refine ds_append 11 rfl (by first | exact Or.inl rfl | exact Or.inr (Or.inl rfl)) rfl (Nat.le_of_ble_eq_true rfl) ?_ | refine ds_append 12 rfl (by first | exact Or.inl rfl | exact Or.inr (Or.inl rfl)) rfl (Nat.le_of_ble_eq_true rfl) ?_ | refine ds_append 13 rfl (by first | exact Or.inl rfl | exact Or.inr (Or.inl rfl)) rfl (Nat.le_of_ble_eq_true rfl) ?_ | refine ds_append 14 rfl (by first | exact Or.inl rfl | exact Or.inr (Or.inl rfl)) rfl (Nat.le_of_ble_eq_true rfl) ?_ | refine ds_append 15 rfl (by first | exact Or.inl rfl | exact Or.inr (Or.inl rfl)) rfl (Nat.le_of_ble_eq_true rfl) ?_)
  | (with_reducible show DSs _ _ _ _ _ [] _ _); refine ds_nil ?_
  | (with_reducible show DSs _ _ _ _ _ _ _ _); refine ds_cons ?_
  | (with_reducible show DS _ _ _ _ _ (.Return none _) _ _); refine ds_retN ?_
  | (with_reducible show DS _ _ _ _ _ (.Return _ _) _ _); refine ds_ret ?_
  | (with_reducible show DS _ _ _ _ _ (.If _ _ _ _) _ _); refine ds_if ?_
  | (with_reducible show DS _ _ _ _ _ (.Pass _) _ _); refine ds_pass ?_
  | (with_reducible show DS _ _ _ _ _ (.Expr (.Call (.Name _ _) _ _ _) _) _ _); refine ds_expr ?_
  | (with_reducible show DS _ _ _ _ _ (.Assign [.Name _ _] _ _) _ _); (first | refine ds_set 0 (by assumption) rfl (by first | exact Or.inl rfl | exact Or.inr rfl) ?_ | refine ds_set 1 (by assumption) rfl (by first | exact Or.inl rfl | exact Or.inr rfl) ?_ | refine ds_set 2 (by assumption) rfl (by first | exact Or.inl rfl | exact Or.inr rfl) ?_ | refine ds_set 3 (by assumption) rfl (by first | exact Or.inl rfl | exact Or.inr rfl) ?_ | refine ds_set 4 (by assumption) rfl (by first | exact Or.inl rfl | exact Or.inr rfl) ?_ | refine ds_set 5 (by assumption) rfl (by first | exact Or.inl rfl | exact Or.inr rfl) ?_ | refine ds_set 6 (by assumption) rfl (by first | exact Or.inl rfl | exact Or.inr rfl) ?_ | refine ds_set 7 (by assumption) rfl (by first | exact Or.inl rfl | exact Or.inr rfl) ?_ | refine ds_set 8 (by assumption) rfl (by first | exact Or.inl rfl | exact Or.inr rfl) ?_ | refine ds_set 9 (by assumption) rfl (by first | exact Or.inl rfl | exact Or.inr rfl) ?_ | refine ds_set 10 (by assumption) rfl (by first | exact Or.inl rfl | exact Or.inr rfl) ?_ | refine ds_set 11 (by assumption) rfl (by first | exact Or.inl rfl | exact Or.inr rfl) ?_ | refine ds_set 12 (by assumption) rfl (by first | exact Or.inl rfl | exact Or.inr rfl) ?_ | refine ds_set 13 (by assumption) rfl (by first | exact Or.inl rfl | exact Or.inr rfl) ?_)
  | (with_reducible show DS _ _ _ _ _ (.Assign [.Tuple [.Name _ _, .Name _ _] _ _] (.Tuple [_, _] _ _) _) _ _); (first | refine ds_par2 0 1 rfl (by assumption) rfl rfl (by decide) rfl rfl rfl ?_ | refine ds_par2 0 2 rfl (by assumption) rfl rfl (by decide) rfl rfl rfl ?_ | refine ds_par2 1 0 rfl (by assumption) rfl rfl (by decide) rfl rfl rfl ?_ | refine ds_par2 1 2 rfl (by assumption) rfl rfl (by decide) rfl rfl rfl ?_ | refine ds_par2 1 3 rfl (by assumption) rfl rfl (by decide) rfl rfl rfl ?_ | refine ds_par2 2 0 rfl (by assumption) rfl rfl (by decide) rfl rfl rfl ?_ | refine ds_par2 2 1 rfl (by assumption) rfl rfl (by decide) rfl rfl rfl ?_ | refine ds_par2 2 3 rfl (by assumption) rfl rfl (by decide) rfl rfl rfl ?_ | refine ds_par2 2 4 rfl (by assumption) rfl rfl (by decide) rfl rfl rfl ?_ | refine ds_par2 3 1 rfl (by assumption) rfl rfl (by decide) rfl rfl rfl ?_ | refine ds_par2 3 2 rfl (by assumption) rfl rfl (by decide) rfl rfl rfl ?_ | refine ds_par2 3 4 rfl (by assumption) rfl rfl (by decide) rfl rfl rfl ?_ | refine ds_par2 3 5 rfl (by assumption) rfl rfl (by decide) rfl rfl rfl ?_ | refine ds_par2 4 2 rfl (by assumption) rfl rfl (by decide) rfl rfl rfl ?_ | refine ds_par2 4 3 rfl (by assumption) rfl rfl (by decide) rfl rfl rfl ?_ | refine ds_par2 4 5 rfl (by assumption) rfl rfl (by decide) rfl rfl rfl ?_ | refine ds_par2 4 6 rfl (by assumption) rfl rfl (by decide) rfl rfl rfl ?_ | refine ds_par2 5 3 rfl (by assumption) rfl rfl (by decide) rfl rfl rfl ?_ | refine ds_par2 5 4 rfl (by assumption) rfl rfl (by decide) rfl rfl rfl ?_ | refine ds_par2 5 6 rfl (by assumption) rfl rfl (by decide) rfl rfl rfl ?_ | refine ds_par2 5 7 rfl (by assumption) rfl rfl (by decide) rfl rfl rfl ?_ | refine ds_par2 6 4 rfl (by assumption) rfl rfl (by decide) rfl rfl rfl ?_ | refine ds_par2 6 5 rfl (by assumption) rfl rfl (by decide) rfl rfl rfl ?_ | refine ds_par2 6 7 rfl (by assumption) rfl rfl (by decide) rfl rfl rfl ?_ | refine ds_par2 6 8 rfl (by assumption) rfl rfl (by decide) rfl rfl rfl ?_ | refine ds_par2 7 5 rfl (by assumption) rfl rfl (by decide) rfl rfl rfl ?_ | refine ds_par2 7 6 rfl (by assumption) rfl rfl (by decide) rfl rfl rfl ?_ | refine ds_par2 7 8 rfl (by assumption) rfl rfl (by decide) rfl rfl rfl ?_ | refine ds_par2 7 9 rfl (by assumption) rfl rfl (by decide) rfl rfl rfl ?_ | refine ds_par2 8 6 rfl (by assumption) rfl rfl (by decide) rfl rfl rfl ?_ | refine ds_par2 8 7 rfl (by assumption) rfl rfl (by decide) rfl rfl rfl ?_ | refine ds_par2 8 9 rfl (by assumption) rfl rfl (by decide) rfl rfl rfl ?_ | refine ds_par2 9 7 rfl (by assumption) rfl rfl (by decide) rfl rfl rfl ?_ | refine ds_par2 9 8 rfl (by assumption) rfl rfl (by decide) rfl rfl rfl ?_)
  | (with_reducible show DS _ _ _ _ _ (.Assign [.Tuple [.Name _ _, .Name _ _, .Name _ _] _ _] (.Tuple [_, _, _] _ _) _) _ _); (first | refine ds_par3 0 1 2 rfl (by assumption) rfl rfl rfl (by decide) (by decide) (by decide) rfl rfl rfl rfl ?_ | refine ds_par3 1 2 3 rfl (by assumption) rfl rfl rfl (by decide) (by decide) (by decide) rfl rfl rfl rfl ?_ | refine ds_par3 2 3 4 rfl (by assumption) rfl rfl rfl (by decide) (by decide) (by decide) rfl rfl rfl rfl ?_ | refine ds_par3 3 4 5 rfl (by assumption) rfl rfl rfl (by decide) (by decide) (by decide) rfl rfl rfl rfl ?_ | refine ds_par3 4 5 6 rfl (by assumption) rfl rfl rfl (by decide) (by decide) (by decide) rfl rfl rfl rfl ?_ | refine ds_par3 5 6 7 rfl (by assumption) rfl rfl rfl (by decide) (by decide) (by decide) rfl rfl rfl rfl ?_ | refine ds_par3 6 7 8 rfl (by assumption) rfl rfl rfl (by decide) (by decide) (by decide) rfl rfl rfl rfl ?_ | refine ds_par3 7 8 9 rfl (by assumption) rfl rfl rfl (by decide) (by decide) (by decide) rfl rfl rfl rfl ?_ | refine ds_par3 8 9 10 rfl (by assumption) rfl rfl rfl (by decide) (by decide) (by decide) rfl rfl rfl rfl ?_ | refine ds_par3 9 10 11 rfl (by assumption) rfl rfl rfl (by decide) (by decide) (by decide) rfl rfl rfl rfl ?_)
  | (with_reducible show DS _ _ _ _ _ (.Assign [.Subscript _ _ _] _ _) _ _); refine ds_dput 0 (by assumption) (by first | exact Or.inl rfl | exact Or.inr rfl) rfl (by first | exact Or.inl rfl | exact Or.inr (Or.inl rfl)) rfl ?_)
local macro_rules | `(tactic| walk_at "ds") => `(tactic| first
  | (with_reducible show DSs _ _ _ _ _ (.If (.Compare (.Name "errors" _) _ _ _) _ _ _ :: _) _ _); (first | refine dss_give 0 rfl ?_ | refine dss_give 1 rfl ?_ | refine dss_give 2 rfl ?_ | refine dss_give 3 rfl ?_ | refine dss_give 4 rfl ?_ | refine dss_give 5 rfl ?_ | refine dss_give 6 rfl ?_ | refine dss_give 7 rfl ?_ | refine dss_give 8 rfl ?_ | refine dss_give 9 rfl ?_ | refine dss_give 10 rfl ?_ | refine dss_give 11 rfl ?_ | refine dss_give 12 rfl ?_ | refine dss_give 13 rfl ?_ | refine dss_give 14 rfl ?_ | refine dss_give 15 rfl ?_)
  | (with_reducible show DSs _ _ _ _ _ (.Return (some (.Compare (.Name "errors" _) _ _ _)) _ :: _) _ _); (first | refine dss_give 0 rfl ?_ | refine dss_give 1 rfl ?_ | refine dss_give 2 rfl ?_ | refine dss_give 3 rfl ?_ | refine dss_give 4 rfl ?_ | refine dss_give 5 rfl ?_ | refine dss_give 6 rfl ?_ | refine dss_give 7 rfl ?_ | refine dss_give 8 rfl ?_ | refine dss_give 9 rfl ?_ | refine dss_give 10 rfl ?_ | refine dss_give 11 rfl ?_ | refine dss_give 12 rfl ?_ | refine dss_give 13 rfl ?_ | refine dss_give 14 rfl ?_ | refine dss_give 15 rfl ?_)
  | (with_reducible show DS _ _ _ _ _ (.Assign [.Name "errors" _] (.List _ _) _) _ _); (first | refine ds_setF 0 (by assumption) rfl (by first | exact Or.inl rfl | exact Or.inr rfl) (df_lst ?_) | refine ds_setF 1 (by assumption) rfl (by first | exact Or.inl rfl | exact Or.inr rfl) (df_lst ?_) | refine ds_setF 2 (by assumption) rfl (by first | exact Or.inl rfl | exact Or.inr rfl) (df_lst ?_) | refine ds_setF 3 (by assumption) rfl (by first | exact Or.inl rfl | exact Or.inr rfl) (df_lst ?_) | refine ds_setF 4 (by assumption) rfl (by first | exact Or.inl rfl | exact Or.inr rfl) (df_lst ?_) | refine ds_setF 5 (by assumption) rfl (by first | exact Or.inl rfl | exact Or.inr rfl) (df_lst ?_) | refine ds_setF 6 (by assumption) rfl (by first | exact Or.inl rfl | exact Or.inr rfl) (df_lst ?_) | refine ds_setF 7 (by assumption) rfl (by first | exact Or.inl rfl | exact Or.inr rfl) (df_lst ?_) | refine ds_setF 8 (by assumption) rfl (by first | exact Or.inl rfl | exact Or.inr rfl) (df_lst ?_) | refine ds_setF 9 (by assumption) rfl (by first | exact Or.inl rfl | exact Or.inr rfl) (df_lst ?_) | refine ds_setF 10 (by assumption) rfl (by first | exact Or.inl rfl | exact Or.inr rfl) (df_lst ?_) | refine ds_setF 11 (by assumption) rfl (by first | exact Or.inl rfl | exact Or.inr rfl) (df_lst ?_) | refine ds_setF 12 (by assumption) rfl (by first | exact Or.inl rfl | exact Or.inr rfl) (df_lst ?_) | refine ds_setF 13 (by assumption) rfl (by first | exact Or.inl rfl | exact Or.inr rfl) (df_lst ?_) | refine ds_setF 14 (by assumption) rfl (by first | exact Or.inl rfl | exact Or.inr rfl) (df_lst ?_) | refine ds_setF 15 (by assumption) rfl (by first | exact Or.inl rfl | exact Or.inr rfl) (df_lst ?_))
  | (with_reducible show DS _ _ _ _ _ (.Expr (.Call (.Attribute (.Name "errors" _) _ _) _ _ _) _) _ _); (first | refine ds_append 0 rfl (by first | exact Or.inl rfl | exact Or.inr (Or.inl rfl)) rfl (Nat.le_of_ble_eq_true rfl) ?_ | refine ds_append 1 rfl (by first | exact Or.inl rfl | exact Or.inr (Or.inl rfl)) rfl (Nat.le_of_ble_eq_true rfl) ?_ | refine ds_append 2 rfl (by first | exact Or.inl rfl | exact Or.inr (Or.inl rfl)) rfl (Nat.le_of_ble_eq_true rfl) ?_ | refine ds_append 3 rfl (by first | exact Or.inl rfl | exact Or.inr (Or.inl rfl)) rfl (Nat.le_of_ble_eq_true rfl) ?_ | refine ds_append 4 rfl (by first | exact Or.inl rfl | exact Or.inr (Or.inl rfl)) rfl (Nat.le_of_ble_eq_true rfl) ?_ | refine ds_append 5 rfl (by first | exact Or.inl rfl | exact Or.inr (Or.inl rfl)) rfl (Nat.le_of_ble_eq_true rfl) ?_ | refine ds_append 6 rfl (by first | exact Or.inl rfl | exact Or.inr (Or.inl rfl)) rfl (Nat.le_of_ble_eq_true rfl) ?_ | refine ds_append 7 rfl (by first | exact Or.inl rfl | exact Or.inr (Or.inl rfl)) rfl (Nat.le_of_ble_eq_true rfl) ?_ | refine ds_append 8 rfl (by first | exact Or.inl rfl | exact Or.inr (Or.inl rfl)) rfl (Nat.le_of_ble_eq_true rfl) ?_ | refine ds_append 9 rfl (by first | exact Or.inl rfl | exact Or.inr (Or.inl rfl)) rfl (Nat.le_of_ble_eq_true rfl) ?_ | refine ds_append 10 rfl (by first | exact Or.inl rfl | exact Or.inr (Or.inl rfl)) rfl (Nat.le_of_ble_eq_true rfl) ?_ | refine ds_append 11 rfl (by first | exact Or.inl rfl | exact Or.inr (Or.inl rfl)) rfl (Nat.le_of_ble_eq_true rfl) ?_ | refine ds_append 12 rfl (by first | exact Or.inl rfl | exact Or.inr (Or.inl rfl)) rfl (Nat.le_of_ble_eq_true rfl) ?_ | refine ds_append 13 rfl (by first | exact Or.inl rfl | exact Or.inr (Or.inl rfl)) rfl (Nat.le_of_ble_eq_true rfl) ?_ | refine ds_append 14 rfl (by first | exact Or.inl rfl | exact Or.inr (Or.inl rfl)) rfl (Nat.le_of_ble_eq_true rfl) ?_ | refine ds_append 15 rfl (by first | exact Or.inl rfl | exact Or.inr (Or.inl rfl)) rfl (Nat.le_of_ble_eq_true rfl) ?_)
  | (with_reducible show DSs _ _ _ _ _ [] _ _); refine ds_nil ?_
  | (with_reducible show DSs _ _ _ _ _ _ _ _); refine ds_cons ?_
  | (with_reducible show DS _ _ _ _ _ (.Return none _) _ _); refine ds_retN ?_
  | (with_reducible show DS _ _ _ _ _ (.Return _ _) _ _); refine ds_ret ?_
  | (with_reducible show DS _ _ _ _ _ (.If _ _ _ _) _ _); refine ds_if ?_
  | (with_reducible show DS _ _ _ _ _ (.Pass _) _ _); refine ds_pass ?_
  | (with_reducible show DS _ _ _ _ _ (.Expr (.Call (.Name _ _) _ _ _) _) _ _); refine ds_expr ?_
  | (with_reducible show DS _ _ _ _ _ (.Assign [.Name _ _] _ _) _ _); (first | refine ds_set 0 (by assumption) rfl (by first | exact Or.inl rfl | exact Or.inr rfl) ?_ | refine ds_set 1 (by assumption) rfl (by first | exact Or.inl rfl | exact Or.inr rfl) ?_ | refine ds_set 2 (by assumption) rfl (by first | exact Or.inl rfl | exact Or.inr rfl) ?_ | refine ds_set 3 (by assumption) rfl (by first | exact Or.inl rfl | exact Or.inr rfl) ?_ | refine ds_set 4 (by assumption) rfl (by first | exact Or.inl rfl | exact Or.inr rfl) ?_ | refine ds_set 5 (by assumption) rfl (by first | exact Or.inl rfl | exact Or.inr rfl) ?_ | refine ds_set 6 (by assumption) rfl (by first | exact Or.inl rfl | exact Or.inr rfl) ?_ | refine ds_set 7 (by assumption) rfl (by first | exact Or.inl rfl | exact Or.inr rfl) ?_ | refine ds_set 8 (by assumption) rfl (by first | exact Or.inl rfl | exact Or.inr rfl) ?_ | refine ds_set 9 (by assumption) rfl (by first | exact Or.inl rfl | exact Or.inr rfl) ?_ | refine ds_set 10 (by assumption) rfl (by first | exact Or.inl rfl | exact Or.inr rfl) ?_ | refine ds_set 11 (by assumption) rfl (by first | exact Or.inl rfl | exact Or.inr rfl) ?_ | refine ds_set 12 (by assumption) rfl (by first | exact Or.inl rfl | exact Or.inr rfl) ?_ | refine ds_set 13 (by assumption) rfl (by first | exact Or.inl rfl | exact Or.inr rfl) ?_)
  | (with_reducible show DS _ _ _ _ _ (.Assign [.Tuple [.Name _ _, .Name _ _] _ _] (.Tuple [_, _] _ _) _) _ _); (first | refine ds_par2 0 1 rfl (by assumption) rfl rfl (by decide) rfl rfl rfl ?_ | refine ds_par2 0 2 rfl (by assumption) rfl rfl (by decide) rfl rfl rfl ?_ | refine ds_par2 1 0 rfl (by assumption) rfl rfl (by decide) rfl rfl rfl ?_ | refine ds_par2 1 2 rfl (by assumption) rfl rfl (by decide) rfl rfl rfl ?_ | refine ds_par2 1 3 rfl (by assumption) rfl rfl (by decide) rfl rfl rfl ?_ | refine ds_par2 2 0 rfl (by assumption) rfl rfl (by decide) rfl rfl rfl ?_ | refine ds_par2 2 1 rfl (by assumption) rfl rfl (by decide) rfl rfl rfl ?_ | refine ds_par2 2 3 rfl (by assumption) rfl rfl (by decide) rfl rfl rfl ?_ | refine ds_par2 2 4 rfl (by assumption) rfl rfl (by decide) rfl rfl rfl ?_ | refine ds_par2 3 1 rfl (by assumption) rfl rfl (by decide) rfl rfl rfl ?_ | refine ds_par2 3 2 rfl (by assumption) rfl rfl (by decide) rfl rfl rfl ?_ | refine ds_par2 3 4 rfl (by assumption) rfl rfl (by decide) rfl rfl rfl ?_ | refine ds_par2 3 5 rfl (by assumption) rfl rfl (by decide) rfl rfl rfl ?_ | refine ds_par2 4 2 rfl (by assumption) rfl rfl (by decide) rfl rfl rfl ?_ | refine ds_par2 4 3 rfl (by assumption) rfl rfl (by decide) rfl rfl rfl ?_ | refine ds_par2 4 5 rfl (by assumption) rfl rfl (by decide) rfl rfl rfl ?_ | refine ds_par2 4 6 rfl (by assumption) rfl rfl (by decide) rfl rfl rfl ?_ | refine ds_par2 5 3 rfl (by assumption) rfl rfl (by decide) rfl rfl rfl ?_ | refine ds_par2 5 4 rfl (by assumption) rfl rfl (by decide) rfl rfl rfl ?_ | refine ds_par2 5 6 rfl (by assumption) rfl rfl (by decide) rfl rfl rfl ?_ | refine ds_par2 5 7 rfl (by assumption) rfl rfl (by decide) rfl rfl rfl ?_ | refine ds_par2 6 4 rfl (by assumption) rfl rfl (by decide) rfl rfl rfl ?_ | refine ds_par2 6 5 rfl (by assumption) rfl rfl (by decide) rfl rfl rfl ?_ | refine ds_par2 6 7 rfl (by assumption) rfl rfl (by decide) rfl rfl rfl ?_ | refine ds_par2 6 8 rfl (by assumption) rfl rfl (by decide) rfl rfl rfl ?_ | refine ds_par2 7 5 rfl (by assumption) rfl rfl (by decide) rfl rfl rfl ?_ | refine ds_par2 7 6 rfl (by assumption) rfl rfl (by decide) rfl rfl rfl ?_ | refine ds_par2 7 8 rfl (by assumption) rfl rfl (by decide) rfl rfl rfl ?_ | refine ds_par2 7 9 rfl (by assumption) rfl rfl (by decide) rfl rfl rfl ?_ | refine ds_par2 8 6 rfl (by assumption) rfl rfl (by decide) rfl rfl rfl ?_ | refine ds_par2 8 7 rfl (by assumption) rfl rfl (by decide) rfl rfl rfl ?_ | refine ds_par2 8 9 rfl (by assumption) rfl rfl (by decide) rfl rfl rfl ?_ | refine ds_par2 9 7 rfl (by assumption) rfl rfl (by decide) rfl rfl rfl ?_ | refine ds_par2 9 8 rfl (by assumption) rfl rfl (by decide) rfl rfl rfl ?_)
  | (with_reducible show DS _ _ _ _ _ (.Assign [.Tuple [.Name _ _, .Name _ _, .Name _ _] _ _] (.Tuple [_, _, _] _ _) _) _ _); (first | refine ds_par3 0 1 2 rfl (by assumption) rfl rfl rfl (by decide) (by decide) (by decide) rfl rfl rfl rfl ?_ | refine ds_par3 1 2 3 rfl (by assumption) rfl rfl rfl (by decide) (by decide) (by decide) rfl rfl rfl rfl ?_ | refine ds_par3 2 3 4 rfl (by assumption) rfl rfl rfl (by decide) (by decide) (by decide) rfl rfl rfl rfl ?_ | refine ds_par3 3 4 5 rfl (by assumption) rfl rfl rfl (by decide) (by decide) (by decide) rfl rfl rfl rfl ?_ | refine ds_par3 4 5 6 rfl (by assumption) rfl rfl rfl (by decide) (by decide) (by decide) rfl rfl rfl rfl ?_ | refine ds_par3 5 6 7 rfl (by assumption) rfl rfl rfl (by decide) (by decide) (by decide) rfl rfl rfl rfl ?_ | refine ds_par3 6 7 8 rfl (by assumption) rfl rfl rfl (by decide) (by decide) (by decide) rfl rfl rfl rfl ?_ | refine ds_par3 7 8 9 rfl (by assumption) rfl rfl rfl (by decide) (by decide) (by decide) rfl rfl rfl rfl ?_ | refine ds_par3 8 9 10 rfl (by assumption) rfl rfl rfl (by decide) (by decide) (by decide) rfl rfl rfl rfl ?_ | refine ds_par3 9 10 11 rfl (by assumption) rfl rfl rfl (by decide) (by decide) (by decide) rfl rfl rfl rfl ?_)
  | (with_reducible show DS _ _ _ _ _ (.Assign [.Subscript _ _ _] _ _) _ _); refine ds_dput 0 (by assumption) (by first | exact Or.inl rfl | exact Or.inr rfl) rfl (by first | exact Or.inl rfl | exact Or.inr (Or.inl rfl)) rfl ?_)
local macro_rules | `(tactic| walk_at "br") => `(tactic| first
  | (with_reducible show gIx _ _ _); refine Exists.intro _ (Exists.intro _ (Exists.intro _ (And.intro rfl (And.intro rfl (And.intro rfl ?_)))))
  | refine Exists.intro _ (And.intro (rfl : seqD _ = some _) ?_)
  | refine And.intro (rfl : List.length _ = List.length _) ?_
  | (with_reducible show tru _ _); refine Exists.intro _ (And.intro rfl ?_)
  | refine brT rfl ?_
  | refine brF rfl ?_
  | exact And.intro (by decide) (by assumption))
local macro_rules | `(tactic| walk_at "go") => `(tactic| first
  | repeat (first
  | (with_reducible show DE _ _ _ _ _ _ _ _); (first
    | (with_reducible show DE _ _ _ _ _ (.Compare (.Name "units" _) [.NotEq] _ _) _ _); refine dx_cmpW (od_neO (by assumption) (by assumption) (by assumption) (by assumption)) rfl ?_
    | (with_reducible show DE _ _ _ _ _ (.Compare (.Name "units" _) [.Eq] _ _) _ _); refine dx_cmpW (od_eqO (by assumption) (by assumption) (by assumption)) rfl ?_
    | (with_reducible show DE _ _ _ _ _ (.Name _ _) _ _); (first | refine dx_name 0 rfl (by first | exact Or.inl rfl | exact Or.inr (Or.inl rfl) | exact Or.inr (Or.inr rfl)) rfl ?_ | refine dx_name 1 rfl (by first | exact Or.inl rfl | exact Or.inr (Or.inl rfl) | exact Or.inr (Or.inr rfl)) rfl ?_ | refine dx_name 2 rfl (by first | exact Or.inl rfl | exact Or.inr (Or.inl rfl) | exact Or.inr (Or.inr rfl)) rfl ?_ | refine dx_name 3 rfl (by first | exact Or.inl rfl | exact Or.inr (Or.inl rfl) | exact Or.inr (Or.inr rfl)) rfl ?_ | refine dx_name 4 rfl (by first | exact Or.inl rfl | exact Or.inr (Or.inl rfl) | exact Or.inr (Or.inr rfl)) rfl ?_ | refine dx_name 5 rfl (by first | exact Or.inl rfl | exact Or.inr (Or.inl rfl) | exact Or.inr (Or.inr rfl)) rfl ?_ | refine dx_name 6 rfl (by first | exact Or.inl rfl | exact Or.inr (Or.inl rfl) | exact Or.inr (Or.inr rfl)) rfl ?_ | refine dx_name 7 rfl (by first | exact Or.inl rfl | exact Or.inr (Or.inl rfl) | exact Or.inr (Or.inr rfl)) rfl ?_ | refine dx_name 8 rfl (by first | exact Or.inl rfl | exact Or.inr (Or.inl rfl) | exact Or.inr (Or.inr rfl)) rfl ?_ | refine dx_name 9 rfl (by first | exact Or.inl rfl | exact Or.inr (Or.inl rfl) | exact Or.inr (Or.inr rfl)) rfl ?_ | refine dx_name 10 rfl (by first | exact Or.inl rfl | exact Or.inr (Or.inl rfl) | exact Or.inr (Or.inr rfl)) rfl ?_ | refine dx_name 11 rfl (by first | exact Or.inl rfl | exact Or.inr (Or.inl rfl) | exact Or.inr (Or.inr rfl)) rfl ?_ | refine dx_name 12 rfl (by first | exact Or.inl rfl | exact Or.inr (Or.inl rfl) | exact Or.inr (Or.inr rfl)) rfl ?_ | refine dx_name 13 rfl (by first | exact Or.inl rfl | exact Or.inr (Or.inl rfl) | exact Or.inr (Or.inr rfl)) rfl ?_ | refine dx_name 14 rfl (by first | exact Or.inl rfl | exact Or.inr (Or.inl rfl) | exact Or.inr (Or.inr rfl)) rfl ?_ | refine dx_name 15 rfl (by first | exact Or.inl rfl | exact Or.inr (Or.inl rfl) | exact Or.inr (Or.inr rfl)) rfl ?_ | refine dx_gint rfl (by assumption) ?_)
    | (with_reducible show DE _ _ _ _ _ (.Constant (.int _) _ _) _ _); refine dx_int ?_
    | (with_reducible show DE _ _ _ _ _ (.Constant (.bool _) _ _) _ _); refine dx_bl ?_
    | (with_reducible show DE _ _ _ _ _ (.Constant .none _ _) _ _); refine dx_non ?_
    | (with_reducible show DE _ _ _ _ _ (.Constant (.str _) _ _) _ _); refine dx_str ?_
    | (with_reducible show DE _ _ _ _ _ (.BinOp _ .Add _ _) _ _); refine dx_op od_add ?_
    | (with_reducible show DE _ _ _ _ _ (.BinOp _ .Sub _ _) _ _); refine dx_op od_sub ?_
    | (with_reducible show DE _ _ _ _ _ (.BinOp _ .Mult _ _) _ _); refine dx_op od_mul ?_
    | (with_reducible show DE _ _ _ _ _ (.BinOp _ .FloorDiv _ _) _ _); refine dx_op od_fdiv ?_
    | (with_reducible show DE _ _ _ _ _ (.BinOp _ .Mod _ _) _ _); refine dx_op od_mod ?_
    | (with_reducible show DE _ _ _ _ _ (.BinOp _ .Pow _ _) _ _); refine dx_op od_pow ?_
    | (with_reducible show DE _ _ _ _ _ (.Compare _ [.Eq] _ _) _ _); refine dx_cmp (od_eq (by assumption)) rfl ?_
    | (with_reducible show DE _ _ _ _ _ (.Compare _ [.NotEq] _ _) _ _); refine dx_cmp (od_ne (by assumption)) rfl ?_
    | (with_reducible show DE _ _ _ _ _ (.Compare _ [.Lt] _ _) _ _); refine dx_cmp od_lt rfl ?_
    | (with_reducible show DE _ _ _ _ _ (.Compare _ [.LtE] _ _) _ _); refine dx_cmp od_le rfl ?_
    | (with_reducible show DE _ _ _ _ _ (.Compare _ [.Gt] _ _) _ _); refine dx_cmp od_gt rfl ?_
    | (with_reducible show DE _ _ _ _ _ (.Compare _ [.GtE] _ _) _ _); refine dx_cmp od_ge rfl ?_
    | (with_reducible show DE _ _ _ _ _ (.Compare _ [.Is] _ _) _ _); refine dx_cmp od_is rfl ?_
    | (with_reducible show DE _ _ _ _ _ (.Compare _ [.IsNot] _ _) _ _); refine dx_cmp od_isnot rfl ?_
    | (with_reducible show DE _ _ _ _ _ (.Compare _ [.In] _ _) _ _); refine dx_cmp od_in rfl ?_
    | (with_reducible show DE _ _ _ _ _ (.Compare _ [.NotIn] _ _) _ _); refine dx_cmp od_notin rfl ?_
    | (with_reducible show DE _ _ _ _ _ (.Compare _ [.LtE, .LtE] _ _) _ _); refine dx_chain od_le od_le (by with_unfolding_all rfl) ?_
    | (with_reducible show DE _ _ _ _ _ (.Compare _ [.Lt, .Lt] _ _) _ _); refine dx_chain od_lt od_lt (by with_unfolding_all rfl) ?_
    | (with_reducible show DE _ _ _ _ _ (.Compare _ [.LtE, .Lt] _ _) _ _); refine dx_chain od_le od_lt (by with_unfolding_all rfl) ?_
    | (with_reducible show DE _ _ _ _ _ (.UnaryOp .Not _ _) _ _); refine dx_not ?_
    | (with_reducible show DE _ _ _ _ _ (.UnaryOp .USub _ _) _ _); refine dx_neg ?_
    | (with_reducible show DE _ _ _ _ _ (.BoolOp _ [_] _) _ _); refine dx_one ?_
    | (with_reducible show DE _ _ _ _ _ (.BoolOp .And _ _) _ _); refine dx_and ?_
    | (with_reducible show DE _ _ _ _ _ (.BoolOp .Or _ _) _ _); refine dx_or ?_
    | (with_reducible show DE _ _ _ _ _ (.IfExp _ _ _ _) _ _); refine dx_if ?_
    | (with_reducible show DE _ _ _ _ _ (.Tuple _ _ _) _ _); refine dx_tup ?_
    | (with_reducible show DE _ _ _ _ _ (.Dict [] [] _) _ _); refine dx_dic0 ?_
    | (with_reducible show DE _ _ _ _ _ (.List _ _) _ _); refine dx_lst ?_
    | (with_reducible show DE _ _ _ _ _ (.Call (.Name "isinstance" _) [_, .Name "int" _] _ _) _ _); refine dx_isi "int" rfl (Bt.isinstance (by assumption)) rfl (Bt.int (by assumption)) bb_int ty_int ?_
    | (with_reducible show DE _ _ _ _ _ (.Call (.Name "isinstance" _) [_, .Name "bool" _] _ _) _ _); refine dx_isi "bool" rfl (Bt.isinstance (by assumption)) rfl (Bt.bool (by assumption)) bb_bool ty_bool ?_
    | (with_reducible show DE _ _ _ _ _ (.Call (.Name "isinstance" _) [_, .Name "tuple" _] _ _) _ _); refine dx_isi "tuple" rfl (Bt.isinstance (by assumption)) rfl (Bt.tuple (by assumption)) bb_tuple ty_tuple ?_
    | (with_reducible show DE _ _ _ _ _ (.Call (.Name "isinstance" _) [_, .Name "list" _] _ _) _ _); refine dx_isi "list" rfl (Bt.isinstance (by assumption)) rfl (Bt.list (by assumption)) bb_list ty_list ?_
    | (with_reducible show DE _ _ _ _ _ (.Call (.Name "isinstance" _) [_, .Name "dict" _] _ _) _ _); refine dx_isi "dict" rfl (Bt.isinstance (by assumption)) rfl (Bt.dict (by assumption)) bb_dict ty_dict ?_
    | (with_reducible show DE _ _ _ _ _ (.Call (.Name "isinstance" _) [_, .Name "str" _] _ _) _ _); refine dx_isi "str" rfl (Bt.isinstance (by assumption)) rfl (Bt.str (by assumption)) bb_str ty_str ?_
    | (with_reducible show DE _ _ _ _ _ (.Call (.Name "isinstance" _) [_, .Tuple _ _ _] _ _) _ _); refine dx_isi2 "list" "tuple" rfl (Bt.isinstance (by assumption)) rfl (Bt.list (by assumption)) bb_list rfl (Bt.tuple (by assumption)) bb_tuple ty_list ty_tuple ?_
    | (with_reducible show DE _ _ _ _ _ (.Call (.Name "len" _) [.Call (.Name "set" _) _ _ _] _ _) _ _); refine dx_lenSet rfl rfl (Bt.len (by assumption)) rfl (Bt.set (by assumption)) ?_
    | (with_reducible show DE _ _ _ _ _ (.Call (.Name "len" _) _ _ _) _ _); refine dx_blt cd_len rfl (Bt.len (by assumption)) bb_len ?_
    | (with_reducible show DE _ _ _ _ _ (.Call (.Name "abs" _) _ _ _) _ _); refine dx_blt cd_abs rfl (Bt.abs (by assumption)) bb_abs ?_
    | (with_reducible show DE _ _ _ _ _ (.Call (.Name "all" _) _ _ _) _ _); refine dx_blt (cd_all rfl) rfl (Bt.all (by assumption)) bb_all ?_
    | (with_reducible show DE _ _ _ _ _ (.Call (.Name "min" _) _ _ _) _ _); refine dx_blt (cd_min rfl) rfl (Bt.min (by assumption)) bb_min ?_
    | (with_reducible show DE _ _ _ _ _ (.Call (.Name "max" _) _ _ _) _ _); refine dx_blt (cd_max rfl) rfl (Bt.max (by assumption)) bb_max ?_
    | (with_reducible show DE _ _ _ _ _ (.Call (.Name "int" _) _ _ _) _ _); refine dx_ty cd_int rfl (Bt.int (by assumption)) bb_int ?_
    | (with_reducible show DE _ _ _ _ _ (.Call (.Name "list" _) _ _ _) _ _); refine dx_ty cd_list rfl (Bt.list (by assumption)) bb_list ?_
    | (with_reducible show DE _ _ _ _ _ (.Call (.Name "tuple" _) _ _ _) _ _); refine dx_ty cd_tuple rfl (Bt.tuple (by assumption)) bb_tuple ?_
    | (with_reducible show DE _ _ _ _ _ (.Call (.Name "dict" _) _ _ _) _ _); refine dx_ty (cd_dictP rfl) rfl (Bt.dict (by assumption)) bb_dict ?_
    | (with_reducible show DE _ _ _ _ _ (.Subscript (.Name _ _) (.Constant (.str _) _ _) _) _ _); refine dx_dget (j := 0) (by assumption) (by first | exact Or.inl rfl | exact Or.inr rfl) rfl (by first | exact Or.inl rfl | exact Or.inr (Or.inl rfl)) rfl (fun _ => ?_)
    | (with_reducible show DE _ _ _ _ _ (.Subscript _ (.Slice _ _ _ _) _) _ _); refine dx_slice ?_
    | (with_reducible show DE _ _ _ _ _ (.Subscript _ _ _) _ _); refine dx_ix (fun _ _ => rfl) ?_
    | (with_reducible show DE _ _ _ _ _ (.ListComp _ [⟨.Name _ _, _, [], _⟩] _ _) _ _); (first | refine dx_lcN 0 rfl (by assumption) rfl rfl rfl (fun _ _ _ _ _ => by first | exact ⟨Or.inl rfl, Or.inr rfl⟩ | exact ⟨Or.inr rfl, Or.inl rfl⟩ | exact ⟨Or.inl rfl, Or.inl rfl⟩) ?_ | refine dx_lcN 1 rfl (by assumption) rfl rfl rfl (fun _ _ _ _ _ => by first | exact ⟨Or.inl rfl, Or.inr rfl⟩ | exact ⟨Or.inr rfl, Or.inl rfl⟩ | exact ⟨Or.inl rfl, Or.inl rfl⟩) ?_ | refine dx_lcN 2 rfl (by assumption) rfl rfl rfl (fun _ _ _ _ _ => by first | exact ⟨Or.inl rfl, Or.inr rfl⟩ | exact ⟨Or.inr rfl, Or.inl rfl⟩ | exact ⟨Or.inl rfl, Or.inl rfl⟩) ?_ | refine dx_lcN 3 rfl (by assumption) rfl rfl rfl (fun _ _ _ _ _ => by first | exact ⟨Or.inl rfl, Or.inr rfl⟩ | exact ⟨Or.inr rfl, Or.inl rfl⟩ | exact ⟨Or.inl rfl, Or.inl rfl⟩) ?_ | refine dx_lcN 4 rfl (by assumption) rfl rfl rfl (fun _ _ _ _ _ => by first | exact ⟨Or.inl rfl, Or.inr rfl⟩ | exact ⟨Or.inr rfl, Or.inl rfl⟩ | exact ⟨Or.inl rfl, Or.inl rfl⟩) ?_ | refine dx_lcN 5 rfl (by assumption) rfl rfl rfl (fun _ _ _ _ _ => by first | exact ⟨Or.inl rfl, Or.inr rfl⟩ | exact ⟨Or.inr rfl, Or.inl rfl⟩ | exact ⟨Or.inl rfl, Or.inl rfl⟩) ?_ | refine dx_lcN 6 rfl (by assumption) rfl rfl rfl (fun _ _ _ _ _ => by first | exact ⟨Or.inl rfl, Or.inr rfl⟩ | exact ⟨Or.inr rfl, Or.inl rfl⟩ | exact ⟨Or.inl rfl, Or.inl rfl⟩) ?_ | refine dx_lcN 7 rfl (by assumption) rfl rfl rfl (fun _ _ _ _ _ => by first | exact ⟨Or.inl rfl, Or.inr rfl⟩ | exact ⟨Or.inr rfl, Or.inl rfl⟩ | exact ⟨Or.inl rfl, Or.inl rfl⟩) ?_ | refine dx_lcN 8 rfl (by assumption) rfl rfl rfl (fun _ _ _ _ _ => by first | exact ⟨Or.inl rfl, Or.inr rfl⟩ | exact ⟨Or.inr rfl, Or.inl rfl⟩ | exact ⟨Or.inl rfl, Or.inl rfl⟩) ?_ | refine dx_lcN 9 rfl (by assumption) rfl rfl rfl (fun _ _ _ _ _ => by first | exact ⟨Or.inl rfl, Or.inr rfl⟩ | exact ⟨Or.inr rfl, Or.inl rfl⟩ | exact ⟨Or.inl rfl, Or.inl rfl⟩) ?_)
    | (with_reducible show DE _ _ _ _ _ (.ListComp _ [⟨.Name _ _, _, [_], _⟩] _ _) _ _); (first | refine dx_lcNIf 0 rfl (by assumption) rfl rfl rfl (fun _ _ _ _ _ => by first | exact ⟨Or.inl rfl, Or.inr rfl⟩ | exact ⟨Or.inr rfl, Or.inl rfl⟩ | exact ⟨Or.inl rfl, Or.inl rfl⟩) ?_ | refine dx_lcNIf 1 rfl (by assumption) rfl rfl rfl (fun _ _ _ _ _ => by first | exact ⟨Or.inl rfl, Or.inr rfl⟩ | exact ⟨Or.inr rfl, Or.inl rfl⟩ | exact ⟨Or.inl rfl, Or.inl rfl⟩) ?_ | refine dx_lcNIf 2 rfl (by assumption) rfl rfl rfl (fun _ _ _ _ _ => by first | exact ⟨Or.inl rfl, Or.inr rfl⟩ | exact ⟨Or.inr rfl, Or.inl rfl⟩ | exact ⟨Or.inl rfl, Or.inl rfl⟩) ?_ | refine dx_lcNIf 3 rfl (by assumption) rfl rfl rfl (fun _ _ _ _ _ => by first | exact ⟨Or.inl rfl, Or.inr rfl⟩ | exact ⟨Or.inr rfl, Or.inl rfl⟩ | exact ⟨Or.inl rfl, Or.inl rfl⟩) ?_ | refine dx_lcNIf 4 rfl (by assumption) rfl rfl rfl (fun _ _ _ _ _ => by first | exact ⟨Or.inl rfl, Or.inr rfl⟩ | exact ⟨Or.inr rfl, Or.inl rfl⟩ | exact ⟨Or.inl rfl, Or.inl rfl⟩) ?_ | refine dx_lcNIf 5 rfl (by assumption) rfl rfl rfl (fun _ _ _ _ _ => by first | exact ⟨Or.inl rfl, Or.inr rfl⟩ | exact ⟨Or.inr rfl, Or.inl rfl⟩ | exact ⟨Or.inl rfl, Or.inl rfl⟩) ?_ | refine dx_lcNIf 6 rfl (by assumption) rfl rfl rfl (fun _ _ _ _ _ => by first | exact ⟨Or.inl rfl, Or.inr rfl⟩ | exact ⟨Or.inr rfl, Or.inl rfl⟩ | exact ⟨Or.inl rfl, Or.inl rfl⟩) ?_ | refine dx_lcNIf 7 rfl (by assumption) rfl rfl rfl (fun _ _ _ _ _ => by first | exact ⟨Or.inl rfl, Or.inr rfl⟩ | exact ⟨Or.inr rfl, Or.inl rfl⟩ | exact ⟨Or.inl rfl, Or.inl rfl⟩) ?_ | refine dx_lcNIf 8 rfl (by assumption) rfl rfl rfl (fun _ _ _ _ _ => by first | exact ⟨Or.inl rfl, Or.inr rfl⟩ | exact ⟨Or.inr rfl, Or.inl rfl⟩ | exact ⟨Or.inl rfl, Or.inl rfl⟩) ?_ | refine dx_lcNIf 9 rfl (by assumption) rfl rfl rfl (fun _ _ _ _ _ => by first | exact ⟨Or.inl rfl, Or.inr rfl⟩ | exact ⟨Or.inr rfl, Or.inl rfl⟩ | exact ⟨Or.inl rfl, Or.inl rfl⟩) ?_)
    | (with_reducible show DE _ _ _ _ _ (.ListComp _ [⟨.Tuple _ _ _, _, [], _⟩] _ _) _ _); (first | refine dx_lcP 0 1 rfl (by assumption) rfl rfl rfl rfl (fun _ _ _ _ _ => by first | exact ⟨⟨Or.inl rfl, Or.inr rfl⟩, ⟨Or.inl rfl, Or.inr rfl⟩⟩ | exact ⟨⟨Or.inr rfl, Or.inl rfl⟩, ⟨Or.inr rfl, Or.inl rfl⟩⟩ | exact ⟨⟨Or.inl rfl, Or.inl rfl⟩, ⟨Or.inl rfl, Or.inl rfl⟩⟩) ?_ | refine dx_lcP 1 2 rfl (by assumption) rfl rfl rfl rfl (fun _ _ _ _ _ => by first | exact ⟨⟨Or.inl rfl, Or.inr rfl⟩, ⟨Or.inl rfl, Or.inr rfl⟩⟩ | exact ⟨⟨Or.inr rfl, Or.inl rfl⟩, ⟨Or.inr rfl, Or.inl rfl⟩⟩ | exact ⟨⟨Or.inl rfl, Or.inl rfl⟩, ⟨Or.inl rfl, Or.inl rfl⟩⟩) ?_ | refine dx_lcP 1 0 rfl (by assumption) rfl rfl rfl rfl (fun _ _ _ _ _ => by first | exact ⟨⟨Or.inl rfl, Or.inr rfl⟩, ⟨Or.inl rfl, Or.inr rfl⟩⟩ | exact ⟨⟨Or.inr rfl, Or.inl rfl⟩, ⟨Or.inr rfl, Or.inl rfl⟩⟩ | exact ⟨⟨Or.inl rfl, Or.inl rfl⟩, ⟨Or.inl rfl, Or.inl rfl⟩⟩) ?_ | refine dx_lcP 2 3 rfl (by assumption) rfl rfl rfl rfl (fun _ _ _ _ _ => by first | exact ⟨⟨Or.inl rfl, Or.inr rfl⟩, ⟨Or.inl rfl, Or.inr rfl⟩⟩ | exact ⟨⟨Or.inr rfl, Or.inl rfl⟩, ⟨Or.inr rfl, Or.inl rfl⟩⟩ | exact ⟨⟨Or.inl rfl, Or.inl rfl⟩, ⟨Or.inl rfl, Or.inl rfl⟩⟩) ?_ | refine dx_lcP 2 1 rfl (by assumption) rfl rfl rfl rfl (fun _ _ _ _ _ => by first | exact ⟨⟨Or.inl rfl, Or.inr rfl⟩, ⟨Or.inl rfl, Or.inr rfl⟩⟩ | exact ⟨⟨Or.inr rfl, Or.inl rfl⟩, ⟨Or.inr rfl, Or.inl rfl⟩⟩ | exact ⟨⟨Or.inl rfl, Or.inl rfl⟩, ⟨Or.inl rfl, Or.inl rfl⟩⟩) ?_ | refine dx_lcP 3 4 rfl (by assumption) rfl rfl rfl rfl (fun _ _ _ _ _ => by first | exact ⟨⟨Or.inl rfl, Or.inr rfl⟩, ⟨Or.inl rfl, Or.inr rfl⟩⟩ | exact ⟨⟨Or.inr rfl, Or.inl rfl⟩, ⟨Or.inr rfl, Or.inl rfl⟩⟩ | exact ⟨⟨Or.inl rfl, Or.inl rfl⟩, ⟨Or.inl rfl, Or.inl rfl⟩⟩) ?_ | refine dx_lcP 3 2 rfl (by assumption) rfl rfl rfl rfl (fun _ _ _ _ _ => by first | exact ⟨⟨Or.inl rfl, Or.inr rfl⟩, ⟨Or.inl rfl, Or.inr rfl⟩⟩ | exact ⟨⟨Or.inr rfl, Or.inl rfl⟩, ⟨Or.inr rfl, Or.inl rfl⟩⟩ | exact ⟨⟨Or.inl rfl, Or.inl rfl⟩, ⟨Or.inl rfl, Or.inl rfl⟩⟩) ?_ | refine dx_lcP 4 5 rfl (by assumption) rfl rfl rfl rfl (fun _ _ _ _ _ => by first | exact ⟨⟨Or.inl rfl, Or.inr rfl⟩, ⟨Or.inl rfl, Or.inr rfl⟩⟩ | exact ⟨⟨Or.inr rfl, Or.inl rfl⟩, ⟨Or.inr rfl, Or.inl rfl⟩⟩ | exact ⟨⟨Or.inl rfl, Or.inl rfl⟩, ⟨Or.inl rfl, Or.inl rfl⟩⟩) ?_ | refine dx_lcP 4 3 rfl (by assumption) rfl rfl rfl rfl (fun _ _ _ _ _ => by first | exact ⟨⟨Or.inl rfl, Or.inr rfl⟩, ⟨Or.inl rfl, Or.inr rfl⟩⟩ | exact ⟨⟨Or.inr rfl, Or.inl rfl⟩, ⟨Or.inr rfl, Or.inl rfl⟩⟩ | exact ⟨⟨Or.inl rfl, Or.inl rfl⟩, ⟨Or.inl rfl, Or.inl rfl⟩⟩) ?_ | refine dx_lcP 5 6 rfl (by assumption) rfl rfl rfl rfl (fun _ _ _ _ _ => by first | exact ⟨⟨Or.inl rfl, Or.inr rfl⟩, ⟨Or.inl rfl, Or.inr rfl⟩⟩ | exact ⟨⟨Or.inr rfl, Or.inl rfl⟩, ⟨Or.inr rfl, Or.inl rfl⟩⟩ | exact ⟨⟨Or.inl rfl, Or.inl rfl⟩, ⟨Or.inl rfl, Or.inl rfl⟩⟩) ?_ | refine dx_lcP 5 4 rfl (by assumption) rfl rfl rfl rfl (fun _ _ _ _ _ => by first | exact ⟨⟨Or.inl rfl, Or.inr rfl⟩, ⟨Or.inl rfl, Or.inr rfl⟩⟩ | exact ⟨⟨Or.inr rfl, Or.inl rfl⟩, ⟨Or.inr rfl, Or.inl rfl⟩⟩ | exact ⟨⟨Or.inl rfl, Or.inl rfl⟩, ⟨Or.inl rfl, Or.inl rfl⟩⟩) ?_ | refine dx_lcP 6 7 rfl (by assumption) rfl rfl rfl rfl (fun _ _ _ _ _ => by first | exact ⟨⟨Or.inl rfl, Or.inr rfl⟩, ⟨Or.inl rfl, Or.inr rfl⟩⟩ | exact ⟨⟨Or.inr rfl, Or.inl rfl⟩, ⟨Or.inr rfl, Or.inl rfl⟩⟩ | exact ⟨⟨Or.inl rfl, Or.inl rfl⟩, ⟨Or.inl rfl, Or.inl rfl⟩⟩) ?_ | refine dx_lcP 6 5 rfl (by assumption) rfl rfl rfl rfl (fun _ _ _ _ _ => by first | exact ⟨⟨Or.inl rfl, Or.inr rfl⟩, ⟨Or.inl rfl, Or.inr rfl⟩⟩ | exact ⟨⟨Or.inr rfl, Or.inl rfl⟩, ⟨Or.inr rfl, Or.inl rfl⟩⟩ | exact ⟨⟨Or.inl rfl, Or.inl rfl⟩, ⟨Or.inl rfl, Or.inl rfl⟩⟩) ?_ | refine dx_lcP 7 8 rfl (by assumption) rfl rfl rfl rfl (fun _ _ _ _ _ => by first | exact ⟨⟨Or.inl rfl, Or.inr rfl⟩, ⟨Or.inl rfl, Or.inr rfl⟩⟩ | exact ⟨⟨Or.inr rfl, Or.inl rfl⟩, ⟨Or.inr rfl, Or.inl rfl⟩⟩ | exact ⟨⟨Or.inl rfl, Or.inl rfl⟩, ⟨Or.inl rfl, Or.inl rfl⟩⟩) ?_ | refine dx_lcP 7 6 rfl (by assumption) rfl rfl rfl rfl (fun _ _ _ _ _ => by first | exact ⟨⟨Or.inl rfl, Or.inr rfl⟩, ⟨Or.inl rfl, Or.inr rfl⟩⟩ | exact ⟨⟨Or.inr rfl, Or.inl rfl⟩, ⟨Or.inr rfl, Or.inl rfl⟩⟩ | exact ⟨⟨Or.inl rfl, Or.inl rfl⟩, ⟨Or.inl rfl, Or.inl rfl⟩⟩) ?_)
    | (with_reducible show DE _ _ _ _ _ (.Call (.Name "gcd" _) _ _ _) _ _); refine dx_bfun cd_gcd rfl (by assumption) ?_
    | (with_reducible show DE _ _ _ _ _ (.Call (.Name _ _) _ _ _) _ _); refine dx_call (by assumption) (by assumption) (by first | assumption | exact takes_wx0) rfl ?_)
  | (with_reducible show DT _ _ _ _ _ _ _ _); (first
    | (with_reducible show DT _ _ _ _ _ (.Compare (.Name "units" _) [.NotEq] _ _) _ _); refine dt_cmpW (od_neO (by assumption) (by assumption) (by assumption) (by assumption)) rfl ?_
    | (with_reducible show DT _ _ _ _ _ (.Compare (.Name "units" _) [.Eq] _ _) _ _); refine dt_cmpW (od_eqO (by assumption) (by assumption) (by assumption)) rfl ?_
    | (with_reducible show DT _ _ _ _ _ (.Compare _ [.Eq] _ _) _ _); refine dt_cmp (od_eq (by assumption)) rfl ?_
    | (with_reducible show DT _ _ _ _ _ (.Compare _ [.NotEq] _ _) _ _); refine dt_cmp (od_ne (by assumption)) rfl ?_
    | (with_reducible show DT _ _ _ _ _ (.Compare _ [.Lt] _ _) _ _); refine dt_cmp od_lt rfl ?_
    | (with_reducible show DT _ _ _ _ _ (.Compare _ [.LtE] _ _) _ _); refine dt_cmp od_le rfl ?_
    | (with_reducible show DT _ _ _ _ _ (.Compare _ [.Gt] _ _) _ _); refine dt_cmp od_gt rfl ?_
    | (with_reducible show DT _ _ _ _ _ (.Compare _ [.GtE] _ _) _ _); refine dt_cmp od_ge rfl ?_
    | (with_reducible show DT _ _ _ _ _ (.Compare _ [.Is] _ _) _ _); refine dt_cmp od_is rfl ?_
    | (with_reducible show DT _ _ _ _ _ (.Compare _ [.IsNot] _ _) _ _); refine dt_cmp od_isnot rfl ?_
    | (with_reducible show DT _ _ _ _ _ (.Compare _ [.In] _ _) _ _); refine dt_cmp od_in rfl ?_
    | (with_reducible show DT _ _ _ _ _ (.Compare _ [.NotIn] _ _) _ _); refine dt_cmp od_notin rfl ?_
    | (with_reducible show DT _ _ _ _ _ (.Compare _ [.LtE, .LtE] _ _) _ _); refine dt_chain od_le od_le (by with_unfolding_all rfl) ?_
    | (with_reducible show DT _ _ _ _ _ (.Compare _ [.Lt, .Lt] _ _) _ _); refine dt_chain od_lt od_lt (by with_unfolding_all rfl) ?_
    | (with_reducible show DT _ _ _ _ _ (.Compare _ [.LtE, .Lt] _ _) _ _); refine dt_chain od_le od_lt (by with_unfolding_all rfl) ?_
    | (with_reducible show DT _ _ _ _ _ (.UnaryOp .Not _ _) _ _); refine dt_not ?_
    | (with_reducible show DT _ _ _ _ _ (.BoolOp .And _ _) _ _); refine dt_w (dw_and ?_)
    | (with_reducible show DT _ _ _ _ _ (.BoolOp .Or _ _) _ _); refine dt_w (dw_or ?_)
    | (with_reducible show DT _ _ _ _ _ _ _ _); refine dt_val (fun _ => rfl) ?_)
  | (with_reducible show DW _ _ _ _ _ _ _ _); (first
    | (with_reducible show DW _ _ _ _ _ (.BoolOp .And [_] _) _ _); refine dw_and1 ?_
    | (with_reducible show DW _ _ _ _ _ (.BoolOp .Or [_] _) _ _); refine dw_or1 ?_
    | (with_reducible show DW _ _ _ _ _ (.BoolOp .And _ _) _ _); refine dw_and ?_
    | (with_reducible show DW _ _ _ _ _ (.BoolOp .Or _ _) _ _); refine dw_or ?_)
  | (with_reducible show DA _ _ _ _ _ _ _ _); (first
    | (with_reducible show DA _ _ _ _ _ [] _ _); refine da_nil ?_
    | (with_reducible show DA _ _ _ _ _ _ _ _); refine da_cons ?_)
  | (with_reducible show DP _ _ _ _ _ _ _ _); (first
    | (with_reducible show DP _ _ _ _ _ none _ _); refine dp_none ?_
    | (with_reducible show DP _ _ _ _ _ _ _ _); refine dp_some ?_)
  | (with_reducible show DI _ _ _ _ _ _ _ _ _); (first
    | (with_reducible show DI _ _ _ _ _ _ (.Call (.Name "range" _) [_] _ _) _ _); refine di_range1 rfl (Bt.range (by assumption)) ?_
    | (with_reducible show DI _ _ _ _ _ _ (.Call (.Name "range" _) _ _ _) _ _); refine di_range2 rfl (Bt.range (by assumption)) ?_
    | (with_reducible show DI _ _ _ _ _ _ (.Call (.Name "zip" _) _ _ _) _ _); refine di_zip rfl (Bt.zip (by assumption)) ?_
    | (with_reducible show DI _ _ _ _ _ _ (.Call (.Name "enumerate" _) _ _ _) _ _); refine di_enum rfl (Bt.enumerate (by assumption)) ?_
    | (with_reducible show DI _ _ _ _ _ _ _ _ _); refine di_seq ?_)
  | (with_reducible show DSs _ _ _ _ _ (.If (.Compare (.Name "errors" _) _ _ _) _ _ _ :: _) _ _); (first | refine dss_give 0 rfl ?_ | refine dss_give 1 rfl ?_ | refine dss_give 2 rfl ?_ | refine dss_give 3 rfl ?_ | refine dss_give 4 rfl ?_ | refine dss_give 5 rfl ?_ | refine dss_give 6 rfl ?_ | refine dss_give 7 rfl ?_ | refine dss_give 8 rfl ?_ | refine dss_give 9 rfl ?_ | refine dss_give 10 rfl ?_ | refine dss_give 11 rfl ?_ | refine dss_give 12 rfl ?_ | refine dss_give 13 rfl ?_ | refine dss_give 14 rfl ?_ | refine dss_give 15 rfl ?_)
  | (with_reducible show DSs _ _ _ _ _ (.Return (some (.Compare (.Name "errors" _) _ _ _)) _ :: _) _ _); (first | refine dss_give 0 rfl ?_ | refine dss_give 1 rfl ?_ | refine dss_give 2 rfl ?_ | refine dss_give 3 rfl ?_ | refine dss_give 4 rfl ?_ | refine dss_give 5 rfl ?_ | refine dss_give 6 rfl ?_ | refine dss_give 7 rfl ?_ | refine dss_give 8 rfl ?_ | refine dss_give 9 rfl ?_ | refine dss_give 10 rfl ?_ | refine dss_give 11 rfl ?_ | refine dss_give 12 rfl ?_ | refine dss_give 13 rfl ?_ | refine dss_give 14 rfl ?_ | refine dss_give 15 rfl ?_)
  | (with_reducible show DS _ _ _ _ _ (.Assign [.Name "errors" _] (.List _ _) _) _ _); (first | refine ds_setF 0 (by assumption) rfl (by first | exact Or.inl rfl | exact Or.inr rfl) (df_lst ?_) | refine ds_setF 1 (by assumption) rfl (by first | exact Or.inl rfl | exact Or.inr rfl) (df_lst ?_) | refine ds_setF 2 (by assumption) rfl (by first | exact Or.inl rfl | exact Or.inr rfl) (df_lst ?_) | refine ds_setF 3 (by assumption) rfl (by first | exact Or.inl rfl | exact Or.inr rfl) (df_lst ?_) | refine ds_setF 4 (by assumption) rfl (by first | exact Or.inl rfl | exact Or.inr rfl) (df_lst ?_) | refine ds_setF 5 (by assumption) rfl (by first | exact Or.inl rfl | exact Or.inr rfl) (df_lst ?_) | refine ds_setF 6 (by assumption) rfl (by first | exact Or.inl rfl | exact Or.inr rfl) (df_lst ?_) | refine ds_setF 7 (by assumption) rfl (by first | exact Or.inl rfl | exact Or.inr rfl) (df_lst ?_) | refine ds_setF 8 (by assumption) rfl (by first | exact Or.inl rfl | exact Or.inr rfl) (df_lst ?_) | refine ds_setF 9 (by assumption) rfl (by first | exact Or.inl rfl | exact Or.inr rfl) (df_lst ?_) | refine ds_setF 10 (by assumption) rfl (by first | exact Or.inl rfl | exact Or.inr rfl) (df_lst ?_) | refine ds_setF 11 (by assumption) rfl (by first | exact Or.inl rfl | exact Or.inr rfl) (df_lst ?_) | refine ds_setF 12 (by assumption) rfl (by first | exact Or.inl rfl | exact Or.inr rfl) (df_lst ?_) | refine ds_setF 13 (by assumption) rfl (by first | exact Or.inl rfl | exact Or.inr rfl) (df_lst ?_) | refine ds_setF 14 (by assumption) rfl (by first | exact Or.inl rfl | exact Or.inr rfl) (df_lst ?_) | refine ds_setF 15 (by assumption) rfl (by first | exact Or.inl rfl | exact Or.inr rfl) (df_lst ?_))
  | (with_reducible show DS _ _ _ _ _ (.Expr (.Call (.Attribute (.Name "errors" _) _ _) _ _ _) _) _ _); (first | refine ds_append 0 rfl (by first | exact Or.inl rfl | exact Or.inr (Or.inl rfl)) rfl (Nat.le_of_ble_eq_true rfl) ?_ | refine ds_append 1 rfl (by first | exact Or.inl rfl | exact Or.inr (Or.inl rfl)) rfl (Nat.le_of_ble_eq_true rfl) ?_ | refine ds_append 2 rfl (by first | exact Or.inl rfl | exact Or.inr (Or.inl rfl)) rfl (Nat.le_of_ble_eq_true rfl) ?_ | refine ds_append 3 rfl (by first | exact Or.inl rfl | exact Or.inr (Or.inl rfl)) rfl (Nat.le_of_ble_eq_true rfl) ?_ | refine ds_append 4 rfl (by first | exact Or.inl rfl | exact Or.inr (Or.inl rfl)) rfl (Nat.le_of_ble_eq_true rfl) ?_ | refine ds_append 5 rfl (by first | exact Or.inl rfl | exact Or.inr (Or.inl rfl)) rfl (Nat.le_of_ble_eq_true rfl) ?_ | refine ds_append 6 rfl (by first | exact Or.inl rfl | exact Or.inr (Or.inl rfl)) rfl (Nat.le_of_ble_eq_true rfl) ?_ | refine ds_append 7 rfl (by first | exact Or.inl rfl | exact Or.inr (Or.inl rfl)) rfl (Nat.le_of_ble_eq_true rfl) ?_ | refine ds_append 8 rfl (by first | exact Or.inl rfl | exact Or.inr (Or.inl rfl)) rfl (Nat.le_of_ble_eq_true rfl) ?_ | refine ds_append 9 rfl (by first | exact Or.inl rfl | exact Or.inr (Or.inl rfl)) rfl (Nat.le_of_ble_eq_true rfl) ?_ | refine ds_append 10 rfl (by first | exact Or.inl rfl | exact Or.inr (Or.inl rfl)) rfl (Nat.le_of_ble_eq_true rfl) ?_ | refine ds_append 11 rfl (by first | exact Or.inl rfl | exact Or.inr (Or.inl rfl)) rfl (Nat.le_of_ble_eq_true rfl) ?_ | refine ds_append 12 rfl (by first | exact Or.inl rfl | exact Or.inr (Or.inl rfl)) rfl (Nat.le_of_ble_eq_true rfl) ?_ | refine ds_append 13 rfl (by first | exact Or.inl rfl | exact Or.inr (Or.inl rfl)) rfl (Nat.le_of_ble_eq_true rfl) ?_ | refine ds_append 14 rfl (by first | exact Or.inl rfl | exact Or.inr (Or.inl rfl)) rfl (Nat.le_of_ble_eq_true rfl) ?_ | refine ds_append 15 rfl (by first | exact Or.inl rfl | exact Or.inr (Or.inl rfl)) rfl (Nat.le_of_ble_eq_true rfl) ?_)
  | (with_reducible show DSs _ _ _ _ _ [] _ _); refine ds_nil ?_
  | (with_reducible show DSs _ _ _ _ _ _ _ _); refine ds_cons ?_
  | (with_reducible show DS _ _ _ _ _ (.Return none _) _ _); refine ds_retN ?_
  | (with_reducible show DS _ _ _ _ _ (.Return _ _) _ _); refine ds_ret ?_
  | (with_reducible show DS _ _ _ _ _ (.If _ _ _ _) _ _); refine ds_if ?_
  | (with_reducible show DS _ _ _ _ _ (.Pass _) _ _); refine ds_pass ?_
  | (with_reducible show DS _ _ _ _ _ (.Expr (.Call (.Name _ _) _ _ _) _) _ _); refine ds_expr ?_
  | (with_reducible show DS _ _ _ _ _ (.Assign [.Name _ _] _ _) _ _); (first | refine ds_set 0 (by assumption) rfl (by first | exact Or.inl rfl | exact Or.inr rfl) ?_ | refine ds_set 1 (by assumption) rfl (by first | exact Or.inl rfl | exact Or.inr rfl) ?_ | refine ds_set 2 (by assumption) rfl (by first | exact Or.inl rfl | exact Or.inr rfl) ?_ | refine ds_set 3 (by assumption) rfl (by first | exact Or.inl rfl | exact Or.inr rfl) ?_ | refine ds_set 4 (by assumption) rfl (by first | exact Or.inl rfl | exact Or.inr rfl) ?_ | refine ds_set 5 (by assumption) rfl (by first | exact Or.inl rfl | exact Or.inr rfl) ?_ | refine ds_set 6 (by assumption) rfl (by first | exact Or.inl rfl | exact Or.inr rfl) ?_ | refine ds_set 7 (by assumption) rfl (by first | exact Or.inl rfl | exact Or.inr rfl) ?_ | refine ds_set 8 (by assumption) rfl (by first | exact Or.inl rfl | exact Or.inr rfl) ?_ | refine ds_set 9 (by assumption) rfl (by first | exact Or.inl rfl | exact Or.inr rfl) ?_ | refine ds_set 10 (by assumption) rfl (by first | exact Or.inl rfl | exact Or.inr rfl) ?_ | refine ds_set 11 (by assumption) rfl (by first | exact Or.inl rfl | exact Or.inr rfl) ?_ | refine ds_set 12 (by assumption) rfl (by first | exact Or.inl rfl | exact Or.inr rfl) ?_ | refine ds_set 13 (by assumption) rfl (by first | exact Or.inl rfl | exact Or.inr rfl) ?_)
  | (with_reducible show DS _ _ _ _ _ (.Assign [.Tuple [.Name _ _, .Name _ _] _ _] (.Tuple [_, _] _ _) _) _ _); (first | refine ds_par2 0 1 rfl (by assumption) rfl rfl (by decide) rfl rfl rfl ?_ | refine ds_par2 0 2 rfl (by assumption) rfl rfl (by decide) rfl rfl rfl ?_ | refine ds_par2 1 0 rfl (by assumption) rfl rfl (by decide) rfl rfl rfl ?_ | refine ds_par2 1 2 rfl (by assumption) rfl rfl (by decide) rfl rfl rfl ?_ | refine ds_par2 1 3 rfl (by assumption) rfl rfl (by decide) rfl rfl rfl ?_ | refine ds_par2 2 0 rfl (by assumption) rfl rfl (by decide) rfl rfl rfl ?_ | refine ds_par2 2 1 rfl (by assumption) rfl rfl (by decide) rfl rfl rfl ?_ | refine ds_par2 2 3 rfl (by assumption) rfl rfl (by decide) rfl rfl rfl ?_ | refine ds_par2 2 4 rfl (by assumption) rfl rfl (by decide) rfl rfl rfl ?_ | refine ds_par2 3 1 rfl (by assumption) rfl rfl (by decide) rfl rfl rfl ?_ | refine ds_par2 3 2 rfl (by assumption) rfl rfl (by decide) rfl rfl rfl ?_ | refine ds_par2 3 4 rfl (by assumption) rfl rfl (by decide) rfl rfl rfl ?_ | refine ds_par2 3 5 rfl (by assumption) rfl rfl (by decide) rfl rfl rfl ?_ | refine ds_par2 4 2 rfl (by assumption) rfl rfl (by decide) rfl rfl rfl ?_ | refine ds_par2 4 3 rfl (by assumption) rfl rfl (by decide) rfl rfl rfl ?_ | refine ds_par2 4 5 rfl (by assumption) rfl rfl (by decide) rfl rfl rfl ?_ | refine ds_par2 4 6 rfl (by assumption) rfl rfl (by decide) rfl rfl rfl ?_ | refine ds_par2 5 3 rfl (by assumption) rfl rfl (by decide) rfl rfl rfl ?_ | refine ds_par2 5 4 rfl (by assumption) rfl rfl (by decide) rfl rfl rfl ?_ | refine ds_par2 5 6 rfl (by assumption) rfl rfl (by decide) rfl rfl rfl ?_ | refine ds_par2 5 7 rfl (by assumption) rfl rfl (by decide) rfl rfl rfl ?_ | refine ds_par2 6 4 rfl (by assumption) rfl rfl (by decide) rfl rfl rfl ?_ | refine ds_par2 6 5 rfl (by assumption) rfl rfl (by decide) rfl rfl rfl ?_ | refine ds_par2 6 7 rfl (by assumption) rfl rfl (by decide) rfl rfl rfl ?_ | refine ds_par2 6 8 rfl (by assumption) rfl rfl (by decide) rfl rfl rfl ?_ | refine ds_par2 7 5 rfl (by assumption) rfl rfl (by decide) rfl rfl rfl ?_ | refine ds_par2 7 6 rfl (by assumption) rfl rfl (by decide) rfl rfl rfl ?_ | refine ds_par2 7 8 rfl (by assumption) rfl rfl (by decide) rfl rfl rfl ?_ | refine ds_par2 7 9 rfl (by assumption) rfl rfl (by decide) rfl rfl rfl ?_ | refine ds_par2 8 6 rfl (by assumption) rfl rfl (by decide) rfl rfl rfl ?_ | refine ds_par2 8 7 rfl (by assumption) rfl rfl (by decide) rfl rfl rfl ?_ | refine ds_par2 8 9 rfl (by assumption) rfl rfl (by decide) rfl rfl rfl ?_ | refine ds_par2 9 7 rfl (by assumption) rfl rfl (by decide) rfl rfl rfl ?_ | refine ds_par2 9 8 rfl (by assumption) rfl rfl (by decide) rfl rfl rfl ?_)
  | (with_reducible show DS _ _ _ _ _ (.Assign [.Tuple [.Name _ _, .Name _ _, .Name _ _] _ _] (.Tuple [_, _, _] _ _) _) _ _); (first | refine ds_par3 0 1 2 rfl (by assumption) rfl rfl rfl (by decide) (by decide) (by decide) rfl rfl rfl rfl ?_ | refine ds_par3 1 2 3 rfl (by assumption) rfl rfl rfl (by decide) (by decide) (by decide) rfl rfl rfl rfl ?_ | refine ds_par3 2 3 4 rfl (by assumption) rfl rfl rfl (by decide) (by decide) (by decide) rfl rfl rfl rfl ?_ | refine ds_par3 3 4 5 rfl (by assumption) rfl rfl rfl (by decide) (by decide) (by decide) rfl rfl rfl rfl ?_ | refine ds_par3 4 5 6 rfl (by assumption) rfl rfl rfl (by decide) (by decide) (by decide) rfl rfl rfl rfl ?_ | refine ds_par3 5 6 7 rfl (by assumption) rfl rfl rfl (by decide) (by decide) (by decide) rfl rfl rfl rfl ?_ | refine ds_par3 6 7 8 rfl (by assumption) rfl rfl rfl (by decide) (by decide) (by decide) rfl rfl rfl rfl ?_ | refine ds_par3 7 8 9 rfl (by assumption) rfl rfl rfl (by decide) (by decide) (by decide) rfl rfl rfl rfl ?_ | refine ds_par3 8 9 10 rfl (by assumption) rfl rfl rfl (by decide) (by decide) (by decide) rfl rfl rfl rfl ?_ | refine ds_par3 9 10 11 rfl (by assumption) rfl rfl rfl (by decide) (by decide) (by decide) rfl rfl rfl rfl ?_)
  | (with_reducible show DS _ _ _ _ _ (.Assign [.Subscript _ _ _] _ _) _ _); refine ds_dput 0 (by assumption) (by first | exact Or.inl rfl | exact Or.inr rfl) rfl (by first | exact Or.inl rfl | exact Or.inr (Or.inl rfl)) rfl ?_
  | (with_reducible show gIx _ _ _); refine Exists.intro _ (Exists.intro _ (Exists.intro _ (And.intro rfl (And.intro rfl (And.intro rfl ?_)))))
  | refine Exists.intro _ (And.intro (rfl : seqD _ = some _) ?_)
  | refine And.intro (rfl : List.length _ = List.length _) ?_
  | (with_reducible show tru _ _); refine Exists.intro _ (And.intro rfl ?_)
  | refine brT rfl ?_
  | refine brF rfl ?_
  | exact And.intro (by decide) (by assumption)
  | (fail_if_success first | (with_reducible show DE _ _ _ _ _ _ _ _) | (with_reducible show DSs _ _ _ _ _ _ _ _) | (with_reducible show DW _ _ _ _ _ _ _ _) | (with_reducible show DT _ _ _ _ _ _ _ _) | (with_reducible show DA _ _ _ _ _ _ _ _) | (with_reducible show DS _ _ _ _ _ _ _ _) | (with_reducible show DP _ _ _ _ _ _ _ _) | (with_reducible show DI _ _ _ _ _ _ _ _ _) | (with_reducible show tru _ _)); (first | show DE _ _ _ _ _ _ _ _ | show DSs _ _ _ _ _ _ _ _ | show DW _ _ _ _ _ _ _ _ | show DT _ _ _ _ _ _ _ _ | show DA _ _ _ _ _ _ _ _ | show DS _ _ _ _ _ _ _ _ | show DP _ _ _ _ _ _ _ _ | show DI _ _ _ _ _ _ _ _ _ | show tru _ _)))
local macro_rules | `(tactic| walk_at "lc") => `(tactic| first
  | exact (fun _ _ _ _ _ => by first | exact ⟨Or.inl rfl, Or.inr rfl⟩ | exact ⟨Or.inr rfl, Or.inl rfl⟩ | exact ⟨Or.inl rfl, Or.inl rfl⟩))
local macro_rules | `(tactic| walk_at "lcp") => `(tactic| first
  | exact (fun _ _ _ _ _ => by first | exact ⟨⟨Or.inl rfl, Or.inr rfl⟩, ⟨Or.inl rfl, Or.inr rfl⟩⟩ | exact ⟨⟨Or.inr rfl, Or.inl rfl⟩, ⟨Or.inr rfl, Or.inl rfl⟩⟩ | exact ⟨⟨Or.inl rfl, Or.inl rfl⟩, ⟨Or.inl rfl, Or.inl rfl⟩⟩))
local macro_rules | `(tactic| walk_at "gl") => `(tactic| first
  | repeat (first
  | (with_reducible show DE _ _ _ _ _ _ _ _); (first
    | (with_reducible show DE _ _ _ _ _ (.Compare (.Name "units" _) [.NotEq] _ _) _ _); refine dx_cmpW (od_neO (by assumption) (by assumption) (by assumption) (by assumption)) rfl ?_
    | (with_reducible show DE _ _ _ _ _ (.Compare (.Name "units" _) [.Eq] _ _) _ _); refine dx_cmpW (od_eqO (by assumption) (by assumption) (by assumption)) rfl ?_
    | (with_reducible show DE _ _ _ _ _ (.Name _ _) _ _); (first | refine dx_name 0 rfl (by first | exact Or.inl rfl | exact Or.inr (Or.inl rfl) | exact Or.inr (Or.inr rfl)) rfl ?_ | refine dx_name 1 rfl (by first | exact Or.inl rfl | exact Or.inr (Or.inl rfl) | exact Or.inr (Or.inr rfl)) rfl ?_ | refine dx_name 2 rfl (by first | exact Or.inl rfl | exact Or.inr (Or.inl rfl) | exact Or.inr (Or.inr rfl)) rfl ?_ | refine dx_name 3 rfl (by first | exact Or.inl rfl | exact Or.inr (Or.inl rfl) | exact Or.inr (Or.inr rfl)) rfl ?_ | refine dx_name 4 rfl (by first | exact Or.inl rfl | exact Or.inr (Or.inl rfl) | exact Or.inr (Or.inr rfl)) rfl ?_ | refine dx_name 5 rfl (by first | exact Or.inl rfl | exact Or.inr (Or.inl rfl) | exact Or.inr (Or.inr rfl)) rfl ?_ | refine dx_name 6 rfl (by first | exact Or.inl rfl | exact Or.inr (Or.inl rfl) | exact Or.inr (Or.inr rfl)) rfl ?_ | refine dx_name 7 rfl (by first | exact Or.inl rfl | exact Or.inr (Or.inl rfl) | exact Or.inr (Or.inr rfl)) rfl ?_ | refine dx_name 8 rfl (by first | exact Or.inl rfl | exact Or.inr (Or.inl rfl) | exact Or.inr (Or.inr rfl)) rfl ?_ | refine dx_name 9 rfl (by first | exact Or.inl rfl | exact Or.inr (Or.inl rfl) | exact Or.inr (Or.inr rfl)) rfl ?_ | refine dx_name 10 rfl (by first | exact Or.inl rfl | exact Or.inr (Or.inl rfl) | exact Or.inr (Or.inr rfl)) rfl ?_ | refine dx_name 11 rfl (by first | exact Or.inl rfl | exact Or.inr (Or.inl rfl) | exact Or.inr (Or.inr rfl)) rfl ?_ | refine dx_name 12 rfl (by first | exact Or.inl rfl | exact Or.inr (Or.inl rfl) | exact Or.inr (Or.inr rfl)) rfl ?_ | refine dx_name 13 rfl (by first | exact Or.inl rfl | exact Or.inr (Or.inl rfl) | exact Or.inr (Or.inr rfl)) rfl ?_ | refine dx_name 14 rfl (by first | exact Or.inl rfl | exact Or.inr (Or.inl rfl) | exact Or.inr (Or.inr rfl)) rfl ?_ | refine dx_name 15 rfl (by first | exact Or.inl rfl | exact Or.inr (Or.inl rfl) | exact Or.inr (Or.inr rfl)) rfl ?_ | refine dx_gint rfl (by assumption) ?_)
    | (with_reducible show DE _ _ _ _ _ (.Constant (.int _) _ _) _ _); refine dx_int ?_
    | (with_reducible show DE _ _ _ _ _ (.Constant (.bool _) _ _) _ _); refine dx_bl ?_
    | (with_reducible show DE _ _ _ _ _ (.Constant .none _ _) _ _); refine dx_non ?_
    | (with_reducible show DE _ _ _ _ _ (.Constant (.str _) _ _) _ _); refine dx_str ?_
    | (with_reducible show DE _ _ _ _ _ (.BinOp _ .Add _ _) _ _); refine dx_op od_add ?_
    | (with_reducible show DE _ _ _ _ _ (.BinOp _ .Sub _ _) _ _); refine dx_op od_sub ?_
    | (with_reducible show DE _ _ _ _ _ (.BinOp _ .Mult _ _) _ _); refine dx_op od_mul ?_
    | (with_reducible show DE _ _ _ _ _ (.BinOp _ .FloorDiv _ _) _ _); refine dx_op od_fdiv ?_
    | (with_reducible show DE _ _ _ _ _ (.BinOp _ .Mod _ _) _ _); refine dx_op od_mod ?_
    | (with_reducible show DE _ _ _ _ _ (.BinOp _ .Pow _ _) _ _); refine dx_op od_pow ?_
    | (with_reducible show DE _ _ _ _ _ (.Compare _ [.Eq] _ _) _ _); refine dx_cmp (od_eq (by assumption)) rfl ?_
    | (with_reducible show DE _ _ _ _ _ (.Compare _ [.NotEq] _ _) _ _); refine dx_cmp (od_ne (by assumption)) rfl ?_
    | (with_reducible show DE _ _ _ _ _ (.Compare _ [.Lt] _ _) _ _); refine dx_cmp od_lt rfl ?_
    | (with_reducible show DE _ _ _ _ _ (.Compare _ [.LtE] _ _) _ _); refine dx_cmp od_le rfl ?_
    | (with_reducible show DE _ _ _ _ _ (.Compare _ [.Gt] _ _) _ _); refine dx_cmp od_gt rfl ?_
    | (with_reducible show DE _ _ _ _ _ (.Compare _ [.GtE] _ _) _ _); refine dx_cmp od_ge rfl ?_
    | (with_reducible show DE _ _ _ _ _ (.Compare _ [.Is] _ _) _ _); refine dx_cmp od_is rfl ?_
    | (with_reducible show DE _ _ _ _ _ (.Compare _ [.IsNot] _ _) _ _); refine dx_cmp od_isnot rfl ?_
    | (with_reducible show DE _ _ _ _ _ (.Compare _ [.In] _ _) _ _); refine dx_cmp od_in rfl ?_
    | (with_reducible show DE _ _ _ _ _ (.Compare _ [.NotIn] _ _) _ _); refine dx_cmp od_notin rfl ?_
    | (with_reducible show DE _ _ _ _ _ (.Compare _ [.LtE, .LtE] _ _) _ _); refine dx_chain od_le od_le (by with_unfolding_all rfl) ?_
    | (with_reducible show DE _ _ _ _ _ (.Compare _ [.Lt, .Lt] _ _) _ _); refine dx_chain od_lt od_lt (by with_unfolding_all rfl) ?_
    | (with_reducible show DE _ _ _ _ _ (.Compare _ [.LtE, .Lt] _ _) _ _); refine dx_chain od_le od_lt (by with_unfolding_all rfl) ?_
    | (with_reducible show DE _ _ _ _ _ (.UnaryOp .Not _ _) _ _); refine dx_not ?_
    | (with_reducible show DE _ _ _ _ _ (.UnaryOp .USub _ _) _ _); refine dx_neg ?_
    | (with_reducible show DE _ _ _ _ _ (.BoolOp _ [_] _) _ _); refine dx_one ?_
    | (with_reducible show DE _ _ _ _ _ (.BoolOp .And _ _) _ _); refine dx_and ?_
    | (with_reducible show DE _ _ _ _ _ (.BoolOp .Or _ _) _ _); refine dx_or ?_
    | (with_reducible show DE _ _ _ _ _ (.IfExp _ _ _ _) _ _); refine dx_if ?_
    | (with_reducible show DE _ _ _ _ _ (.Tuple _ _ _) _ _); refine dx_tup ?_
    | (with_reducible show DE _ _ _ _ _ (.Dict [] [] _) _ _); refine dx_dic0 ?_
    | (with_reducible show DE _ _ _ _ _ (.List _ _) _ _); refine dx_lst ?_
    | (with_reducible show DE _ _ _ _ _ (.Call (.Name "isinstance" _) [_, .Name "int" _] _ _) _ _); refine dx_isi "int" rfl (Bt.isinstance (by assumption)) rfl (Bt.int (by assumption)) bb_int ty_int ?_
    | (with_reducible show DE _ _ _ _ _ (.Call (.Name "isinstance" _) [_, .Name "bool" _] _ _) _ _); refine dx_isi "bool" rfl (Bt.isinstance (by assumption)) rfl (Bt.bool (by assumption)) bb_bool ty_bool ?_
    | (with_reducible show DE _ _ _ _ _ (.Call (.Name "isinstance" _) [_, .Name "tuple" _] _ _) _ _); refine dx_isi "tuple" rfl (Bt.isinstance (by assumption)) rfl (Bt.tuple (by assumption)) bb_tuple ty_tuple ?_
    | (with_reducible show DE _ _ _ _ _ (.Call (.Name "isinstance" _) [_, .Name "list" _] _ _) _ _); refine dx_isi "list" rfl (Bt.isinstance (by assumption)) rfl (Bt.list (by assumption)) bb_list ty_list ?_
    | (with_reducible show DE _ _ _ _ _ (.Call (.Name "isinstance" _) [_, .Name "dict" _] _ _) _ _); refine dx_isi "dict" rfl (Bt.isinstance (by assumption)) rfl (Bt.dict (by assumption)) bb_dict ty_dict ?_
    | (with_reducible show DE _ _ _ _ _ (.Call (.Name "isinstance" _) [_, .Name "str" _] _ _) _ _); refine dx_isi "str" rfl (Bt.isinstance (by assumption)) rfl (Bt.str (by assumption)) bb_str ty_str ?_
    | (with_reducible show DE _ _ _ _ _ (.Call (.Name "isinstance" _) [_, .Tuple _ _ _] _ _) _ _); refine dx_isi2 "list" "tuple" rfl (Bt.isinstance (by assumption)) rfl (Bt.list (by assumption)) bb_list rfl (Bt.tuple (by assumption)) bb_tuple ty_list ty_tuple ?_
    | (with_reducible show DE _ _ _ _ _ (.Call (.Name "len" _) [.Call (.Name "set" _) _ _ _] _ _) _ _); refine dx_lenSet rfl rfl (Bt.len (by assumption)) rfl (Bt.set (by assumption)) ?_
    | (with_reducible show DE _ _ _ _ _ (.Call (.Name "len" _) _ _ _) _ _); refine dx_blt cd_len rfl (Bt.len (by assumption)) bb_len ?_
    | (with_reducible show DE _ _ _ _ _ (.Call (.Name "abs" _) _ _ _) _ _); refine dx_blt cd_abs rfl (Bt.abs (by assumption)) bb_abs ?_
    | (with_reducible show DE _ _ _ _ _ (.Call (.Name "all" _) _ _ _) _ _); refine dx_blt (cd_all rfl) rfl (Bt.all (by assumption)) bb_all ?_
    | (with_reducible show DE _ _ _ _ _ (.Call (.Name "min" _) _ _ _) _ _); refine dx_blt (cd_min rfl) rfl (Bt.min (by assumption)) bb_min ?_
    | (with_reducible show DE _ _ _ _ _ (.Call (.Name "max" _) _ _ _) _ _); refine dx_blt (cd_max rfl) rfl (Bt.max (by assumption)) bb_max ?_
    | (with_reducible show DE _ _ _ _ _ (.Call (.Name "int" _) _ _ _) _ _); refine dx_ty cd_int rfl (Bt.int (by assumption)) bb_int ?_
    | (with_reducible show DE _ _ _ _ _ (.Call (.Name "list" _) _ _ _) _ _); refine dx_ty cd_list rfl (Bt.list (by assumption)) bb_list ?_
    | (with_reducible show DE _ _ _ _ _ (.Call (.Name "tuple" _) _ _ _) _ _); refine dx_ty cd_tuple rfl (Bt.tuple (by assumption)) bb_tuple ?_
    | (with_reducible show DE _ _ _ _ _ (.Call (.Name "dict" _) _ _ _) _ _); refine dx_ty (cd_dictP rfl) rfl (Bt.dict (by assumption)) bb_dict ?_
    | (with_reducible show DE _ _ _ _ _ (.Subscript (.Name _ _) (.Constant (.str _) _ _) _) _ _); refine dx_dget (j := 0) (by assumption) (by first | exact Or.inl rfl | exact Or.inr rfl) rfl (by first | exact Or.inl rfl | exact Or.inr (Or.inl rfl)) rfl (fun _ => ?_)
    | (with_reducible show DE _ _ _ _ _ (.Subscript _ (.Slice _ _ _ _) _) _ _); refine dx_slice ?_
    | (with_reducible show DE _ _ _ _ _ (.Subscript _ _ _) _ _); refine dx_ix (fun _ _ => rfl) ?_
    | (with_reducible show DE _ _ _ _ _ (.ListComp _ [⟨.Name _ _, _, [], _⟩] _ _) _ _); (first | refine dx_lcN 0 rfl (by assumption) rfl rfl rfl (fun _ _ _ _ _ => by first | exact ⟨Or.inl rfl, Or.inr rfl⟩ | exact ⟨Or.inr rfl, Or.inl rfl⟩ | exact ⟨Or.inl rfl, Or.inl rfl⟩) ?_ | refine dx_lcN 1 rfl (by assumption) rfl rfl rfl (fun _ _ _ _ _ => by first | exact ⟨Or.inl rfl, Or.inr rfl⟩ | exact ⟨Or.inr rfl, Or.inl rfl⟩ | exact ⟨Or.inl rfl, Or.inl rfl⟩) ?_ | refine dx_lcN 2 rfl (by assumption) rfl rfl rfl (fun _ _ _ _ _ => by first | exact ⟨Or.inl rfl, Or.inr rfl⟩ | exact ⟨Or.inr rfl, Or.inl rfl⟩ | exact ⟨Or.inl rfl, Or.inl rfl⟩) ?_ | refine dx_lcN 3 rfl (by assumption) rfl rfl rfl (fun _ _ _ _ _ => by first | exact ⟨Or.inl rfl, Or.inr rfl⟩ | exact ⟨Or.inr rfl, Or.inl rfl⟩ | exact ⟨Or.inl rfl, Or.inl rfl⟩) ?_ | refine dx_lcN 4 rfl (by assumption) rfl rfl rfl (fun _ _ _ _ _ => by first | exact ⟨Or.inl rfl, Or.inr rfl⟩ | exact ⟨Or.inr rfl, Or.inl rfl⟩ | exact ⟨Or.inl rfl, Or.inl rfl⟩) ?_ | refine dx_lcN 5 rfl (by assumption) rfl rfl rfl (fun _ _ _ _ _ => by first | exact ⟨Or.inl rfl, Or.inr rfl⟩ | exact ⟨Or.inr rfl, Or.inl rfl⟩ | exact ⟨Or.inl rfl, Or.inl rfl⟩) ?_ | refine dx_lcN 6 rfl (by assumption) rfl rfl rfl (fun _ _ _ _ _ => by first | exact ⟨Or.inl rfl, Or.inr rfl⟩ | exact ⟨Or.inr rfl, Or.inl rfl⟩ | exact ⟨Or.inl rfl, Or.inl rfl⟩) ?_ | refine dx_lcN 7 rfl (by assumption) rfl rfl rfl (fun _ _ _ _ _ => by first | exact ⟨Or.inl rfl, Or.inr rfl⟩ | exact ⟨Or.inr rfl, Or.inl rfl⟩ | exact ⟨Or.inl rfl, Or.inl rfl⟩) ?_ | refine dx_lcN 8 rfl (by assumption) rfl rfl rfl (fun _ _ _ _ _ => by first | exact ⟨Or.inl rfl, Or.inr rfl⟩ | exact ⟨Or.inr rfl, Or.inl rfl⟩ | exact ⟨Or.inl rfl, Or.inl rfl⟩) ?_ | refine dx_lcN 9 rfl (by assumption) rfl rfl rfl (fun _ _ _ _ _ => by first | exact ⟨Or.inl rfl, Or.inr rfl⟩ | exact ⟨Or.inr rfl, Or.inl rfl⟩ | exact ⟨Or.inl rfl, Or.inl rfl⟩) ?_)
    | (with_reducible show DE _ _ _ _ _ (.ListComp _ [⟨.Name _ _, _, [_], _⟩] _ _) _ _); (first | refine dx_lcNIf 0 rfl (by assumption) rfl rfl rfl (fun _ _ _ _ _ => by first | exact ⟨Or.inl rfl, Or.inr rfl⟩ | exact ⟨Or.inr rfl, Or.inl rfl⟩ | exact ⟨Or.inl rfl, Or.inl rfl⟩) ?_ | refine dx_lcNIf 1 rfl (by assumption) rfl rfl rfl (fun _ _ _ _ _ => by first | exact ⟨Or.inl rfl, Or.inr rfl⟩ | exact ⟨Or.inr rfl, Or.inl rfl⟩ | exact ⟨Or.inl rfl, Or.inl rfl⟩) ?_ | refine dx_lcNIf 2 rfl (by assumption) rfl rfl rfl (fun _ _ _ _ _ => by first | exact ⟨Or.inl rfl, Or.inr rfl⟩ | exact ⟨Or.inr rfl, Or.inl rfl⟩ | exact ⟨Or.inl rfl, Or.inl rfl⟩) ?_ | refine dx_lcNIf 3 rfl (by assumption) rfl rfl rfl (fun _ _ _ _ _ => by first | exact ⟨Or.inl rfl, Or.inr rfl⟩ | exact ⟨Or.inr rfl, Or.inl rfl⟩ | exact ⟨Or.inl rfl, Or.inl rfl⟩) ?_ | refine dx_lcNIf 4 rfl (by assumption) rfl rfl rfl (fun _ _ _ _ _ => by first | exact ⟨Or.inl rfl, Or.inr rfl⟩ | exact ⟨Or.inr rfl, Or.inl rfl⟩ | exact ⟨Or.inl rfl, Or.inl rfl⟩) ?_ | refine dx_lcNIf 5 rfl (by assumption) rfl rfl rfl (fun _ _ _ _ _ => by first | exact ⟨Or.inl rfl, Or.inr rfl⟩ | exact ⟨Or.inr rfl, Or.inl rfl⟩ | exact ⟨Or.inl rfl, Or.inl rfl⟩) ?_ | refine dx_lcNIf 6 rfl (by assumption) rfl rfl rfl (fun _ _ _ _ _ => by first | exact ⟨Or.inl rfl, Or.inr rfl⟩ | exact ⟨Or.inr rfl, Or.inl rfl⟩ | exact ⟨Or.inl rfl, Or.inl rfl⟩) ?_ | refine dx_lcNIf 7 rfl (by assumption) rfl rfl rfl (fun _ _ _ _ _ => by first | exact ⟨Or.inl rfl, Or.inr rfl⟩ | exact ⟨Or.inr rfl, Or.inl rfl⟩ | exact ⟨Or.inl rfl, Or.inl rfl⟩) ?_ | refine dx_lcNIf 8 rfl (by assumption) rfl rfl rfl (fun _ _ _ _ _ => by first | exact ⟨Or.inl rfl, Or.inr rfl⟩ | exact ⟨Or.inr rfl, Or.inl rfl⟩ | exact ⟨Or.inl rfl, Or.inl rfl⟩) ?_ | refine dx_lcNIf 9 rfl (by assumption) rfl rfl rfl (fun _ _ _ _ _ => by first | exact ⟨Or.inl rfl, Or.inr rfl⟩ | exact ⟨Or.inr rfl, Or.inl rfl⟩ | exact ⟨Or.inl rfl, Or.inl rfl⟩) ?_)
    | (with_reducible show DE _ _ _ _ _ (.ListComp _ [⟨.Tuple _ _ _, _, [], _⟩] _ _) _ _); (first | refine dx_lcP 0 1 rfl (by assumption) rfl rfl rfl rfl (fun _ _ _ _ _ => by first | exact ⟨⟨Or.inl rfl, Or.inr rfl⟩, ⟨Or.inl rfl, Or.inr rfl⟩⟩ | exact ⟨⟨Or.inr rfl, Or.inl rfl⟩, ⟨Or.inr rfl, Or.inl rfl⟩⟩ | exact ⟨⟨Or.inl rfl, Or.inl rfl⟩, ⟨Or.inl rfl, Or.inl rfl⟩⟩) ?_ | refine dx_lcP 1 2 rfl (by assumption) rfl rfl rfl rfl (fun _ _ _ _ _ => by first | exact ⟨⟨Or.inl rfl, Or.inr rfl⟩, ⟨Or.inl rfl, Or.inr rfl⟩⟩ | exact ⟨⟨Or.inr rfl, Or.inl rfl⟩, ⟨Or.inr rfl, Or.inl rfl⟩⟩ | exact ⟨⟨Or.inl rfl, Or.inl rfl⟩, ⟨Or.inl rfl, Or.inl rfl⟩⟩) ?_ | refine dx_lcP 1 0 rfl (by assumption) rfl rfl rfl rfl (fun _ _ _ _ _ => by first | exact ⟨⟨Or.inl rfl, Or.inr rfl⟩, ⟨Or.inl rfl, Or.inr rfl⟩⟩ | exact ⟨⟨Or.inr rfl, Or.inl rfl⟩, ⟨Or.inr rfl, Or.inl rfl⟩⟩ | exact ⟨⟨Or.inl rfl, Or.inl rfl⟩, ⟨Or.inl rfl, Or.inl rfl⟩⟩) ?_ | refine dx_lcP 2 3 rfl (by assumption) rfl rfl rfl rfl (fun _ _ _ _ _ => by first | exact ⟨⟨Or.inl rfl, Or.inr rfl⟩, ⟨Or.inl rfl, Or.inr rfl⟩⟩ | exact ⟨⟨Or.inr rfl, Or.inl rfl⟩, ⟨Or.inr rfl, Or.inl rfl⟩⟩ | exact ⟨⟨Or.inl rfl, Or.inl rfl⟩, ⟨Or.inl rfl, Or.inl rfl⟩⟩) ?_ | refine dx_lcP 2 1 rfl (by assumption) rfl rfl rfl rfl (fun _ _ _ _ _ => by first | exact ⟨⟨Or.inl rfl, Or.inr rfl⟩, ⟨Or.inl rfl, Or.inr rfl⟩⟩ | exact ⟨⟨Or.inr rfl, Or.inl rfl⟩, ⟨Or.inr rfl, Or.inl rfl⟩⟩ | exact ⟨⟨Or.inl rfl, Or.inl rfl⟩, ⟨Or.inl rfl, Or.inl rfl⟩⟩) ?_ | refine dx_lcP 3 4 rfl (by assumption) rfl rfl rfl rfl (fun _ _ _ _ _ => by first | exact ⟨⟨Or.inl rfl, Or.inr rfl⟩, ⟨Or.inl rfl, Or.inr rfl⟩⟩ | exact ⟨⟨Or.inr rfl, Or.inl rfl⟩, ⟨Or.inr rfl, Or.inl rfl⟩⟩ | exact ⟨⟨Or.inl rfl, Or.inl rfl⟩, ⟨Or.inl rfl, Or.inl rfl⟩⟩) ?_ | refine dx_lcP 3 2 rfl (by assumption) rfl rfl rfl rfl (fun _ _ _ _ _ => by first | exact ⟨⟨Or.inl rfl, Or.inr rfl⟩, ⟨Or.inl rfl, Or.inr rfl⟩⟩ | exact ⟨⟨Or.inr rfl, Or.inl rfl⟩, ⟨Or.inr rfl, Or.inl rfl⟩⟩ | exact ⟨⟨Or.inl rfl, Or.inl rfl⟩, ⟨Or.inl rfl, Or.inl rfl⟩⟩) ?_ | refine dx_lcP 4 5 rfl (by assumption) rfl rfl rfl rfl (fun _ _ _ _ _ => by first | exact ⟨⟨Or.inl rfl, Or.inr rfl⟩, ⟨Or.inl rfl, Or.inr rfl⟩⟩ | exact ⟨⟨Or.inr rfl, Or.inl rfl⟩, ⟨Or.inr rfl, Or.inl rfl⟩⟩ | exact ⟨⟨Or.inl rfl, Or.inl rfl⟩, ⟨Or.inl rfl, Or.inl rfl⟩⟩) ?_ | refine dx_lcP 4 3 rfl (by assumption) rfl rfl rfl rfl (fun _ _ _ _ _ => by first | exact ⟨⟨Or.inl rfl, Or.inr rfl⟩, ⟨Or.inl rfl, Or.inr rfl⟩⟩ | exact ⟨⟨Or.inr rfl, Or.inl rfl⟩, ⟨Or.inr rfl, Or.inl rfl⟩⟩ | exact ⟨⟨Or.inl rfl, Or.inl rfl⟩, ⟨Or.inl rfl, Or.inl rfl⟩⟩) ?_ | refine dx_lcP 5 6 rfl (by assumption) rfl rfl rfl rfl (fun _ _ _ _ _ => by first | exact ⟨⟨Or.inl rfl, Or.inr rfl⟩, ⟨Or.inl rfl, Or.inr rfl⟩⟩ | exact ⟨⟨Or.inr rfl, Or.inl rfl⟩, ⟨Or.inr rfl, Or.inl rfl⟩⟩ | exact ⟨⟨Or.inl rfl, Or.inl rfl⟩, ⟨Or.inl rfl, Or.inl rfl⟩⟩) ?_ | refine dx_lcP 5 4 rfl (by assumption) rfl rfl rfl rfl (fun _ _ _ _ _ => by first | exact ⟨⟨Or.inl rfl, Or.inr rfl⟩, ⟨Or.inl rfl, Or.inr rfl⟩⟩ | exact ⟨⟨Or.inr rfl, Or.inl rfl⟩, ⟨Or.inr rfl, Or.inl rfl⟩⟩ | exact ⟨⟨Or.inl rfl, Or.inl rfl⟩, ⟨Or.inl rfl, Or.inl rfl⟩⟩) ?_ | refine dx_lcP 6 7 rfl (by assumption) rfl rfl rfl rfl (fun _ _ _ _ _ => by first | exact ⟨⟨Or.inl rfl, Or.inr rfl⟩, ⟨Or.inl rfl, Or.inr rfl⟩⟩ | exact ⟨⟨Or.inr rfl, Or.inl rfl⟩, ⟨Or.inr rfl, Or.inl rfl⟩⟩ | exact ⟨⟨Or.inl rfl, Or.inl rfl⟩, ⟨Or.inl rfl, Or.inl rfl⟩⟩) ?_ | refine dx_lcP 6 5 rfl (by assumption) rfl rfl rfl rfl (fun _ _ _ _ _ => by first | exact ⟨⟨Or.inl rfl, Or.inr rfl⟩, ⟨Or.inl rfl, Or.inr rfl⟩⟩ | exact ⟨⟨Or.inr rfl, Or.inl rfl⟩, ⟨Or.inr rfl, Or.inl rfl⟩⟩ | exact ⟨⟨Or.inl rfl, Or.inl rfl⟩, ⟨Or.inl rfl, Or.inl rfl⟩⟩) ?_ | refine dx_lcP 7 8 rfl (by assumption) rfl rfl rfl rfl (fun _ _ _ _ _ => by first | exact ⟨⟨Or.inl rfl, Or.inr rfl⟩, ⟨Or.inl rfl, Or.inr rfl⟩⟩ | exact ⟨⟨Or.inr rfl, Or.inl rfl⟩, ⟨Or.inr rfl, Or.inl rfl⟩⟩ | exact ⟨⟨Or.inl rfl, Or.inl rfl⟩, ⟨Or.inl rfl, Or.inl rfl⟩⟩) ?_ | refine dx_lcP 7 6 rfl (by assumption) rfl rfl rfl rfl (fun _ _ _ _ _ => by first | exact ⟨⟨Or.inl rfl, Or.inr rfl⟩, ⟨Or.inl rfl, Or.inr rfl⟩⟩ | exact ⟨⟨Or.inr rfl, Or.inl rfl⟩, ⟨Or.inr rfl, Or.inl rfl⟩⟩ | exact ⟨⟨Or.inl rfl, Or.inl rfl⟩, ⟨Or.inl rfl, Or.inl rfl⟩⟩) ?_)
    | (with_reducible show DE _ _ _ _ _ (.Call (.Name "gcd" _) _ _ _) _ _); refine dx_bfun cd_gcd rfl (by assumption) ?_
    | (with_reducible show DE _ _ _ _ _ (.Call (.Name _ _) _ _ _) _ _); refine dx_call (by assumption) (by assumption) (by first | assumption | exact takes_wx0) rfl ?_)
  | (with_reducible show DT _ _ _ _ _ _ _ _); (first
    | (with_reducible show DT _ _ _ _ _ (.Compare (.Name "units" _) [.NotEq] _ _) _ _); refine dt_cmpW (od_neO (by assumption) (by assumption) (by assumption) (by assumption)) rfl ?_
    | (with_reducible show DT _ _ _ _ _ (.Compare (.Name "units" _) [.Eq] _ _) _ _); refine dt_cmpW (od_eqO (by assumption) (by assumption) (by assumption)) rfl ?_
    | (with_reducible show DT _ _ _ _ _ (.Compare _ [.Eq] _ _) _ _); refine dt_cmp (od_eq (by assumption)) rfl ?_
    | (with_reducible show DT _ _ _ _ _ (.Compare _ [.NotEq] _ _) _ _); refine dt_cmp (od_ne (by assumption)) rfl ?_
    | (with_reducible show DT _ _ _ _ _ (.Compare _ [.Lt] _ _) _ _); refine dt_cmp od_lt rfl ?_
    | (with_reducible show DT _ _ _ _ _ (.Compare _ [.LtE] _ _) _ _); refine dt_cmp od_le rfl ?_
    | (with_reducible show DT _ _ _ _ _ (.Compare _ [.Gt] _ _) _ _); refine dt_cmp od_gt rfl ?_
    | (with_reducible show DT _ _ _ _ _ (.Compare _ [.GtE] _ _) _ _); refine dt_cmp od_ge rfl ?_
    | (with_reducible show DT _ _ _ _ _ (.Compare _ [.Is] _ _) _ _); refine dt_cmp od_is rfl ?_
    | (with_reducible show DT _ _ _ _ _ (.Compare _ [.IsNot] _ _) _ _); refine dt_cmp od_isnot rfl ?_
    | (with_reducible show DT _ _ _ _ _ (.Compare _ [.In] _ _) _ _); refine dt_cmp od_in rfl ?_
    | (with_reducible show DT _ _ _ _ _ (.Compare _ [.NotIn] _ _) _ _); refine dt_cmp od_notin rfl ?_
    | (with_reducible show DT _ _ _ _ _ (.Compare _ [.LtE, .LtE] _ _) _ _); refine dt_chain od_le od_le (by with_unfolding_all rfl) ?_
    | (with_reducible show DT _ _ _ _ _ (.Compare _ [.Lt, .Lt] _ _) _ _); refine dt_chain od_lt od_lt (by with_unfolding_all rfl) ?_
    | (with_reducible show DT _ _ _ _ _ (.Compare _ [.LtE, .Lt] _ _) _ _); refine dt_chain od_le od_lt (by with_unfolding_all rfl) ?_
    | (with_reducible show DT _ _ _ _ _ (.UnaryOp .Not _ _) _ _); refine dt_not ?_
    | (with_reducible show DT _ _ _ _ _ (.BoolOp .And _ _) _ _); refine dt_w (dw_and ?_)
    | (with_reducible show DT _ _ _ _ _ (.BoolOp .Or _ _) _ _); refine dt_w (dw_or ?_)
    | (with_reducible show DT _ _ _ _ _ _ _ _); refine dt_val (fun _ => rfl) ?_)
  | (with_reducible show DW _ _ _ _ _ _ _ _); (first
    | (with_reducible show DW _ _ _ _ _ (.BoolOp .And [_] _) _ _); refine dw_and1 ?_
    | (with_reducible show DW _ _ _ _ _ (.BoolOp .Or [_] _) _ _); refine dw_or1 ?_
    | (with_reducible show DW _ _ _ _ _ (.BoolOp .And _ _) _ _); refine dw_and ?_
    | (with_reducible show DW _ _ _ _ _ (.BoolOp .Or _ _) _ _); refine dw_or ?_)
  | (with_reducible show DA _ _ _ _ _ _ _ _); (first
    | (with_reducible show DA _ _ _ _ _ [] _ _); refine da_nil ?_
    | (with_reducible show DA _ _ _ _ _ _ _ _); refine da_cons ?_)
  | (with_reducible show DP _ _ _ _ _ _ _ _); (first
    | (with_reducible show DP _ _ _ _ _ none _ _); refine dp_none ?_
    | (with_reducible show DP _ _ _ _ _ _ _ _); refine dp_some ?_)
  | (with_reducible show DI _ _ _ _ _ _ _ _ _); (first
    | (with_reducible show DI _ _ _ _ _ _ (.Call (.Name "range" _) [_] _ _) _ _); refine di_range1 rfl (Bt.range (by assumption)) ?_
    | (with_reducible show DI _ _ _ _ _ _ (.Call (.Name "range" _) _ _ _) _ _); refine di_range2 rfl (Bt.range (by assumption)) ?_
    | (with_reducible show DI _ _ _ _ _ _ (.Call (.Name "zip" _) _ _ _) _ _); refine di_zip rfl (Bt.zip (by assumption)) ?_
    | (with_reducible show DI _ _ _ _ _ _ (.Call (.Name "enumerate" _) _ _ _) _ _); refine di_enum rfl (Bt.enumerate (by assumption)) ?_
    | (with_reducible show DI _ _ _ _ _ _ _ _ _); refine di_seq ?_)
  | (with_reducible show DSs _ _ _ _ _ (.If (.Compare (.Name "errors" _) _ _ _) _ _ _ :: _) _ _); (first | refine dss_give 0 rfl ?_ | refine dss_give 1 rfl ?_ | refine dss_give 2 rfl ?_ | refine dss_give 3 rfl ?_ | refine dss_give 4 rfl ?_ | refine dss_give 5 rfl ?_ | refine dss_give 6 rfl ?_ | refine dss_give 7 rfl ?_ | refine dss_give 8 rfl ?_ | refine dss_give 9 rfl ?_ | refine dss_give 10 rfl ?_ | refine dss_give 11 rfl ?_ | refine dss_give 12 rfl ?_ | refine dss_give 13 rfl ?_ | refine dss_give 14 rfl ?_ | refine dss_give 15 rfl ?_)
  | (with_reducible show DSs _ _ _ _ _ (.Return (some (.Compare (.Name "errors" _) _ _ _)) _ :: _) _ _); (first | refine dss_give 0 rfl ?_ | refine dss_give 1 rfl ?_ | refine dss_give 2 rfl ?_ | refine dss_give 3 rfl ?_ | refine dss_give 4 rfl ?_ | refine dss_give 5 rfl ?_ | refine dss_give 6 rfl ?_ | refine dss_give 7 rfl ?_ | refine dss_give 8 rfl ?_ | refine dss_give 9 rfl ?_ | refine dss_give 10 rfl ?_ | refine dss_give 11 rfl ?_ | refine dss_give 12 rfl ?_ | refine dss_give 13 rfl ?_ | refine dss_give 14 rfl ?_ | refine dss_give 15 rfl ?_)
  | (with_reducible show DS _ _ _ _ _ (.Assign [.Name "errors" _] (.List _ _) _) _ _); (first | refine ds_setF 0 (by assumption) rfl (by first | exact Or.inl rfl | exact Or.inr rfl) (df_lst ?_) | refine ds_setF 1 (by assumption) rfl (by first | exact Or.inl rfl | exact Or.inr rfl) (df_lst ?_) | refine ds_setF 2 (by assumption) rfl (by first | exact Or.inl rfl | exact Or.inr rfl) (df_lst ?_) | refine ds_setF 3 (by assumption) rfl (by first | exact Or.inl rfl | exact Or.inr rfl) (df_lst ?_) | refine ds_setF 4 (by assumption) rfl (by first | exact Or.inl rfl | exact Or.inr rfl) (df_lst ?_) | refine ds_setF 5 (by assumption) rfl (by first | exact Or.inl rfl | exact Or.inr rfl) (df_lst ?_) | refine ds_setF 6 (by assumption) rfl (by first | exact Or.inl rfl | exact Or.inr rfl) (df_lst ?_) | refine ds_setF 7 (by assumption) rfl (by first | exact Or.inl rfl | exact Or.inr rfl) (df_lst ?_) | refine ds_setF 8 (by assumption) rfl (by first | exact Or.inl rfl | exact Or.inr rfl) (df_lst ?_) | refine ds_setF 9 (by assumption) rfl (by first | exact Or.inl rfl | exact Or.inr rfl) (df_lst ?_) | refine ds_setF 10 (by assumption) rfl (by first | exact Or.inl rfl | exact Or.inr rfl) (df_lst ?_) | refine ds_setF 11 (by assumption) rfl (by first | exact Or.inl rfl | exact Or.inr rfl) (df_lst ?_) | refine ds_setF 12 (by assumption) rfl (by first | exact Or.inl rfl | exact Or.inr rfl) (df_lst ?_) | refine ds_setF 13 (by assumption) rfl (by first | exact Or.inl rfl | exact Or.inr rfl) (df_lst ?_) | refine ds_setF 14 (by assumption) rfl (by first | exact Or.inl rfl | exact Or.inr rfl) (df_lst ?_) | refine ds_setF 15 (by assumption) rfl (by first | exact Or.inl rfl | exact Or.inr rfl) (df_lst ?_))
  | (with_reducible show DS _ _ _ _ _ (.Expr (.Call (.Attribute (.Name "errors" _) _ _) _ _ _) _) _ _); (first | refine ds_append 0 rfl (by first | exact Or.inl rfl | exact Or.inr (Or.inl rfl)) rfl (Nat.le_of_ble_eq_true rfl) ?_ | refine ds_append 1 rfl (by first | exact Or.inl rfl | exact Or.inr (Or.inl rfl)) rfl (Nat.le_of_ble_eq_true rfl) ?_ | refine ds_append 2 rfl (by first | exact Or.inl rfl | exact Or.inr (Or.inl rfl)) rfl (Nat.le_of_ble_eq_true rfl) ?_ | refine ds_append 3 rfl (by first | exact Or.inl rfl | exact Or.inr (Or.inl rfl)) rfl (Nat.le_of_ble_eq_true rfl) ?_ | refine ds_append 4 rfl (by first | exact Or.inl rfl | exact Or.inr (Or.inl rfl)) rfl (Nat.le_of_ble_eq_true rfl) ?_ | refine ds_append 5 rfl (by first | exact Or.inl rfl | exact Or.inr (Or.inl rfl)) rfl (Nat.le_of_ble_eq_true rfl) ?_ | refine ds_append 6 rfl (by first | exact Or.inl rfl | exact Or.inr (Or.inl rfl)) rfl (Nat.le_of_ble_eq_true rfl) ?_ | refine ds_append 7 rfl (by first | exact Or.inl rfl | exact Or.inr (Or.inl rfl)) rfl (Nat.le_of_ble_eq_true rfl) ?_ | refine ds_append 8 rfl (by first | exact Or.inl rfl | exact Or.inr (Or.inl rfl)) rfl (Nat.le_of_ble_eq_true rfl) ?_ | refine ds_append 9 rfl (by first | exact Or.inl rfl | exact Or.inr (Or.inl rfl)) rfl (Nat.le_of_ble_eq_true rfl) ?_ | refine ds_append 10 rfl (by first | exact Or.inl rfl | exact Or.inr (Or.inl rfl)) rfl (Nat.le_of_ble_eq_true rfl) ?_ | refine ds_append 11 rfl (by first | exact Or.inl rfl | exact Or.inr (Or.inl rfl)) rfl (Nat.le_of_ble_eq_true rfl) ?_ | refine ds_append 12 rfl (by first | exact Or.inl rfl | exact Or.inr (Or.inl rfl)) rfl (Nat.le_of_ble_eq_true rfl) ?_ | refine ds_append 13 rfl (by first | exact Or.inl rfl | exact Or.inr (Or.inl rfl)) rfl (Nat.le_of_ble_eq_true rfl) ?_ | refine ds_append 14 rfl (by first | exact Or.inl rfl | exact Or.inr (Or.inl rfl)) rfl (Nat.le_of_ble_eq_true rfl) ?_ | refine ds_append 15 rfl (by first | exact Or.inl rfl | exact Or.inr (Or.inl rfl)) rfl (Nat.le_of_ble_eq_true rfl) ?_)
  | (with_reducible show DSs _ _ _ _ _ [] _ _); refine ds_nil ?_
  | (with_reducible show DSs _ _ _ _ _ _ _ _); refine ds_cons ?_
  | (with_reducible show DS _ _ _ _ _ (.Return none _) _ _); refine ds_retN ?_
  | (with_reducible show DS _ _ _ _ _ (.Return _ _) _ _); refine ds_ret ?_
  | (with_reducible show DS _ _ _ _ _ (.If _ _ _ _) _ _); refine ds_if ?_
  | (with_reducible show DS _ _ _ _ _ (.Pass _) _ _); refine ds_pass ?_
  | (with_reducible show DS _ _ _ _ _ (.Expr (.Call (.Name _ _) _ _ _) _) _ _); refine ds_expr ?_
  | (with_reducible show DS _ _ _ _ _ (.Assign [.Name _ _] _ _) _ _); (first | refine ds_set 0 (by assumption) rfl (by first | exact Or.inl rfl | exact Or.inr rfl) ?_ | refine ds_set 1 (by assumption) rfl (by first | exact Or.inl rfl | exact Or.inr rfl) ?_ | refine ds_set 2 (by assumption) rfl (by first | exact Or.inl rfl | exact Or.inr rfl) ?_ | refine ds_set 3 (by assumption) rfl (by first | exact Or.inl rfl | exact Or.inr rfl) ?_ | refine ds_set 4 (by assumption) rfl (by first | exact Or.inl rfl | exact Or.inr rfl) ?_ | refine ds_set 5 (by assumption) rfl (by first | exact Or.inl rfl | exact Or.inr rfl) ?_ | refine ds_set 6 (by assumption) rfl (by first | exact Or.inl rfl | exact Or.inr rfl) ?_ | refine ds_set 7 (by assumption) rfl (by first | exact Or.inl rfl | exact Or.inr rfl) ?_ | refine ds_set 8 (by assumption) rfl (by first | exact Or.inl rfl | exact Or.inr rfl) ?_ | refine ds_set 9 (by assumption) rfl (by first | exact Or.inl rfl | exact Or.inr rfl) ?_ | refine ds_set 10 (by assumption) rfl (by first | exact Or.inl rfl | exact Or.inr rfl) ?_ | refine ds_set 11 (by assumption) rfl (by first | exact Or.inl rfl | exact Or.inr rfl) ?_ | refine ds_set 12 (by assumption) rfl (by first | exact Or.inl rfl | exact Or.inr rfl) ?_ | refine ds_set 13 (by assumption) rfl (by first | exact Or.inl rfl | exact Or.inr rfl) ?_)
  | (with_reducible show DS _ _ _ _ _ (.Assign [.Tuple [.Name _ _, .Name _ _] _ _] (.Tuple [_, _] _ _) _) _ _); (first | refine ds_par2 0 1 rfl (by assumption) rfl rfl (by decide) rfl rfl rfl ?_ | refine ds_par2 0 2 rfl (by assumption) rfl rfl (by decide) rfl rfl rfl ?_ | refine ds_par2 1 0 rfl (by assumption) rfl rfl (by decide) rfl rfl rfl ?_ | refine ds_par2 1 2 rfl (by assumption) rfl rfl (by decide) rfl rfl rfl ?_ | refine ds_par2 1 3 rfl (by assumption) rfl rfl (by decide) rfl rfl rfl ?_ | refine ds_par2 2 0 rfl (by assumption) rfl rfl (by decide) rfl rfl rfl ?_ | refine ds_par2 2 1 rfl (by assumption) rfl rfl (by decide) rfl rfl rfl ?_ | refine ds_par2 2 3 rfl (by assumption) rfl rfl (by decide) rfl rfl rfl ?_ | refine ds_par2 2 4 rfl (by assumption) rfl rfl (by decide) rfl rfl rfl ?_ | refine ds_par2 3 1 rfl (by assumption) rfl rfl (by decide) rfl rfl rfl ?_ | refine ds_par2 3 2 rfl (by assumption) rfl rfl (by decide) rfl rfl rfl ?_ | refine ds_par2 3 4 rfl (by assumption) rfl rfl (by decide) rfl rfl rfl ?_ | refine ds_par2 3 5 rfl (by assumption) rfl rfl (by decide) rfl rfl rfl ?_ | refine ds_par2 4 2 rfl (by assumption) rfl rfl (by decide) rfl rfl rfl ?_ | refine ds_par2 4 3 rfl (by assumption) rfl rfl (by decide) rfl rfl rfl ?_ | refine ds_par2 4 5 rfl (by assumption) rfl rfl (by decide) rfl rfl rfl ?_ | refine ds_par2 4 6 rfl (by assumption) rfl rfl (by decide) rfl rfl rfl ?_ | refine ds_par2 5 3 rfl (by assumption) rfl rfl (by decide) rfl rfl rfl ?_ | refine ds_par2 5 4 rfl (by assumption) rfl rfl (by decide) rfl rfl rfl ?_ | refine ds_par2 5 6 rfl (by assumption) rfl rfl (by decide) rfl rfl rfl ?_ | refine ds_par2 5 7 rfl (by assumption) rfl rfl (by decide) rfl rfl rfl ?_ | refine ds_par2 6 4 rfl (by assumption) rfl rfl (by decide) rfl rfl rfl ?_ | refine ds_par2 6 5 rfl (by assumption) rfl rfl (by decide) rfl rfl rfl ?_ | refine ds_par2 6 7 rfl (by assumption) rfl rfl (by decide) rfl rfl rfl ?_ | refine ds_par2 6 8 rfl (by assumption) rfl rfl (by decide) rfl rfl rfl ?_ | refine ds_par2 7 5 rfl (by assumption) rfl rfl (by decide) rfl rfl rfl ?_ | refine ds_par2 7 6 rfl (by assumption) rfl rfl (by decide) rfl rfl rfl ?_ | refine ds_par2 7 8 rfl (by assumption) rfl rfl (by decide) rfl rfl rfl ?_ | refine ds_par2 7 9 rfl (by assumption) rfl rfl (by decide) rfl rfl rfl ?_ | refine ds_par2 8 6 rfl (by assumption) rfl rfl (by decide) rfl rfl rfl ?_ | refine ds_par2 8 7 rfl (by assumption) rfl rfl (by decide) rfl rfl rfl ?_ | refine ds_par2 8 9 rfl (by assumption) rfl rfl (by decide) rfl rfl rfl ?_ | refine ds_par2 9 7 rfl (by assumption) rfl rfl (by decide) rfl rfl rfl ?_ | refine ds_par2 9 8 rfl (by assumption) rfl rfl (by decide) rfl rfl rfl ?_)
  | (with_reducible show DS _ _ _ _ _ (.Assign [.Tuple [.Name _ _, .Name _ _, .Name _ _] _ _] (.Tuple [_, _, _] _ _) _) _ _); (first | refine ds_par3 0 1 2 rfl (by assumption) rfl rfl rfl (by decide) (by decide) (by decide) rfl rfl rfl rfl ?_ | refine ds_par3 1 2 3 rfl (by assumption) rfl rfl rfl (by decide) (by decide) (by decide) rfl rfl rfl rfl ?_ | refine ds_par3 2 3 4 rfl (by assumption) rfl rfl rfl (by decide) (by decide) (by decide) rfl rfl rfl rfl ?_ | refine ds_par3 3 4 5 rfl (by assumption) rfl rfl rfl (by decide) (by decide) (by decide) rfl rfl rfl rfl ?_ | refine ds_par3 4 5 6 rfl (by assumption) rfl rfl rfl (by decide) (by decide) (by decide) rfl rfl rfl rfl ?_ | refine ds_par3 5 6 7 rfl (by assumption) rfl rfl rfl (by decide) (by decide) (by decide) rfl rfl rfl rfl ?_ | refine ds_par3 6 7 8 rfl (by assumption) rfl rfl rfl (by decide) (by decide) (by decide) rfl rfl rfl rfl ?_ | refine ds_par3 7 8 9 rfl (by assumption) rfl rfl rfl (by decide) (by decide) (by decide) rfl rfl rfl rfl ?_ | refine ds_par3 8 9 10 rfl (by assumption) rfl rfl rfl (by decide) (by decide) (by decide) rfl rfl rfl rfl ?_ | refine ds_par3 9 10 11 rfl (by assumption) rfl rfl rfl (by decide) (by decide) (by decide) rfl rfl rfl rfl ?_)
  | (with_reducible show DS _ _ _ _ _ (.Assign [.Subscript _ _ _] _ _) _ _); refine ds_dput 0 (by assumption) (by first | exact Or.inl rfl | exact Or.inr rfl) rfl (by first | exact Or.inl rfl | exact Or.inr (Or.inl rfl)) rfl ?_
  | refine And.intro (Nat.le_of_ble_eq_true rfl : List.length _ ≤ _) ?_
  | (with_reducible show gIx _ _ _); refine Exists.intro _ (Exists.intro _ (Exists.intro _ (And.intro rfl (And.intro rfl (And.intro rfl ?_)))))
  | refine Exists.intro _ (And.intro (rfl : seqD _ = some _) ?_)
  | refine And.intro (rfl : List.length _ = List.length _) ?_
  | (with_reducible show tru _ _); refine Exists.intro _ (And.intro rfl ?_)
  | refine brT rfl ?_
  | refine brF rfl ?_
  | exact And.intro (by decide) (by assumption)
  | (fail_if_success first | (with_reducible show DE _ _ _ _ _ _ _ _) | (with_reducible show DSs _ _ _ _ _ _ _ _) | (with_reducible show DW _ _ _ _ _ _ _ _) | (with_reducible show DT _ _ _ _ _ _ _ _) | (with_reducible show DA _ _ _ _ _ _ _ _) | (with_reducible show DS _ _ _ _ _ _ _ _) | (with_reducible show DP _ _ _ _ _ _ _ _) | (with_reducible show DI _ _ _ _ _ _ _ _ _) | (with_reducible show tru _ _)); (first | show DE _ _ _ _ _ _ _ _ | show DSs _ _ _ _ _ _ _ _ | show DW _ _ _ _ _ _ _ _ | show DT _ _ _ _ _ _ _ _ | show DA _ _ _ _ _ _ _ _ | show DS _ _ _ _ _ _ _ _ | show DP _ _ _ _ _ _ _ _ | show DI _ _ _ _ _ _ _ _ _ | show tru _ _)))
/-- what the top has left, beside the names that are the built-in ones -/
structure Tx (G : Pg) : Prop where
  b : Bt G.mg
  gcd : G.mg "gcd" = some (.builtin "math.gcd")
  most : GInt G.mg "MOST" (10 ^ 300)
  mostRoot : GInt G.mg "MOST_ROOT" 99
  mostRoots : GInt G.mg "MOST_ROOTS" 2
  mostLens : GInt G.mg "MOST_LENGTHS" 400
/-- a def of the top stands -/
def At (G : Pg) (x : Str) (st : Stmt) : Prop := ∃ fa fd, FunD G.K x x (defArgs st) (defBody st) (defScope st) [] [] fa fd ∧ G.mg x = some (.ref fa)
mutual
/-- plain data: no objects -/
def pl : D → Bool
  | .tup l => plL l
  | .lst l => plL l
  | .dic _ ds => plL ds
  | .ins _ _ _ => false
  | .exc _ _ _ => false
  | .drw => false
  | .frz _ => false
  | _ => true
def plL : List D → Bool
  | [] => true
  | d :: ds => pl d && plL ds
end
theorem pl_prim {d : D} (h : pl d = true) : prim d = true := by cases d <;> first | rfl | (simp [pl] at h)
theorem plL_mem : ∀ {l : List D}, plL l = true → ∀ d ∈ l, pl d = true
  | [], _, _, h => by cases h
  | e :: l, h, d, hd => by
    simp only [plL, Bool.and_eq_true] at h
    rcases List.mem_cons.mp hd with rfl | hd
    · exact h.1
    · exact plL_mem h.2 d hd
/-! ### numbers, ratios -/
def isNum : D → Bool
  | .int _ => true
  | _ => false
theorem isNum_eq (d : D) : isNum d = (isP "int" d && !isP "bool" d) := by cases d <;> rfl
def f_is_number : FS := fun ds Kp _ => as1 (fun d => pl d = true ∧ Kp (.bl (isNum d))) ds
abbrev s_is_number : Stmt := top 13
theorem sc_is_number : FnScope ["thing"] ["thing"] (defScope s_is_number) := ⟨rfl, rfl, rfl, by decide +kernel, rfl, by decide +kernel, by decide +kernel⟩
theorem ok_is_number {G : Pg} {k : Nat} (T : Tx G) (h : At G "is_number" s_is_number) : Fn G "is_number" (k + 1) ["thing"] f_is_number := by
  obtain ⟨fa, fd, F, hm⟩ := h
  refine Fn.of F hm sc_is_number (fun _ _ _ _ _ _ us hl => match us, hl with | [_], _ => rfl) ?_
  intro cdv A outer s H E dr M ds Kp Ke tk po hr hl hf
  have tb := T.b
  have nd := sc_is_number.nd
  obtain ⟨d, rfl, hp, k⟩ := as1_ex hf
  have hp := pl_prim hp
  rw [isNum_eq] at k
  repeat (walk_at "d")
  refine ⟨hp, fun h => ?_, fun h => ?_⟩
  · rw [h] at k
    repeat (walk_at "d")
    exact ⟨hp, k⟩
  · rw [h] at k
    exact k
def isRat : D → Bool
  | .tup [.int a, .int b] => decide (0 < b) && (((Nat.gcd a.natAbs b.natAbs : Nat) : Int) == 1)
  | _ => false
def f_is_ratio : FS := fun ds Kp _ => as1 (fun d => pl d = true ∧ Kp (.bl (isRat d))) ds
abbrev s_is_ratio : Stmt := top 14
theorem sc_is_ratio : FnScope ["thing", "part"] ["thing"] (defScope s_is_ratio) := ⟨rfl, rfl, rfl, by decide +kernel, rfl, by decide +kernel, by decide +kernel⟩
theorem ok_is_ratio {G : Pg} {k : Nat} (T : Tx G) (h : At G "is_ratio" s_is_ratio) (c_is_number : Fn G "is_number" k ["thing"] f_is_number) : Fn G "is_ratio" (k + 1) ["thing"] f_is_ratio := by
  obtain ⟨fa, fd, F, hm⟩ := h
  refine Fn.of F hm sc_is_ratio (fun _ _ _ _ _ _ us hl => match us, hl with | [_], _ => rfl) ?_
  intro cdv A outer s H E dr M ds Kp Ke tk po hr hl hf
  have tb := T.b
  have nd := sc_is_ratio.nd
  have gg := T.gcd

  obtain ⟨d, rfl, hp', k⟩ := as1_ex hf
  have hp := pl_prim hp'
  repeat (walk_at "d")
  refine ⟨hp, ?_⟩
  by_cases ht : ∃ l, d = .tup l
  · obtain ⟨l, rfl⟩ := ht
    by_cases h2 : ∃ a b, l = [a, b]
    · obtain ⟨a, b, rfl⟩ := h2
      simp only [pl, plL, Bool.and_eq_true] at hp'
      obtain ⟨pa, pb, -⟩ := hp'
      walk_at "go"
      refine lc_map (fun d => .bl (isNum d)) (by simp) (fun _ _ => trivial) (fun d hd A s H C cl fp => ?_) ?_
      · walk_at "go"
        refine ⟨?_, rfl⟩
        rcases List.mem_cons.mp hd with rfl | hd
        · exact pa
        · rcases List.mem_cons.mp hd with rfl | hd
          · exact pb
          · cases hd
      walk_at "go"
      refine ⟨_, [isNum a, isNum b], rfl, rfl, ?_⟩
      by_cases hn : ∃ i j, a = .int i ∧ b = .int j
      · obtain ⟨i, j, rfl, rfl⟩ := hn
        walk_at "go"
        by_cases hj : (0 : Int) < j
        · refine brT (decide_eq_true hj) ?_
          walk_at "go"
          have e : isRat (.tup [.int i, .int j]) = (((Nat.gcd i.natAbs j.natAbs : Nat) : Int) == 1) := by
            show (decide (0 < j) && _) = _
            rw [decide_eq_true hj]; rfl
          rw [e] at k
          exact k
        · refine brF (decide_eq_false hj) ?_
          have e : isRat (.tup [.int i, .int j]) = false := by
            show (decide (0 < j) && _) = _
            rw [decide_eq_false hj]; rfl
          rw [e] at k
          exact k
      · have e : isRat (.tup [a, b]) = false := by
          cases a <;> first | rfl | (cases b <;> first | rfl | exact absurd ⟨_, _, rfl, rfl⟩ hn)
        have e2 : ([isNum a, isNum b].all id) = false := by
          cases a <;> first | rfl | (cases b <;> first | rfl | exact absurd ⟨_, _, rfl, rfl⟩ hn)
        rw [e] at k
        rw [e2]
        walk_at "go"
        exact k
    · have e : ((l.length : Int) == 2) = false := by
        match l, h2 with
        | [], _ => rfl
        | [_], _ => rfl
        | [a, b], h => exact absurd ⟨a, b, rfl⟩ h
        | _ :: _ :: _ :: r, _ => simp only [List.length_cons, beq_eq_false_iff_ne]; omega
      have e2 : isRat (.tup l) = false := by
        match l, h2 with
        | [], _ => rfl
        | [a], _ => cases a <;> rfl
        | [a, b], h => exact absurd ⟨a, b, rfl⟩ h
        | a :: b :: _ :: r, _ => cases a <;> first | rfl | (cases b <;> rfl)
      rw [e2] at k
      walk_at "go"
      refine brT (by rw [e]; rfl) ?_
      walk_at "go"
      exact k
  · have e : isP "tuple" d = false := by cases d <;> first | rfl | exact absurd ⟨_, rfl⟩ ht
    have e2 : isRat d = false := by cases d <;> first | rfl | exact absurd ⟨_, rfl⟩ ht
    rw [e2] at k
    rw [e]
    walk_at "go"
    exact k
def asRat : D → D
  | .tup l => .tup l
  | d => .tup [d, .int 1]
def f_as_ratio : FS := fun ds Kp _ => as1 (fun d => pl d = true ∧ Kp (asRat d)) ds
abbrev s_as_ratio : Stmt := top 15
theorem sc_as_ratio : FnScope ["number"] ["number"] (defScope s_as_ratio) := ⟨rfl, rfl, rfl, by decide +kernel, rfl, by decide +kernel, by decide +kernel⟩
theorem ok_as_ratio {G : Pg} {k : Nat} (T : Tx G) (h : At G "as_ratio" s_as_ratio) : Fn G "as_ratio" (k + 1) ["number"] f_as_ratio := by
  obtain ⟨fa, fd, F, hm⟩ := h
  refine Fn.of F hm sc_as_ratio (fun _ _ _ _ _ _ us hl => match us, hl with | [_], _ => rfl) ?_
  intro cdv A outer s H E dr M ds Kp Ke tk po hr hl hf
  have tb := T.b
  have nd := sc_as_ratio.nd
  obtain ⟨d, rfl, hp', k⟩ := as1_ex hf
  have hp := pl_prim hp'
  walk_at "go"
  refine ⟨hp, ?_⟩
  by_cases ht : ∃ l, d = .tup l
  · obtain ⟨l, rfl⟩ := ht
    walk_at "go"
    exact k
  · have e : isP "tuple" d = false := by cases d <;> first | rfl | exact absurd ⟨_, rfl⟩ ht
    have e2 : asRat d = .tup [d, .int 1] := by cases d <;> first | rfl | exact absurd ⟨_, rfl⟩ ht
    rw [e2] at k
    rw [e]
    walk_at "go"
    exact ⟨by simp, k⟩
abbrev rat (a b : Int) : D := .tup [.int a, .int b]
abbrev MOST : Int := 10 ^ 300
def few1 (a : Int) : Bool := decide (-MOST < a) && decide (a < MOST)
def few (a b : Int) : Bool := few1 a && few1 b
def f_has_few_digits : FS := fun ds Kp _ => ∃ a b, ds = [rat a b] ∧ Kp (.bl (few a b))
def few1D : D → D
  | .int a => .bl (few1 a)
  | d => d
abbrev s_has_few_digits : Stmt := top 16
theorem sc_has_few_digits : FnScope ["ratio", "part"] ["ratio"] (defScope s_has_few_digits) := ⟨rfl, rfl, rfl, by decide +kernel, rfl, by decide +kernel, by decide +kernel⟩
theorem ok_has_few_digits {G : Pg} {k : Nat} (T : Tx G) (h : At G "has_few_digits" s_has_few_digits) : Fn G "has_few_digits" (k + 1) ["ratio"] f_has_few_digits := by
  obtain ⟨fa, fd, F, hm⟩ := h
  refine Fn.of F hm sc_has_few_digits (fun _ _ _ _ _ _ us hl => match us, hl with | [_], _ => rfl) ?_
  intro cdv A outer s H E dr M ds Kp Ke tk po hr hl hf
  have tb := T.b
  have nd := sc_has_few_digits.nd
  obtain ⟨a, b, rfl, k⟩ := hf
  have hM := T.most
  walk_at "go"
  refine lc_map few1D (by simp) (fun _ _ => trivial) (fun d hd A s H C cl fp => ?_) ?_
  · have : ∃ i, d = .int i := by
      rcases List.mem_cons.mp hd with rfl | hd
      · exact ⟨_, rfl⟩
      · rcases List.mem_cons.mp hd with rfl | hd
        · exact ⟨_, rfl⟩
        · cases hd
    obtain ⟨i, rfl⟩ := this
    walk_at "go"
    refine ⟨fun (h : decide (-MOST < i) = true) => ?_, fun (h : decide (-MOST < i) = false) => ?_⟩
    · walk_at "go"
      show D.bl _ = D.bl (few1 i)
      rw [few1, h]; rfl
    · show D.bl _ = D.bl (few1 i)
      rw [few1, h]; rfl
  walk_at "go"
  refine ⟨_, [few1 a, few1 b], rfl, rfl, ?_⟩
  have e : ([few1 a, few1 b].all id) = few a b := by simp [few]
  rw [e]
  exact k
def isGiv : D → Bool
  | .int a => few1 a
  | .tup [.int a, .int b] => isRat (.tup [.int a, .int b]) && few a b
  | _ => false
def f_is_given_number : FS := fun ds Kp _ => as1 (fun d => pl d = true ∧ Kp (.bl (isGiv d))) ds
abbrev s_is_given_number : Stmt := top 17
theorem sc_is_given_number : FnScope ["thing"] ["thing"] (defScope s_is_given_number) := ⟨rfl, rfl, rfl, by decide +kernel, rfl, by decide +kernel, by decide +kernel⟩
theorem ok_is_given_number {G : Pg} {k : Nat} (T : Tx G) (h : At G "is_given_number" s_is_given_number) (c_is_number : Fn G "is_number" k ["thing"] f_is_number) (c_is_ratio : Fn G "is_ratio" k ["thing"] f_is_ratio) (c_as_ratio : Fn G "as_ratio" k ["number"] f_as_ratio) (c_has_few_digits : Fn G "has_few_digits" k ["ratio"] f_has_few_digits) : Fn G "is_given_number" (k + 1) ["thing"] f_is_given_number := by
  obtain ⟨fa, fd, F, hm⟩ := h
  refine Fn.of F hm sc_is_given_number (fun _ _ _ _ _ _ us hl => match us, hl with | [_], _ => rfl) ?_
  intro cdv A outer s H E dr M ds Kp Ke tk po hr hl hf
  have tb := T.b
  have nd := sc_is_given_number.nd
  obtain ⟨d, rfl, hp, k⟩ := as1_ex hf
  walk_at "go"
  refine ⟨hp, ?_⟩
  by_cases h : ∃ i, d = .int i
  · obtain ⟨i, rfl⟩ := h
    walk_at "go"
    refine ⟨hp, ?_⟩
    walk_at "go"
    refine ⟨i, 1, rfl, ?_⟩
    have e : isGiv (.int i) = few i 1 := by
      show few1 i = (few1 i && few1 1)
      rw [show few1 1 = true from by decide +kernel, Bool.and_true]
    rw [e] at k
    exact k
  · have e : isNum d = false := by cases d <;> first | rfl | exact absurd ⟨_, rfl⟩ h
    rw [e]
    walk_at "go"
    refine ⟨hp, ?_⟩
    by_cases h2 : ∃ i j, d = rat i j ∧ isRat (rat i j) = true
    · obtain ⟨i, j, rfl, hr2⟩ := h2
      rw [hr2]
      walk_at "go"
      refine ⟨hp, ?_⟩
      walk_at "go"
      refine ⟨i, j, rfl, ?_⟩
      have e : isGiv (rat i j) = few i j := by
        show (isRat (rat i j) && few i j) = _
        rw [hr2, Bool.true_and]
      rw [e] at k
      exact k
    · have e1 : isRat d = false := by
        cases hh : isRat d with
        | false => rfl
        | true =>
          refine absurd ?_ h2
          unfold isRat at hh
          split at hh
          · rename_i a b
            exact ⟨a, b, rfl, hh⟩
          · cases hh
      have e2 : isGiv d = false := by
        unfold isGiv
        split
        · exact absurd ⟨_, rfl⟩ h
        · rw [e1]; rfl
        · rfl
      rw [e2] at k
      rw [e1]
      walk_at "go"
      exact k
/-! sums of ratios -/
def sz (n : Nat) (i : Int) : Prop := i.natAbs < 2 ^ n
theorem sz.log {n : Nat} {i : Int} (h : sz n i) (hn : 0 < n) : i.natAbs.log2 < n := by
  by_cases c : i.natAbs = 0
  · rw [c]; exact hn
  · exact (Nat.log2_lt c).mpr h
theorem sz.mul {n m : Nat} {i j : Int} (h : sz n i) (g : sz m j) : sz (n + m) (i * j) := by
  unfold sz at *
  rw [Int.natAbs_mul, Nat.pow_add]
  exact Nat.mul_lt_mul'' h g
theorem sz.add {n : Nat} {i j : Int} (h : sz n i) (g : sz n j) : sz (n + 1) (i + j) := by
  unfold sz at *
  have := Int.natAbs_add_le i j
  omega
theorem sz.sub {n : Nat} {i j : Int} (h : sz n i) (g : sz n j) : sz (n + 1) (i - j) := by
  unfold sz at *
  have := Int.natAbs_sub_le i j
  omega
theorem sz.mono {n m : Nat} {i : Int} (h : sz n i) (g : n ≤ m) : sz m i := Nat.lt_of_lt_of_le h (Nat.pow_le_pow_right (by decide) g)
theorem sz.cmul {n m : Nat} {i j : Int} (h : sz n i) (g : sz m j) (hn : 0 < n) (hm : 0 < m) (hb : n + m ≤ 1000000) : CMulD i j := .inr (by
  have := h.log hn
  have := g.log hm
  show _ + _ < _
  omega)
abbrev gcdI (x y : Int) : Int := ((Nat.gcd x.natAbs y.natAbs : Nat) : Int)
theorem gcdI_pos {x y : Int} (h : 0 < y) : 0 < gcdI x y := by
  have : 0 < Nat.gcd x.natAbs y.natAbs := Nat.gcd_pos_of_pos_right _ (by omega)
  show (0 : Int) < (_ : Nat)
  omega
theorem gcdI_le {x y : Int} (h : 0 < y) : (gcdI x y).natAbs ≤ y.natAbs := by
  show ((_ : Nat) : Int).natAbs ≤ _
  rw [Int.natAbs_natCast]
  exact Nat.gcd_le_right _ (by omega)
/-- a pair as a ratio -/
abbrev rpair (x y : Int) : D := rat (x / gcdI x y) (y / gcdI x y)
def f_as_pair : FS := fun ds Kp _ => ∃ x y, ds = [.int x, .int y] ∧ 0 < y ∧ sz 9000 y ∧ Kp (rpair x y)
abbrev s_as_pair : Stmt := top 18
theorem sc_as_pair : FnScope ["above", "below", "least"] ["above", "below"] (defScope s_as_pair) := ⟨rfl, rfl, rfl, by decide +kernel, rfl, by decide +kernel, by decide +kernel⟩
theorem ok_as_pair {G : Pg} {k : Nat} (T : Tx G) (h : At G "as_pair" s_as_pair) : Fn G "as_pair" (k + 1) ["above", "below"] f_as_pair := by
  obtain ⟨fa, fd, F, hm⟩ := h
  refine Fn.of F hm sc_as_pair (fun _ _ _ _ _ _ us hl => match us, hl with | [_, _], _ => rfl) ?_
  intro cdv A outer s H E dr M ds Kp Ke tk po hr hl hf
  have tb := T.b
  have nd := sc_as_pair.nd
  obtain ⟨x, y, rfl, h0, hs, k⟩ := hf
  have gg := T.gcd
  have hg : CDivW 0 (gcdI x y) := ⟨gcdI_pos h0, (Nat.lt_of_le_of_lt (gcdI_le h0) hs |> fun z => sz.log (i := gcdI x y) z (by decide))⟩
  walk_at "go"
  refine brF (decide_eq_false (by omega)) ?_
  walk_at "go"
  refine ⟨hg, ?_⟩
  walk_at "go"
  refine ⟨hg, ?_⟩
  walk_at "go"
  exact ⟨by simp, k⟩
def f_plus : FS := fun ds Kp _ => ∃ a b c d, ds = [rat a b, rat c d] ∧ 0 < b ∧ 0 < d ∧ sz 4000 a ∧ sz 4000 b ∧ sz 4000 c ∧ sz 4000 d ∧ Kp (rpair (a * d + c * b) (b * d))
abbrev s_plus : Stmt := top 19
theorem sc_plus : FnScope ["one", "other"] ["one", "other"] (defScope s_plus) := ⟨rfl, rfl, rfl, by decide +kernel, rfl, by decide +kernel, by decide +kernel⟩
theorem ok_plus {G : Pg} {k : Nat} (T : Tx G) (h : At G "plus" s_plus) (c_as_pair : Fn G "as_pair" k ["above", "below"] f_as_pair) : Fn G "plus" (k + 1) ["one", "other"] f_plus := by
  obtain ⟨fa, fd, F, hm⟩ := h
  refine Fn.of F hm sc_plus (fun _ _ _ _ _ _ us hl => match us, hl with | [_, _], _ => rfl) ?_
  intro cdv A outer s H E dr M ds Kp Ke tk po hr hl hf
  have tb := T.b
  have nd := sc_plus.nd
  obtain ⟨a, b, c, d, rfl, hb, hd, s1, s2, s3, s4, k⟩ := hf
  walk_at "go"
  refine ⟨s1.cmul s4 (by decide) (by decide) (by decide), ?_⟩
  walk_at "go"
  refine ⟨s3.cmul s2 (by decide) (by decide) (by decide), ?_⟩
  walk_at "go"
  refine ⟨s2.cmul s4 (by decide) (by decide) (by decide), ?_⟩
  walk_at "go"
  exact ⟨_, _, rfl, Int.mul_pos hb hd, (s2.mul s4).mono (by decide), k⟩
def f_minus : FS := fun ds Kp _ => ∃ a b c d, ds = [rat a b, rat c d] ∧ 0 < b ∧ 0 < d ∧ sz 4000 a ∧ sz 4000 b ∧ sz 4000 c ∧ sz 4000 d ∧ Kp (rpair (a * d - c * b) (b * d))
abbrev s_minus : Stmt := top 20
theorem sc_minus : FnScope ["one", "other"] ["one", "other"] (defScope s_minus) := ⟨rfl, rfl, rfl, by decide +kernel, rfl, by decide +kernel, by decide +kernel⟩
theorem ok_minus {G : Pg} {k : Nat} (T : Tx G) (h : At G "minus" s_minus) (c_as_pair : Fn G "as_pair" k ["above", "below"] f_as_pair) : Fn G "minus" (k + 1) ["one", "other"] f_minus := by
  obtain ⟨fa, fd, F, hm⟩ := h
  refine Fn.of F hm sc_minus (fun _ _ _ _ _ _ us hl => match us, hl with | [_, _], _ => rfl) ?_
  intro cdv A outer s H E dr M ds Kp Ke tk po hr hl hf
  have tb := T.b
  have nd := sc_minus.nd
  obtain ⟨a, b, c, d, rfl, hb, hd, s1, s2, s3, s4, k⟩ := hf
  walk_at "go"
  refine ⟨s1.cmul s4 (by decide) (by decide) (by decide), ?_⟩
  walk_at "go"
  refine ⟨s3.cmul s2 (by decide) (by decide) (by decide), ?_⟩
  walk_at "go"
  refine ⟨s2.cmul s4 (by decide) (by decide) (by decide), ?_⟩
  walk_at "go"
  exact ⟨_, _, rfl, Int.mul_pos hb hd, (s2.mul s4).mono (by decide), k⟩
def f_times : FS := fun ds Kp _ => ∃ a b c d, ds = [rat a b, rat c d] ∧ 0 < b ∧ 0 < d ∧ sz 4000 a ∧ sz 4000 b ∧ sz 4000 c ∧ sz 4000 d ∧ Kp (rpair (a * c) (b * d))
abbrev s_times : Stmt := top 21
theorem sc_times : FnScope ["one", "other"] ["one", "other"] (defScope s_times) := ⟨rfl, rfl, rfl, by decide +kernel, rfl, by decide +kernel, by decide +kernel⟩
theorem ok_times {G : Pg} {k : Nat} (T : Tx G) (h : At G "times" s_times) (c_as_pair : Fn G "as_pair" k ["above", "below"] f_as_pair) : Fn G "times" (k + 1) ["one", "other"] f_times := by
  obtain ⟨fa, fd, F, hm⟩ := h
  refine Fn.of F hm sc_times (fun _ _ _ _ _ _ us hl => match us, hl with | [_, _], _ => rfl) ?_
  intro cdv A outer s H E dr M ds Kp Ke tk po hr hl hf
  have tb := T.b
  have nd := sc_times.nd
  obtain ⟨a, b, c, d, rfl, hb, hd, s1, s2, s3, s4, k⟩ := hf
  walk_at "go"
  refine ⟨s1.cmul s3 (by decide) (by decide) (by decide), ?_⟩
  walk_at "go"
  refine ⟨s2.cmul s4 (by decide) (by decide) (by decide), ?_⟩
  walk_at "go"
  exact ⟨_, _, rfl, Int.mul_pos hb hd, (s2.mul s4).mono (by decide), k⟩
/-! ### lengths: tuples of ratios -/
abbrev ratP (x : Int × Int) : D := rat x.1 x.2
def lenD (p : List (Int × Int)) : D := .tup (p.map ratP)
def pairP (x y : Int) : Int × Int := (x / gcdI x y, y / gcdI x y)
def plusP (x y : Int × Int) : Int × Int := pairP (x.1 * y.2 + y.1 * x.2) (x.2 * y.2)
def minusP (x y : Int × Int) : Int × Int := pairP (x.1 * y.2 - y.1 * x.2) (x.2 * y.2)
def timesP (x y : Int × Int) : Int × Int := pairP (x.1 * y.1) (x.2 * y.2)
/-- a ratio that is not too great -/
structure OkP (n : Nat) (x : Int × Int) : Prop where
  pos : 0 < x.2
  up : sz n x.1
  dn : sz n x.2
theorem OkP.mono {n m : Nat} {x : Int × Int} (h : OkP n x) (g : n ≤ m) : OkP m x := ⟨h.pos, h.up.mono g, h.dn.mono g⟩
/-- a map over pairs of ratios -/
def pairF (g : Int × Int → Int × Int → Int × Int) : D → D
  | .tup [.tup [.int a, .int b], .tup [.int c, .int d]] => ratP (g (a, b) (c, d))
  | d => d
theorem zip_mem {p q : List (Int × Int)} {d : D} (h : d ∈ zipD (p.map ratP) (q.map ratP)) : ∃ x ∈ p, ∃ y ∈ q, d = .tup [ratP x, ratP y] := by
  simp only [zipD, List.mem_map] at h
  obtain ⟨⟨u, v⟩, h, rfl⟩ := h
  obtain ⟨hu, hv⟩ := List.of_mem_zip h
  obtain ⟨x, hx, rfl⟩ := List.mem_map.mp hu
  obtain ⟨y, hy, rfl⟩ := List.mem_map.mp hv
  exact ⟨x, hx, y, hy, rfl⟩
theorem zip_map (g : Int × Int → Int × Int → Int × Int) : ∀ (p q : List (Int × Int)), (zipD (p.map ratP) (q.map ratP)).map (pairF g) = (List.zipWith g p q).map ratP
  | [], _ => rfl
  | _ :: _, [] => rfl
  | x :: p, y :: q => by
    have := zip_map g p q
    simp only [zipD, List.map_cons, List.zip_cons_cons, List.zipWith_cons_cons] at this ⊢
    rw [this]; rfl
theorem zip_len (p q : List (Int × Int)) (h : p.length ≤ 16777216) : (zipD (p.map ratP) (q.map ratP)).length ≤ 16777216 := by
  simp only [zipD, List.length_map, List.length_zip]; omega
def pl_item {l : List D} (h : plL l = true) {d : D} (hd : d ∈ l) : pl d = true := plL_mem h d hd
def f_as_length : FS := fun ds Kp _ => ∃ d l, ds = [d] ∧ seqD d = some l ∧ plL l = true ∧ l.length ≤ 16777216 ∧ Kp (.tup (l.map asRat))
abbrev s_as_length : Stmt := top 32
theorem sc_as_length : FnScope ["thing", "item"] ["thing"] (defScope s_as_length) := ⟨rfl, rfl, rfl, by decide +kernel, rfl, by decide +kernel, by decide +kernel⟩
theorem ok_as_length {G : Pg} {k : Nat} (T : Tx G) (h : At G "as_length" s_as_length) (c_as_ratio : Fn G "as_ratio" k ["number"] f_as_ratio) : Fn G "as_length" (k + 1) ["thing"] f_as_length := by
  obtain ⟨fa, fd, F, hm⟩ := h
  refine Fn.of F hm sc_as_length (fun _ _ _ _ _ _ us hl => match us, hl with | [_], _ => rfl) ?_
  intro cdv A outer s H E dr M ds Kp Ke tk po hr hl hf
  have tb := T.b
  have nd := sc_as_length.nd
  obtain ⟨d, l, rfl, hs, hp, hn, k⟩ := hf
  walk_at "go"
  refine ⟨l, hs, ?_⟩
  refine lc_map asRat hn (fun _ _ => trivial) (fun d hd A s H C cl fp => ?_) ?_
  · walk_at "go"
    exact ⟨plL_mem hp d hd, rfl⟩
  walk_at "go"
  exact k
def f_length_plus : FS := fun ds Kp _ => ∃ p q, ds = [lenD p, lenD q] ∧ p.length ≤ 16777216 ∧ (∀ x ∈ p, OkP 4000 x) ∧ (∀ x ∈ q, OkP 4000 x) ∧ Kp (lenD (List.zipWith plusP p q))
abbrev s_length_plus : Stmt := top 34
theorem sc_length_plus : FnScope ["one", "other", "own", "late"] ["one", "other"] (defScope s_length_plus) := ⟨rfl, rfl, rfl, by decide +kernel, rfl, by decide +kernel, by decide +kernel⟩
theorem ok_length_plus {G : Pg} {k : Nat} (T : Tx G) (h : At G "length_plus" s_length_plus) (c_plus : Fn G "plus" k ["one", "other"] f_plus) : Fn G "length_plus" (k + 1) ["one", "other"] f_length_plus := by
  obtain ⟨fa, fd, F, hm⟩ := h
  refine Fn.of F hm sc_length_plus (fun _ _ _ _ _ _ us hl => match us, hl with | [_, _], _ => rfl) ?_
  intro cdv A outer s H E dr M ds Kp Ke tk po hr hl hf
  have tb := T.b
  have nd := sc_length_plus.nd
  obtain ⟨p, q, rfl, hn, h1, h2, k⟩ := hf
  walk_at "go"
  refine lc_map (pairF plusP) (zip_len p q hn) (fun d hd => ?_) (fun d hd A s H C cl fp => ?_) ?_
  · obtain ⟨x, hx, y, hy, rfl⟩ := zip_mem hd
    exact rfl
  · obtain ⟨x, hx, y, hy, rfl⟩ := zip_mem hd
    walk_at "go"
    exact ⟨x.1, x.2, y.1, y.2, rfl, (h1 x hx).pos, (h2 y hy).pos, (h1 x hx).up, (h1 x hx).dn, (h2 y hy).up, (h2 y hy).dn, rfl⟩
  rw [zip_map]
  walk_at "go"
  exact k
def f_length_minus : FS := fun ds Kp _ => ∃ p q, ds = [lenD p, lenD q] ∧ p.length ≤ 16777216 ∧ (∀ x ∈ p, OkP 4000 x) ∧ (∀ x ∈ q, OkP 4000 x) ∧ Kp (lenD (List.zipWith minusP p q))
abbrev s_length_minus : Stmt := top 35
theorem sc_length_minus : FnScope ["one", "other", "own", "late"] ["one", "other"] (defScope s_length_minus) := ⟨rfl, rfl, rfl, by decide +kernel, rfl, by decide +kernel, by decide +kernel⟩
theorem ok_length_minus {G : Pg} {k : Nat} (T : Tx G) (h : At G "length_minus" s_length_minus) (c_minus : Fn G "minus" k ["one", "other"] f_minus) : Fn G "length_minus" (k + 1) ["one", "other"] f_length_minus := by
  obtain ⟨fa, fd, F, hm⟩ := h
  refine Fn.of F hm sc_length_minus (fun _ _ _ _ _ _ us hl => match us, hl with | [_, _], _ => rfl) ?_
  intro cdv A outer s H E dr M ds Kp Ke tk po hr hl hf
  have tb := T.b
  have nd := sc_length_minus.nd
  obtain ⟨p, q, rfl, hn, h1, h2, k⟩ := hf
  walk_at "go"
  refine lc_map (pairF minusP) (zip_len p q hn) (fun d hd => ?_) (fun d hd A s H C cl fp => ?_) ?_
  · obtain ⟨x, hx, y, hy, rfl⟩ := zip_mem hd
    exact rfl
  · obtain ⟨x, hx, y, hy, rfl⟩ := zip_mem hd
    walk_at "go"
    exact ⟨x.1, x.2, y.1, y.2, rfl, (h1 x hx).pos, (h2 y hy).pos, (h1 x hx).up, (h1 x hx).dn, (h2 y hy).up, (h2 y hy).dn, rfl⟩
  rw [zip_map]
  walk_at "go"
  exact k

/-- a map over ratios -/
def oneF (g : Int × Int → Int × Int) : D → D
  | .tup [.int a, .int b] => ratP (g (a, b))
  | d => d
theorem one_map (g : Int × Int → Int × Int) (p : List (Int × Int)) : (p.map ratP).map (oneF g) = (p.map g).map ratP := by
  rw [List.map_map, List.map_map]; rfl
def f_length_times : FS := fun ds Kp _ => ∃ p y, ds = [lenD p, ratP y] ∧ p.length ≤ 16777216 ∧ (∀ x ∈ p, OkP 4000 x) ∧ OkP 4000 y ∧ Kp (lenD (p.map fun x => timesP x y))
abbrev s_length_times : Stmt := top 36
theorem sc_length_times : FnScope ["length", "ratio", "item"] ["length", "ratio"] (defScope s_length_times) := ⟨rfl, rfl, rfl, by decide +kernel, rfl, by decide +kernel, by decide +kernel⟩
theorem ok_length_times {G : Pg} {k : Nat} (T : Tx G) (h : At G "length_times" s_length_times) (c_times : Fn G "times" k ["one", "other"] f_times) : Fn G "length_times" (k + 1) ["length", "ratio"] f_length_times := by
  obtain ⟨fa, fd, F, hm⟩ := h
  refine Fn.of F hm sc_length_times (fun _ _ _ _ _ _ us hl => match us, hl with | [_, _], _ => rfl) ?_
  intro cdv A outer s H E dr M ds Kp Ke tk po hr hl hf
  have tb := T.b
  have nd := sc_length_times.nd
  obtain ⟨p, y, rfl, hn, h1, h2, k⟩ := hf
  walk_at "go"
  refine lc_map (oneF fun x => timesP x y) (by rw [List.length_map]; exact hn) (fun _ _ => trivial) (fun d hd A s H C cl fp => ?_) ?_
  · obtain ⟨x, hx, rfl⟩ := List.mem_map.mp hd
    walk_at "go"
    exact ⟨x.1, x.2, y.1, y.2, rfl, (h1 x hx).pos, h2.pos, (h1 x hx).up, (h1 x hx).dn, h2.up, h2.dn, rfl⟩
  rw [one_map]
  walk_at "go"
  exact k
/-! ### the law's own numbers -/
mutual
theorem okd_pl : ∀ (n : Nat) (d : D), okd n d = true → pl d = true
  | _, .non, _ => rfl
  | _, .bl _, _ => rfl
  | _, .int _, _ => rfl
  | _, .str _, _ => rfl
  | 0, .tup l, h => by cases h
  | 0, .lst l, h => by cases h
  | n + 1, .tup l, h => okdL_pl n l h
  | n + 1, .lst l, h => okdL_pl n l h
  | 0, .dic _ _, h => by cases h
  | 0, .ins _ _ _, h => by cases h
  | 0, .exc _ _ _, h => by cases h
  | 0, .drw, h => by cases h
  | 0, .frz _, h => by cases h
  | n + 1, .dic _ _, h => by cases h
  | n + 1, .ins _ _ _, h => by cases h
  | n + 1, .exc _ _ _, h => by cases h
  | n + 1, .drw, h => by cases h
  | n + 1, .frz _, h => by cases h
theorem okdL_pl : ∀ (n : Nat) (l : List D), okdL n l = true → plL l = true
  | _, [], _ => rfl
  | n, d :: l, h => by
    simp only [okdL, Bool.and_eq_true] at h
    simp only [plL, Bool.and_eq_true]
    exact ⟨okd_pl n d h.1, okdL_pl n l h.2⟩
end
theorem okd_prim {n : Nat} {d : D} (h : okd n d = true) : prim d = true := pl_prim (okd_pl n d h)
def f__law_gcd : FS := fun ds Kp _ => ∃ x y, ds = [.int x, .int y] ∧ Kp (.int (gcdI x y))
def gcdInv (g : Int) (δ : De) : Prop := ∃ a b : Int, δ = [.im (.int a), .im (.int b)] ∧ 0 ≤ a ∧ 0 ≤ b ∧ gcdI a b = g
def slotM (i : Nat) (δ : De) : Nat := match δ[i]? with
  | some (.im (.int b)) => b.natAbs
  | _ => 0
theorem gcdI_step {a b : Int} (ha : 0 ≤ a) (hb : 0 < b) : gcdI b (a % b) = gcdI a b := by
  show ((Nat.gcd b.natAbs (a % b).natAbs : Nat) : Int) = ((Nat.gcd a.natAbs b.natAbs : Nat) : Int)
  have : (a % b).natAbs = a.natAbs % b.natAbs := by
    obtain ⟨m, rfl⟩ := Int.eq_ofNat_of_zero_le ha
    obtain ⟨n, rfl⟩ := Int.eq_ofNat_of_zero_le (Int.le_of_lt hb)
    rfl
  rw [this, Nat.gcd_comm b.natAbs, ← Nat.gcd_rec, Nat.gcd_comm]
theorem absI (x : Int) : (if x < 0 then -x else x) = ((x.natAbs : Nat) : Int) := by
  split <;> omega
abbrev s__law_gcd : Stmt := top 56
theorem sc__law_gcd : FnScope ["one", "other"] ["one", "other"] (defScope s__law_gcd) := ⟨rfl, rfl, rfl, by decide +kernel, rfl, by decide +kernel, by decide +kernel⟩
theorem ok__law_gcd {G : Pg} {k : Nat} (T : Tx G) (h : At G "_law_gcd" s__law_gcd) : Fn G "_law_gcd" (k + 1) ["one", "other"] f__law_gcd := by
  obtain ⟨fa, fd, F, hm⟩ := h
  refine Fn.of F hm sc__law_gcd (fun _ _ _ _ _ _ us hl => match us, hl with | [_, _], _ => rfl) ?_
  intro cdv A outer s H E dr M ds Kp Ke tk po hr hl hf
  have tb := T.b
  have nd := sc__law_gcd.nd
  obtain ⟨x, y, rfl, k⟩ := hf
  walk_at "go"
  refine ds_while (gcdInv (gcdI x y)) (slotM 1) (by assumption) ⟨_, _, rfl, by rw [absI]; omega, by rw [absI]; omega, by rw [absI, absI]; simp [gcdI]⟩ (fun δ' hI => ?_)
  obtain ⟨a, b, rfl, ha, hb, hg⟩ := hI
  walk_at "go"
  refine ⟨fun (h : (!(b == 0)) = true) => ?_, fun (h : (!(b == 0)) = false) => ?_⟩
  · have hb2 : 0 < b := by simp at h; omega
    walk_at "go"
    refine ⟨hb2, ?_⟩
    walk_at "go"
    refine ⟨⟨b, a % b, rfl, hb, Int.emod_nonneg _ (by omega), by rw [gcdI_step ha hb2]; exact hg⟩, ?_⟩
    show (a % b).natAbs < b.natAbs
    have := Int.emod_lt_of_pos a hb2
    have := Int.emod_nonneg a (by omega : b ≠ 0)
    omega
  · have hb2 : b = 0 := by simpa using h
    subst hb2
    walk_at "go"
    have e : gcdI x y = a := by
      rw [← hg]
      show ((Nat.gcd a.natAbs 0 : Nat) : Int) = a
      rw [Nat.gcd_zero_right]; omega
    rw [e] at k
    exact k
abbrev f__law_pair : FS := f_as_pair
abbrev s__law_pair : Stmt := top 57
theorem sc__law_pair : FnScope ["above", "bottom", "least"] ["above", "bottom"] (defScope s__law_pair) := ⟨rfl, rfl, rfl, by decide +kernel, rfl, by decide +kernel, by decide +kernel⟩
theorem ok__law_pair {G : Pg} {k : Nat} (T : Tx G) (h : At G "_law_pair" s__law_pair) (c__law_gcd : Fn G "_law_gcd" k ["one", "other"] f__law_gcd) : Fn G "_law_pair" (k + 1) ["above", "bottom"] f__law_pair := by
  obtain ⟨fa, fd, F, hm⟩ := h
  refine Fn.of F hm sc__law_pair (fun _ _ _ _ _ _ us hl => match us, hl with | [_, _], _ => rfl) ?_
  intro cdv A outer s H E dr M ds Kp Ke tk po hr hl hf
  have tb := T.b
  have nd := sc__law_pair.nd
  obtain ⟨x, y, rfl, h0, hs, k⟩ := hf
  have hg : CDivW 0 (gcdI x y) := ⟨gcdI_pos h0, (Nat.lt_of_le_of_lt (gcdI_le h0) hs |> fun z => sz.log (i := gcdI x y) z (by decide))⟩
  walk_at "go"
  refine ⟨x, y, rfl, ?_⟩
  walk_at "go"
  refine brT (decide_eq_true h0) ?_
  walk_at "go"
  refine ⟨hg, ?_⟩
  walk_at "go"
  refine ⟨hg, ?_⟩
  walk_at "go"
  exact ⟨by simp, k⟩
abbrev f__law_ratio : FS := f_as_ratio
abbrev s__law_ratio : Stmt := top 58
theorem sc__law_ratio : FnScope ["number"] ["number"] (defScope s__law_ratio) := ⟨rfl, rfl, rfl, by decide +kernel, rfl, by decide +kernel, by decide +kernel⟩
theorem ok__law_ratio {G : Pg} {k : Nat} (T : Tx G) (h : At G "_law_ratio" s__law_ratio) : Fn G "_law_ratio" (k + 1) ["number"] f__law_ratio := by
  obtain ⟨fa, fd, F, hm⟩ := h
  refine Fn.of F hm sc__law_ratio (fun _ _ _ _ _ _ us hl => match us, hl with | [_], _ => rfl) ?_
  intro cdv A outer s H E dr M ds Kp Ke tk po hr hl hf
  have tb := T.b
  have nd := sc__law_ratio.nd
  obtain ⟨d, rfl, hp', k⟩ := as1_ex hf
  have hp := pl_prim hp'
  walk_at "go"
  refine ⟨hp, ?_⟩
  by_cases ht : ∃ l, d = .tup l
  · obtain ⟨l, rfl⟩ := ht
    walk_at "go"
    exact k
  · have e : isP "tuple" d = false := by cases d <;> first | rfl | exact absurd ⟨_, rfl⟩ ht
    have e2 : asRat d = .tup [d, .int 1] := by cases d <;> first | rfl | exact absurd ⟨_, rfl⟩ ht
    rw [e2] at k
    rw [e]
    walk_at "go"
    exact ⟨by simp, k⟩

abbrev f__law_plus : FS := f_plus
abbrev s__law_plus : Stmt := top 59
theorem sc__law_plus : FnScope ["one", "other"] ["one", "other"] (defScope s__law_plus) := ⟨rfl, rfl, rfl, by decide +kernel, rfl, by decide +kernel, by decide +kernel⟩
theorem ok__law_plus {G : Pg} {k : Nat} (T : Tx G) (h : At G "_law_plus" s__law_plus) (c__law_pair : Fn G "_law_pair" k ["above", "bottom"] f__law_pair) : Fn G "_law_plus" (k + 1) ["one", "other"] f__law_plus := by
  obtain ⟨fa, fd, F, hm⟩ := h
  refine Fn.of F hm sc__law_plus (fun _ _ _ _ _ _ us hl => match us, hl with | [_, _], _ => rfl) ?_
  intro cdv A outer s H E dr M ds Kp Ke tk po hr hl hf
  have tb := T.b
  have nd := sc__law_plus.nd
  obtain ⟨a, b, c, d, rfl, hb, hd, s1, s2, s3, s4, k⟩ := hf
  walk_at "go"
  refine ⟨s1.cmul s4 (by decide) (by decide) (by decide), ?_⟩
  walk_at "go"
  refine ⟨s3.cmul s2 (by decide) (by decide) (by decide), ?_⟩
  walk_at "go"
  refine ⟨s2.cmul s4 (by decide) (by decide) (by decide), ?_⟩
  walk_at "go"
  exact ⟨_, _, rfl, Int.mul_pos hb hd, (s2.mul s4).mono (by decide), k⟩

abbrev f__law_minus : FS := f_minus
abbrev s__law_minus : Stmt := top 60
theorem sc__law_minus : FnScope ["one", "other"] ["one", "other"] (defScope s__law_minus) := ⟨rfl, rfl, rfl, by decide +kernel, rfl, by decide +kernel, by decide +kernel⟩
theorem ok__law_minus {G : Pg} {k : Nat} (T : Tx G) (h : At G "_law_minus" s__law_minus) (c__law_pair : Fn G "_law_pair" k ["above", "bottom"] f__law_pair) : Fn G "_law_minus" (k + 1) ["one", "other"] f__law_minus := by
  obtain ⟨fa, fd, F, hm⟩ := h
  refine Fn.of F hm sc__law_minus (fun _ _ _ _ _ _ us hl => match us, hl with | [_, _], _ => rfl) ?_
  intro cdv A outer s H E dr M ds Kp Ke tk po hr hl hf
  have tb := T.b
  have nd := sc__law_minus.nd
  obtain ⟨a, b, c, d, rfl, hb, hd, s1, s2, s3, s4, k⟩ := hf
  walk_at "go"
  refine ⟨s1.cmul s4 (by decide) (by decide) (by decide), ?_⟩
  walk_at "go"
  refine ⟨s3.cmul s2 (by decide) (by decide) (by decide), ?_⟩
  walk_at "go"
  refine ⟨s2.cmul s4 (by decide) (by decide) (by decide), ?_⟩
  walk_at "go"
  exact ⟨_, _, rfl, Int.mul_pos hb hd, (s2.mul s4).mono (by decide), k⟩

abbrev f__law_times : FS := f_times
abbrev s__law_times : Stmt := top 61
theorem sc__law_times : FnScope ["one", "other"] ["one", "other"] (defScope s__law_times) := ⟨rfl, rfl, rfl, by decide +kernel, rfl, by decide +kernel, by decide +kernel⟩
theorem ok__law_times {G : Pg} {k : Nat} (T : Tx G) (h : At G "_law_times" s__law_times) (c__law_pair : Fn G "_law_pair" k ["above", "bottom"] f__law_pair) : Fn G "_law_times" (k + 1) ["one", "other"] f__law_times := by
  obtain ⟨fa, fd, F, hm⟩ := h
  refine Fn.of F hm sc__law_times (fun _ _ _ _ _ _ us hl => match us, hl with | [_, _], _ => rfl) ?_
  intro cdv A outer s H E dr M ds Kp Ke tk po hr hl hf
  have tb := T.b
  have nd := sc__law_times.nd
  obtain ⟨a, b, c, d, rfl, hb, hd, s1, s2, s3, s4, k⟩ := hf
  walk_at "go"
  refine ⟨s1.cmul s3 (by decide) (by decide) (by decide), ?_⟩
  walk_at "go"
  refine ⟨s2.cmul s4 (by decide) (by decide) (by decide), ?_⟩
  walk_at "go"
  exact ⟨_, _, rfl, Int.mul_pos hb hd, (s2.mul s4).mono (by decide), k⟩

abbrev f__law_length : FS := f_as_length
abbrev s__law_length : Stmt := top 65
theorem sc__law_length : FnScope ["thing", "item"] ["thing"] (defScope s__law_length) := ⟨rfl, rfl, rfl, by decide +kernel, rfl, by decide +kernel, by decide +kernel⟩
theorem ok__law_length {G : Pg} {k : Nat} (T : Tx G) (h : At G "_law_length" s__law_length) (c__law_ratio : Fn G "_law_ratio" k ["number"] f__law_ratio) : Fn G "_law_length" (k + 1) ["thing"] f__law_length := by
  obtain ⟨fa, fd, F, hm⟩ := h
  refine Fn.of F hm sc__law_length (fun _ _ _ _ _ _ us hl => match us, hl with | [_], _ => rfl) ?_
  intro cdv A outer s H E dr M ds Kp Ke tk po hr hl hf
  have tb := T.b
  have nd := sc__law_length.nd
  obtain ⟨d, l, rfl, hs, hp, hn, k⟩ := hf
  walk_at "go"
  refine ⟨l, hs, ?_⟩
  refine lc_map asRat hn (fun _ _ => trivial) (fun d hd A s H C cl fp => ?_) ?_
  · walk_at "go"
    exact ⟨plL_mem hp d hd, rfl⟩
  walk_at "go"
  exact k

abbrev f__law_add : FS := f_length_plus
abbrev s__law_add : Stmt := top 67
theorem sc__law_add : FnScope ["one", "other", "own", "late"] ["one", "other"] (defScope s__law_add) := ⟨rfl, rfl, rfl, by decide +kernel, rfl, by decide +kernel, by decide +kernel⟩
theorem ok__law_add {G : Pg} {k : Nat} (T : Tx G) (h : At G "_law_add" s__law_add) (c__law_plus : Fn G "_law_plus" k ["one", "other"] f__law_plus) : Fn G "_law_add" (k + 1) ["one", "other"] f__law_add := by
  obtain ⟨fa, fd, F, hm⟩ := h
  refine Fn.of F hm sc__law_add (fun _ _ _ _ _ _ us hl => match us, hl with | [_, _], _ => rfl) ?_
  intro cdv A outer s H E dr M ds Kp Ke tk po hr hl hf
  have tb := T.b
  have nd := sc__law_add.nd
  obtain ⟨p, q, rfl, hn, h1, h2, k⟩ := hf
  walk_at "go"
  refine lc_map (pairF plusP) (zip_len p q hn) (fun d hd => ?_) (fun d hd A s H C cl fp => ?_) ?_
  · obtain ⟨x, hx, y, hy, rfl⟩ := zip_mem hd
    exact rfl
  · obtain ⟨x, hx, y, hy, rfl⟩ := zip_mem hd
    walk_at "go"
    exact ⟨x.1, x.2, y.1, y.2, rfl, (h1 x hx).pos, (h2 y hy).pos, (h1 x hx).up, (h1 x hx).dn, (h2 y hy).up, (h2 y hy).dn, rfl⟩
  rw [zip_map]
  walk_at "go"
  exact k

abbrev f__law_less : FS := f_length_minus
abbrev s__law_less : Stmt := top 68
theorem sc__law_less : FnScope ["one", "other", "own", "late"] ["one", "other"] (defScope s__law_less) := ⟨rfl, rfl, rfl, by decide +kernel, rfl, by decide +kernel, by decide +kernel⟩
theorem ok__law_less {G : Pg} {k : Nat} (T : Tx G) (h : At G "_law_less" s__law_less) (c__law_minus : Fn G "_law_minus" k ["one", "other"] f__law_minus) : Fn G "_law_less" (k + 1) ["one", "other"] f__law_less := by
  obtain ⟨fa, fd, F, hm⟩ := h
  refine Fn.of F hm sc__law_less (fun _ _ _ _ _ _ us hl => match us, hl with | [_, _], _ => rfl) ?_
  intro cdv A outer s H E dr M ds Kp Ke tk po hr hl hf
  have tb := T.b
  have nd := sc__law_less.nd
  obtain ⟨p, q, rfl, hn, h1, h2, k⟩ := hf
  walk_at "go"
  refine lc_map (pairF minusP) (zip_len p q hn) (fun d hd => ?_) (fun d hd A s H C cl fp => ?_) ?_
  · obtain ⟨x, hx, y, hy, rfl⟩ := zip_mem hd
    exact rfl
  · obtain ⟨x, hx, y, hy, rfl⟩ := zip_mem hd
    walk_at "go"
    exact ⟨x.1, x.2, y.1, y.2, rfl, (h1 x hx).pos, (h2 y hy).pos, (h1 x hx).up, (h1 x hx).dn, (h2 y hy).up, (h2 y hy).dn, rfl⟩
  rw [zip_map]
  walk_at "go"
  exact k

abbrev f__law_scaled : FS := f_length_times
abbrev s__law_scaled : Stmt := top 69
theorem sc__law_scaled : FnScope ["length", "ratio", "item"] ["length", "ratio"] (defScope s__law_scaled) := ⟨rfl, rfl, rfl, by decide +kernel, rfl, by decide +kernel, by decide +kernel⟩
theorem ok__law_scaled {G : Pg} {k : Nat} (T : Tx G) (h : At G "_law_scaled" s__law_scaled) (c__law_times : Fn G "_law_times" k ["one", "other"] f__law_times) : Fn G "_law_scaled" (k + 1) ["length", "ratio"] f__law_scaled := by
  obtain ⟨fa, fd, F, hm⟩ := h
  refine Fn.of F hm sc__law_scaled (fun _ _ _ _ _ _ us hl => match us, hl with | [_, _], _ => rfl) ?_
  intro cdv A outer s H E dr M ds Kp Ke tk po hr hl hf
  have tb := T.b
  have nd := sc__law_scaled.nd
  obtain ⟨p, y, rfl, hn, h1, h2, k⟩ := hf
  walk_at "go"
  refine lc_map (oneF fun x => timesP x y) (by rw [List.length_map]; exact hn) (fun _ _ => trivial) (fun d hd A s H C cl fp => ?_) ?_
  · obtain ⟨x, hx, rfl⟩ := List.mem_map.mp hd
    walk_at "go"
    exact ⟨x.1, x.2, y.1, y.2, rfl, (h1 x hx).pos, h2.pos, (h1 x hx).up, (h1 x hx).dn, h2.up, h2.dn, rfl⟩
  rw [one_map]
  walk_at "go"
  exact k

theorem num3 (d : D) : (isP "int" d = false ∧ isNum d = false) ∨ (isP "int" d = true ∧ isP "bool" d = true ∧ isNum d = false) ∨ (isP "int" d = true ∧ isP "bool" d = false ∧ isNum d = true) := by
  cases d <;> first | exact .inl ⟨rfl, rfl⟩ | exact .inr (.inl ⟨rfl, rfl, rfl⟩) | exact .inr (.inr ⟨rfl, rfl, rfl⟩)
theorem isRat_num {a b : D} (h : (isNum a && isNum b) = false) : isRat (.tup [a, b]) = false := by
  cases a <;> first | rfl | (cases b <;> first | rfl | cases h)
theorem isRat_len {l : List D} (h : ((l.length : Int) == 2) = false) : isRat (.tup l) = false := by
  match l, h with
  | [], _ => rfl
  | [a], _ => cases a <;> rfl
  | [a, b], h => cases h
  | a :: b :: _ :: r, _ => cases a <;> first | rfl | (cases b <;> rfl)
theorem isRat_tup {d : D} (h : isP "tuple" d = false) : isRat d = false := by cases d <;> first | rfl | cases h
def f__law_is_ratio : FS := fun ds Kp _ => as1 (fun d => okd 60 d = true ∧ Kp (.bl (isRat d))) ds
abbrev s__law_is_ratio : Stmt := top 62
theorem sc__law_is_ratio : FnScope ["thing", "part"] ["thing"] (defScope s__law_is_ratio) := ⟨rfl, rfl, rfl, by decide +kernel, rfl, by decide +kernel, by decide +kernel⟩
theorem ok__law_is_ratio {G : Pg} {k : Nat} (T : Tx G) (h : At G "_law_is_ratio" s__law_is_ratio) (c__law_gcd : Fn G "_law_gcd" k ["one", "other"] f__law_gcd) : Fn G "_law_is_ratio" (k + 1) ["thing"] f__law_is_ratio := by
  obtain ⟨fa, fd, F, hm⟩ := h
  refine Fn.of F hm sc__law_is_ratio (fun _ _ _ _ _ _ us hl => match us, hl with | [_], _ => rfl) ?_
  intro cdv A outer s H E dr M ds Kp Ke tk po hr hl hf
  have tb := T.b
  have nd := sc__law_is_ratio.nd
  obtain ⟨d, rfl, ho, k⟩ := as1_ex hf
  have hp := okd_prim ho
  walk_at "go"
  refine ⟨hp, ?_⟩
  by_cases ht : isP "tuple" d = true
  · obtain ⟨l, rfl⟩ : ∃ l, d = .tup l := by cases d <;> first | exact ⟨_, rfl⟩ | cases ht
    walk_at "go"
    by_cases h2 : ((l.length : Int) == 2) = true
    · refine brF (by rw [h2]; rfl) ?_
      obtain ⟨a, b, rfl⟩ : ∃ a b, l = [a, b] := by
        match l, h2 with
        | [], h => cases h
        | [_], h => cases h
        | [a, b], _ => exact ⟨a, b, rfl⟩
        | _ :: _ :: _ :: r, h => simp only [List.length_cons, beq_iff_eq] at h; omega
      have ho := okd_tup.mp ho
      walk_at "go"
      refine lc_filter (fun d => if isNum d then none else some d) (by simp) (fun _ _ => trivial) (fun d hd A s H C cl fp => ?_) ?_
      · have hp := okd_prim (ho d hd)
        walk_at "go"
        refine ⟨hp, ?_⟩
        rcases num3 d with ⟨e1, e2⟩ | ⟨e1, e2, e3⟩ | ⟨e1, e2, e3⟩
        · rw [e1]
          walk_at "go"
          intro s H C cl fp
          walk_at "go"
          show ite _ _ _ = some d
          rw [e2]; rfl
        · rw [e1]
          walk_at "go"
          refine ⟨hp, ?_⟩
          rw [e2]
          walk_at "go"
          intro s H C cl fp
          walk_at "go"
          show ite _ _ _ = some d
          rw [e3]; rfl
        · rw [e1]
          walk_at "go"
          refine ⟨hp, ?_⟩
          rw [e2]
          walk_at "go"
          show ite _ _ _ = none
          rw [e3]; rfl
      walk_at "go"
      refine ⟨by decide, gNe_nil (okd_lst.mpr fun x hx => ?_) ?_⟩
      · obtain ⟨y, hy, e⟩ := List.mem_filterMap.mp hx
        have e2 : y = x := by
          split at e
          · cases e
          · exact Option.some.inj e
        rw [← e2]
        exact okd_mono (ho y hy) (by decide)
      by_cases hn : (isNum a && isNum b) = true
      · obtain ⟨i, j, rfl, rfl⟩ : ∃ i j, a = .int i ∧ b = .int j := by
          cases a <;> first | (cases hn; done) | (cases b <;> first | exact ⟨_, _, rfl, rfl⟩ | cases hn)
        walk_at "go"
        by_cases hj : (0 : Int) < j
        · refine brT (decide_eq_true hj) ?_
          walk_at "go"
          refine ⟨i, j, rfl, ?_⟩
          walk_at "go"
          have e : isRat (.tup [.int i, .int j]) = (gcdI i j == 1) := by
            show (decide (0 < j) && _) = _
            rw [decide_eq_true hj]; rfl
          rw [e] at k
          exact k
        · refine brF (decide_eq_false hj) ?_
          have e : isRat (.tup [.int i, .int j]) = false := by
            show (decide (0 < j) && _) = _
            rw [decide_eq_false hj]; rfl
          rw [e] at k
          exact k
      · have hn : (isNum a && isNum b) = false := by simpa using hn
        rw [isRat_num hn] at k
        refine brT ?_ ?_
        · cases ea : isNum a <;> cases eb : isNum b <;> simp [ea, eb] at hn ⊢
        walk_at "go"
        exact k
    · have h2 : ((l.length : Int) == 2) = false := by simpa using h2
      rw [isRat_len h2] at k
      refine brT (by rw [h2]; rfl) ?_
      walk_at "go"
      exact k
  · have ht : isP "tuple" d = false := by simpa using ht
    rw [isRat_tup ht] at k
    rw [ht]
    walk_at "go"
    exact k
def f__law_is_given : FS := fun ds Kp _ => as1 (fun d => okd 60 d = true ∧ Kp (.bl (isGiv d))) ds
theorem fewAbs {i M : Int} : decide (((i.natAbs : Nat) : Int) ≥ M) = !(decide (-M < i) && decide (i < M)) := by
  by_cases h : -M < i
  · by_cases g : i < M
    · rw [decide_eq_true h, decide_eq_true g]
      exact decide_eq_false (by omega)
    · rw [decide_eq_true h, decide_eq_false g]
      exact decide_eq_true (by omega)
  · rw [decide_eq_false h]
    exact decide_eq_true (by omega)
theorem bigE : ((10 : Int) ^ (60 : Int).toNat) ^ (5 : Int).toNat = MOST := by decide +kernel
theorem big0 (m : Int) : decide ((((10 : Int) ^ (60 : Int).toNat) ^ (5 : Int).toNat) ≤ (if m < 0 then -m else m)) = !few1 m := by
  rw [bigE, absI]; exact fewAbs
theorem bigC (m : Int) : decide ((((10 : Int) ^ (60 : Int).toNat) ^ (5 : Int).toNat) ≤ (if m < 0 then -m else m)) = true ↔ few1 m = false := by
  rw [big0]; simp
theorem bigC' (m : Int) : decide ((((10 : Int) ^ (60 : Int).toNat) ^ (5 : Int).toNat) ≤ (if m < 0 then -m else m)) = false ↔ few1 m = true := by
  rw [big0]; simp
/-- the parts that are too great -/
def farF : D → Option D
  | .int i => if few1 i then none else some (.int i)
  | d => some d
theorem far_few (i j : Int) : (([D.int i, .int j].filterMap farF).isEmpty) = few i j := by
  simp only [List.filterMap_cons, List.filterMap_nil, farF, few]
  cases few1 i <;> cases few1 j <;> rfl
theorem isGiv_not {d : D} (h1 : isRat d = false) (h2 : isNum d = false) : isGiv d = false := by
  unfold isGiv
  split
  · cases h2
  · rw [h1]; rfl
  · rfl
abbrev s__law_is_given : Stmt := top 63
theorem sc__law_is_given : FnScope ["thing", "part"] ["thing"] (defScope s__law_is_given) := ⟨rfl, rfl, rfl, by decide +kernel, rfl, by decide +kernel, by decide +kernel⟩
theorem ok__law_is_given {G : Pg} {k : Nat} (T : Tx G) (h : At G "_law_is_given" s__law_is_given) (c__law_is_ratio : Fn G "_law_is_ratio" k ["thing"] f__law_is_ratio) (c__law_ratio : Fn G "_law_ratio" k ["number"] f__law_ratio) : Fn G "_law_is_given" (k + 1) ["thing"] f__law_is_given := by
  obtain ⟨fa, fd, F, hm⟩ := h
  refine Fn.of F hm sc__law_is_given (fun _ _ _ _ _ _ us hl => match us, hl with | [_], _ => rfl) ?_
  intro cdv A outer s H E dr M ds Kp Ke tk po hr hl hf
  have tb := T.b
  have nd := sc__law_is_given.nd
  obtain ⟨d, rfl, ho, k⟩ := as1_ex hf
  have hp := okd_prim ho
  walk_at "go"
  refine ⟨ho, ?_⟩
  walk_at "go"
  cases hr1 : isRat d with
  | true =>
    obtain ⟨i, j, rfl⟩ : ∃ i j, d = rat i j := by
      unfold isRat at hr1
      split at hr1
      · exact ⟨_, _, rfl⟩
      · cases hr1
    have e : isGiv (rat i j) = few i j := by
      show (isRat (rat i j) && few i j) = _
      rw [hr1, Bool.true_and]
    rw [e] at k
    walk_at "go"
    refine ⟨okd_pl _ _ ho, ?_⟩
    walk_at "go"
    refine lc_filter farF (by simp) (fun _ _ => trivial) (fun e hd A s H C cl fp => ?_) ?_
    · obtain ⟨m, rfl⟩ : ∃ m, e = .int m := by
        rcases List.mem_cons.mp hd with rfl | hd
        · exact ⟨_, rfl⟩
        · rcases List.mem_cons.mp hd with rfl | hd
          · exact ⟨_, rfl⟩
          · cases hd
      walk_at "go"
      refine ⟨⟨by decide, by decide +kernel⟩, ?_⟩
      walk_at "go"
      refine ⟨⟨by decide, by decide +kernel⟩, ?_⟩
      refine And.intro (fun h => ?_) (fun h => ?_)
      · have h : few1 m = false := (bigC m).mp h
        intro s H C cl fp
        walk_at "go"
        show ite _ _ _ = some _
        rw [h]; rfl
      · have h : few1 m = true := (bigC' m).mp h
        show ite _ _ _ = none
        rw [h]; rfl
    walk_at "go"
    refine ⟨by decide, gEq_nil (okd_lst.mpr fun x hx => ?_) ?_⟩
    · obtain ⟨y, hy, e⟩ := List.mem_filterMap.mp hx
      obtain ⟨m, rfl⟩ : ∃ m, y = .int m := by
        rcases List.mem_cons.mp hy with rfl | hd
        · exact ⟨_, rfl⟩
        · rcases List.mem_cons.mp hd with rfl | hd
          · exact ⟨_, rfl⟩
          · cases hd
      simp only [farF] at e
      split at e
      · cases e
      · cases e; rfl
    rw [far_few]
    exact k
  | false =>
    walk_at "go"
    refine ⟨hp, ?_⟩
    rcases num3 d with ⟨e1, e2⟩ | ⟨e1, e2, e3⟩ | ⟨e1, e2, e3⟩
    · rw [e1]
      rw [isGiv_not hr1 e2] at k
      walk_at "go"
      exact k
    · rw [e1]
      rw [isGiv_not hr1 e3] at k
      walk_at "go"
      refine ⟨hp, ?_⟩
      rw [e2]
      walk_at "go"
      exact k
    · obtain ⟨i, rfl⟩ : ∃ i, d = .int i := by cases d <;> first | exact ⟨_, rfl⟩ | cases e3
      have e : isGiv (.int i) = few i 1 := by
        show few1 i = (few1 i && few1 1)
        rw [show few1 1 = true from by decide +kernel, Bool.and_true]
      rw [e] at k
      walk_at "go"
      refine ⟨hp, ?_⟩
      walk_at "go"
      refine ⟨okd_pl _ _ ho, ?_⟩
      walk_at "go"
      refine lc_filter farF (by simp) (fun _ _ => trivial) (fun e hd A s H C cl fp => ?_) ?_
      · obtain ⟨m, rfl⟩ : ∃ m, e = .int m := by
          rcases List.mem_cons.mp hd with rfl | hd
          · exact ⟨_, rfl⟩
          · rcases List.mem_cons.mp hd with rfl | hd
            · exact ⟨_, rfl⟩
            · cases hd
        walk_at "go"
        refine ⟨⟨by decide, by decide +kernel⟩, ?_⟩
        walk_at "go"
        refine ⟨⟨by decide, by decide +kernel⟩, ?_⟩
        refine And.intro (fun h => ?_) (fun h => ?_)
        · have h : few1 m = false := (bigC m).mp h
          intro s H C cl fp
          walk_at "go"
          show ite _ _ _ = some _
          rw [h]; rfl
        · have h : few1 m = true := (bigC' m).mp h
          show ite _ _ _ = none
          rw [h]; rfl
      walk_at "go"
      refine ⟨by decide, gEq_nil (okd_lst.mpr fun x hx => ?_) ?_⟩
      · obtain ⟨y, hy, e⟩ := List.mem_filterMap.mp hx
        obtain ⟨m, rfl⟩ : ∃ m, y = .int m := by
          rcases List.mem_cons.mp hy with rfl | hd
          · exact ⟨_, rfl⟩
          · rcases List.mem_cons.mp hd with rfl | hd
            · exact ⟨_, rfl⟩
            · cases hd
        simp only [farF] at e
        split at e
        · cases e
        · cases e; rfl
      rw [far_few]
      exact k
/-! ### values of all kinds; roots -/
structure ThingOk (d : D) : Prop where
  pr : prim d = true
  it : ∀ l, seqD d = some l → ∀ x ∈ l, okd 60 x = true
def isLen (n : Nat) (d : D) : Bool := match seqD d with
  | some l => (l.length == n) && l.all isGiv
  | none => false
theorem notGiv_empty : ∀ l : List D, (l.filterMap fun d => if isGiv d then none else some d).isEmpty = l.all isGiv
  | [] => rfl
  | d :: l => by
    have := notGiv_empty l
    simp only [List.filterMap_cons, List.all_cons]
    cases h : isGiv d
    · simp
    · simpa [h] using this
theorem notGiv_mem {l : List D} {x : D} (h : x ∈ l.filterMap fun d => if isGiv d then none else some d) : x ∈ l := by
  obtain ⟨y, hy, e⟩ := List.mem_filterMap.mp h
  have e2 : y = x := by
    split at e
    · cases e
    · exact Option.some.inj e
  rw [← e2]; exact hy
theorem seq_isP {d : D} : (isP "list" d || isP "tuple" d) = (seqD d).isSome := by cases d <;> rfl
theorem gLen_seq {d : D} {l : List D} {k : KD} (h : seqD d = some l) (q : k (.int l.length)) : gLen [d] k := by
  cases d <;> cases h <;> exact q
def f__law_is_length : FS := fun ds Kp _ => ∃ rs d, ds = [.lst rs, d] ∧ rs.length ≤ 1000 ∧ ThingOk d ∧ Kp (.bl (isLen (rs.length + 1) d))
abbrev s__law_is_length : Stmt := top 64
theorem sc__law_is_length : FnScope ["roots", "thing", "item"] ["roots", "thing"] (defScope s__law_is_length) := ⟨rfl, rfl, rfl, by decide +kernel, rfl, by decide +kernel, by decide +kernel⟩
theorem ok__law_is_length {G : Pg} {k : Nat} (T : Tx G) (h : At G "_law_is_length" s__law_is_length) (c__law_is_given : Fn G "_law_is_given" k ["thing"] f__law_is_given) : Fn G "_law_is_length" (k + 1) ["roots", "thing"] f__law_is_length := by
  obtain ⟨fa, fd, F, hm⟩ := h
  refine Fn.of F hm sc__law_is_length (fun _ _ _ _ _ _ us hl => match us, hl with | [_, _], _ => rfl) ?_
  intro cdv A outer s H E dr M ds Kp Ke tk po hr hl hf
  have tb := T.b
  have nd := sc__law_is_length.nd
  obtain ⟨rs, d, rfl, hn, ho, k⟩ := hf
  walk_at "go"
  refine ⟨ho.pr, ?_⟩
  rw [seq_isP]
  cases hs : seqD d with
  | none =>
    walk_at "go"
    have e : isLen (rs.length + 1) d = false := by rw [isLen, hs]
    rw [e] at k
    exact k
  | some l =>
    have e : isLen (rs.length + 1) d = ((l.length == rs.length + 1) && l.all isGiv) := by rw [isLen, hs]
    rw [e] at k
    walk_at "go"
    refine gLen_seq hs ?_
    walk_at "go"
    refine And.intro (fun (h : (!((l.length : Int) == (rs.length : Int) + 1)) = true) => ?_) (fun (h : (!((l.length : Int) == (rs.length : Int) + 1)) = false) => ?_)
    · have h2 : (l.length == rs.length + 1) = false := by
        simp only [Bool.not_eq_true', beq_eq_false_iff_ne] at h ⊢
        omega
      rw [h2] at k
      walk_at "go"
      exact k
    · have h2 : l.length = rs.length + 1 := by
        simp only [Bool.not_eq_false', beq_iff_eq] at h
        omega
      rw [h2, beq_self_eq_true, Bool.true_and] at k
      walk_at "go"
      refine ⟨l, hs, ?_⟩
      refine lc_filter (fun d => if isGiv d then none else some d) (by omega) (fun _ _ => trivial) (fun d hd A s H C cl fp => ?_) ?_
      · walk_at "go"
        refine ⟨ho.it l hs d hd, ?_⟩
        cases hg : isGiv d with
        | true => walk_at "go"; rfl
        | false =>
          walk_at "go"
          intro s H C cl fp
          walk_at "go"
          rfl
      walk_at "go"
      refine ⟨by decide, gEq_nil (okd_lst.mpr fun x hx => okd_mono (ho.it l hs x (notGiv_mem hx)) (by decide)) ?_⟩
      rw [notGiv_empty]
      exact k
def f__law_nought : FS := fun ds Kp _ => ∃ rs, ds = [.lst rs] ∧ rs.length ≤ 900 ∧ Kp (lenD (List.replicate (rs.length + 1) (0, 1)))
theorem nought_rep (n : Nat) : (List.replicate n [rat 0 1]).flatten = (List.replicate n ((0 : Int), (1 : Int))).map ratP := by
  induction n with
  | zero => rfl
  | succ n ih => rw [List.replicate_succ, List.replicate_succ, List.flatten_cons, ih]; rfl
abbrev s__law_nought : Stmt := top 66
theorem sc__law_nought : FnScope ["roots"] ["roots"] (defScope s__law_nought) := ⟨rfl, rfl, rfl, by decide +kernel, rfl, by decide +kernel, by decide +kernel⟩
theorem ok__law_nought {G : Pg} {k : Nat} (T : Tx G) (h : At G "_law_nought" s__law_nought) : Fn G "_law_nought" (k + 1) ["roots"] f__law_nought := by
  obtain ⟨fa, fd, F, hm⟩ := h
  refine Fn.of F hm sc__law_nought (fun _ _ _ _ _ _ us hl => match us, hl with | [_], _ => rfl) ?_
  intro cdv A outer s H E dr M ds Kp Ke tk po hr hl hf
  have tb := T.b
  have nd := sc__law_nought.nd
  obtain ⟨rs, rfl, hn, k⟩ := hf
  walk_at "go"
  refine ⟨by decide, ?_⟩
  walk_at "go"
  refine ⟨by decide, ?_⟩
  walk_at "go"
  refine ⟨by simp, by omega, by omega, by simp, ?_⟩
  have e : ((rs.length : Int) + 1).toNat = rs.length + 1 := by omega
  rw [e, nought_rep]
  exact k
def isRoot (i : Int) : Bool := decide (2 ≤ i) && decide (i ≤ 99) && (List.range 8).all fun j => !(i % ((2 + (j : Int)) * (2 + (j : Int))) == 0)
def rootF (i : Int) : D → Option D
  | .int j => if i % (j * j) == 0 then some (.int j) else none
  | _ => none
theorem root_all (i : Int) : ((intsD 2 8).filterMap (rootF i)).isEmpty = (List.range 8).all fun j => !(i % ((2 + (j : Int)) * (2 + (j : Int))) == 0) := by
  unfold intsD
  generalize List.range 8 = l
  induction l with
  | nil => rfl
  | cons j l ih =>
    simp only [List.map_cons, List.filterMap_cons, List.all_cons, rootF]
    cases h : (i % ((2 + (j : Int)) * (2 + (j : Int))) == 0)
    · simpa [h] using ih
    · simp [h]
theorem ints_mem {lo : Int} {n : Nat} {d : D} (h : d ∈ intsD lo n) : ∃ j : Nat, j < n ∧ d = .int (lo + j) := by
  obtain ⟨j, hj, rfl⟩ := List.mem_map.mp h
  exact ⟨j, List.mem_range.mp hj, rfl⟩
def f__law_is_root : FS := fun ds Kp _ => ∃ i, ds = [.int i] ∧ Kp (.bl (isRoot i))
abbrev s__law_is_root : Stmt := top 72
theorem sc__law_is_root : FnScope ["thing", "own"] ["thing"] (defScope s__law_is_root) := ⟨rfl, rfl, rfl, by decide +kernel, rfl, by decide +kernel, by decide +kernel⟩
theorem ok__law_is_root {G : Pg} {k : Nat} (T : Tx G) (h : At G "_law_is_root" s__law_is_root) : Fn G "_law_is_root" (k + 1) ["thing"] f__law_is_root := by
  obtain ⟨fa, fd, F, hm⟩ := h
  refine Fn.of F hm sc__law_is_root (fun _ _ _ _ _ _ us hl => match us, hl with | [_], _ => rfl) ?_
  intro cdv A outer s H E dr M ds Kp Ke tk po hr hl hf
  have tb := T.b
  have nd := sc__law_is_root.nd
  obtain ⟨i, rfl, k⟩ := hf
  walk_at "go"
  refine ⟨rfl, ?_⟩
  walk_at "go"
  refine ⟨rfl, ?_⟩
  walk_at "go"
  have e : isRoot i = (decide (2 ≤ i) && decide (i ≤ 99) && (List.range 8).all fun j => !(i % ((2 + (j : Int)) * (2 + (j : Int))) == 0)) := rfl
  rw [e] at k
  refine And.intro (fun (h : decide (2 ≤ i) = true) => ?_) (fun (h : decide (2 ≤ i) = false) => ?_)
  · walk_at "go"
    cases h3 : decide (i ≤ 99) with
    | false =>
      rw [h, h3] at k
      refine brT (by show (!decide (i ≤ 99)) = true; rw [h3]; rfl) ?_
      walk_at "go"
      exact k
    | true =>
      rw [h, h3] at k
      refine brF (by show (!decide (i ≤ 99)) = false; rw [h3]; rfl) ?_
      walk_at "go"
      refine ⟨⟨by decide, by decide, by decide, by decide⟩, ?_⟩
      refine lc_filter (rootF i) (by simp [intsD]) (fun _ _ => trivial) (fun d hd A s H C cl fp => ?_) ?_
      · obtain ⟨j, hj, rfl⟩ := ints_mem hd
        walk_at "go"
        refine ⟨.inl (.inl ⟨by omega, by omega⟩), ?_⟩
        walk_at "go"
        refine ⟨Int.mul_pos (by omega) (by omega), ?_⟩
        walk_at "go"
        refine And.intro (fun h => ?_) (fun h => ?_)
        · intro s H C cl fp
          walk_at "go"
          show ite _ _ _ = some _
          exact if_pos h
        · show ite _ _ _ = none
          exact if_neg (by rw [h]; exact Bool.false_ne_true)
      walk_at "go"
      refine ⟨by decide, gEq_nil (okd_lst.mpr fun x hx => ?_) ?_⟩
      · obtain ⟨y, hy, e⟩ := List.mem_filterMap.mp hx
        obtain ⟨j, hj, rfl⟩ := ints_mem hy
        simp only [rootF] at e
        split at e
        · cases e; rfl
        · cases e
      have e2 := root_all i
      rw [show intsD 2 8 = intsD 2 ((10 : Int) - 2).toNat from rfl] at e2
      rw [e2]
      exact k
  · rw [h] at k
    walk_at "go"
    exact k
def isRootD : D → Bool
  | .int i => isRoot i
  | _ => false
def f_is_root : FS := fun ds Kp _ => as1 (fun d => pl d = true ∧ Kp (.bl (isRootD d))) ds
def rootG (i : Int) : D → D
  | .int j => .bl (!(i % (j * j) == 0))
  | d => d
abbrev s_is_root : Stmt := top 25
theorem sc_is_root : FnScope ["thing", "own"] ["thing"] (defScope s_is_root) := ⟨rfl, rfl, rfl, by decide +kernel, rfl, by decide +kernel, by decide +kernel⟩
theorem ok_is_root {G : Pg} {k : Nat} (T : Tx G) (h : At G "is_root" s_is_root) (c_is_number : Fn G "is_number" k ["thing"] f_is_number) : Fn G "is_root" (k + 1) ["thing"] f_is_root := by
  obtain ⟨fa, fd, F, hm⟩ := h
  refine Fn.of F hm sc_is_root (fun _ _ _ _ _ _ us hl => match us, hl with | [_], _ => rfl) ?_
  intro cdv A outer s H E dr M ds Kp Ke tk po hr hl hf
  have tb := T.b
  have nd := sc_is_root.nd
  obtain ⟨d, rfl, hp, k⟩ := as1_ex hf
  have hM := T.mostRoot
  walk_at "go"
  refine ⟨hp, ?_⟩
  by_cases hn : isNum d = true
  · obtain ⟨i, rfl⟩ : ∃ i, d = .int i := by cases d <;> first | exact ⟨_, rfl⟩ | cases hn
    walk_at "go"
    have e : isRootD (.int i) = (decide (2 ≤ i) && decide (i ≤ 99) && (List.range 8).all fun j => !(i % ((2 + (j : Int)) * (2 + (j : Int))) == 0)) := rfl
    rw [e] at k
    refine And.intro (fun (h : decide (2 ≤ i) = true) => ?_) (fun (h : decide (2 ≤ i) = false) => ?_)
    · walk_at "go"
      cases h3 : decide (i ≤ 99) with
      | false =>
        rw [h, h3] at k
        refine brT (by show (!decide (i ≤ 99)) = true; rw [h3]; rfl) ?_
        walk_at "go"
        exact k
      | true =>
        rw [h, h3] at k
        refine brF (by show (!decide (i ≤ 99)) = false; rw [h3]; rfl) ?_
        walk_at "go"
        refine ⟨⟨by decide, by decide, by decide, by decide⟩, ?_⟩
        refine lc_map (rootG i) (by simp [intsD]) (fun _ _ => trivial) (fun d hd A s H C cl fp => ?_) ?_
        · obtain ⟨j, hj, rfl⟩ := ints_mem hd
          walk_at "go"
          refine ⟨.inl (.inl ⟨by omega, by omega⟩), ?_⟩
          walk_at "go"
          refine ⟨Int.mul_pos (by omega) (by omega), ?_⟩
          walk_at "go"
          rfl
        walk_at "go"
        refine ⟨_, (List.range 8).map (fun (j : Nat) => !(i % ((2 + (j : Int)) * (2 + (j : Int))) == 0)), rfl, rfl, ?_⟩
        rw [List.all_map]
        exact k
    · rw [h] at k
      walk_at "go"
      exact k
  · have hn : isNum d = false := by simpa using hn
    have e : isRootD d = false := by cases d <;> first | rfl | cases hn
    rw [e] at k
    rw [hn]
    walk_at "go"
    exact k
/-! ### units -/
abbrev m_init : Stmt := meth 26 0
abbrev m_roots : Stmt := meth 26 1
abbrev m_many : Stmt := meth 26 2
abbrev m_eq : Stmt := meth 26 3
/-- addresses -/
structure Ua where
  (C fI pR gR pM gM fE : Addr)
  (bRoots bUnits bLength bLengths bOne bOther bRatio : Addr)
abbrev FunM (K : PySem.W.Frag) (x q : Str) (st : Stmt) (f : Addr) : Prop := ∃ fd, FunD K x q (defArgs st) (defBody st) (defScope st) [] [] f fd
/-- the class of units and the exceptions stand -/
structure UnF (G : Pg) (u : Ua) : Prop where
  nm : G.mg "Units" = some (.ref u.C)
  cls : L2.Cls G.K u.C
  clB : clsB G.K u.C = true
  insF : InsF G.K u.C
  self : PySem.W.kitOne G.K (.ref u.C) (.ref u.C) = some true
  na : NoAttr G.K u.C "u_roots"
  mkr : Mk G.K u.C u.fI
  fi : FunM G.K "__init__" "Units.__init__" m_init u.fI
  pr : PropOf G.K u.C "roots" u.pR u.gR
  fr : FunM G.K "roots" "Units.roots" m_roots u.gR
  pm : PropOf G.K u.C "many" u.pM u.gM
  fm : FunM G.K "many" "Units.many" m_many u.gM
  eq : OwnE G.K u.C u.fE
  fe : FunM G.K "__eq__" "Units.__eq__" m_eq u.fE
  xRoots : ExF G.K G.mg "BadRoots" u.bRoots
  xUnits : ExF G.K G.mg "BadUnits" u.bUnits
  xLength : ExF G.K G.mg "BadLength" u.bLength
  xLengths : ExF G.K G.mg "BadLengths" u.bLengths
  xOne : ExF G.K G.mg "BadOne" u.bOne
  xOther : ExF G.K G.mg "BadOther" u.bOther
  xRatio : ExF G.K G.mg "BadRatio" u.bRatio
/-- units of these roots -/
def unD (u : Ua) (ns : List Int) : D := .ins u.C ["u_roots"] [.tup (ns.map D.int)]
def intsOf : List D → Option (List Int)
  | [] => some []
  | .int i :: l => match intsOf l with
    | some ns => some (i :: ns)
    | none => none
  | _ => none
theorem intsOf_some : ∀ {l : List D} {ns : List Int}, intsOf l = some ns → l = ns.map D.int
  | [], _, h => by cases h; rfl
  | d :: l, ns, h => by
    cases d <;> first | (cases h; done) | skip
    unfold intsOf at h
    split at h
    · rename_i e
      cases h
      rw [intsOf_some e]; rfl
    · cases h
theorem intsOf_map : ∀ ns : List Int, intsOf (ns.map D.int) = some ns
  | [] => rfl
  | n :: ns => by
    rw [List.map_cons]
    unfold intsOf
    rw [intsOf_map ns]
/-- the roots that a value tells -/
def rootsOf (d : D) : Option (List Int) := match seqD d with
  | some l => if l.length ≤ 2 ∧ l.all isRootD = true then (match intsOf l with
    | some ns => if dup2 ns = ns.length then some ns else none
    | none => none) else none
  | none => none
theorem ints_root : ∀ {l : List D}, l.all isRootD = true → ∃ ns, intsOf l = some ns ∧ l = ns.map D.int
  | [], _ => ⟨[], rfl, rfl⟩
  | d :: l, h => by
    rw [List.all_cons, Bool.and_eq_true] at h
    obtain ⟨ns, e, e2⟩ := ints_root h.2
    cases d <;> first | (cases h.1; done) | skip
    rename_i i
    exact ⟨i :: ns, by unfold intsOf; rw [e], by rw [e2]; rfl⟩
theorem blL_fun (f : D → Bool) (l : List D) : blL (l.map fun d => .bl (f d)) = some (l.map f) := by
  have := blL_map (l.map f)
  rw [List.map_map] at this
  exact this
def f_init (u : Ua) : FI := fun ds Kf Ke => ∃ d, ds = [d] ∧ pl d = true ∧ (∀ ns : List Int, d = .tup (ns.map D.int) → ns.Nodup) ∧ (match rootsOf d with
  | some ns => Kf ["u_roots"] [.tup (ns.map D.int)]
  | none => Ke ⟨u.bRoots, [], []⟩)
theorem sc_init : FnScope ["self", "roots", "one"] ["self", "roots"] (defScope m_init) := ⟨rfl, rfl, rfl, by decide +kernel, rfl, by decide +kernel, by decide +kernel⟩
theorem ok_init {G : Pg} {u : Ua} {k : Nat} (T : Tx G) (U : UnF G u) (c_is_root : Fn G "is_root" k ["thing"] f_is_root) : FnI G u.C u.fI (k + 1) ["self", "roots"] (f_init u) := by
  obtain ⟨fd, F⟩ := U.fi
  refine FnI.of F sc_init (fun _ _ _ _ _ _ us hl => match us, hl with | [_, _], _ => rfl) ?_
  intro cdv A outer s H E dr M x ds Kf Ke tk po hr hl hf
  have tb := T.b
  have nd := sc_init.nd
  have hM := T.mostRoots
  obtain ⟨d, rfl, hp', hnd, k⟩ := hf
  have hp := pl_prim hp'
  have X := U.xRoots
  walk_at "go"
  refine ⟨hp, ?_⟩
  rw [seq_isP]
  cases hs : seqD d with
  | none =>
    have e : rootsOf d = none := by rw [rootsOf, hs]
    rw [e] at k
    walk_at "go"
    exact ds_raise rfl tk X rfl k
  | some l =>
    have e : rootsOf d = (if l.length ≤ 2 ∧ l.all isRootD = true then (match intsOf l with
      | some ns => if dup2 ns = ns.length then some ns else none
      | none => none) else none) := by rw [rootsOf, hs]
    rw [e] at k
    have hpl : plL l = true := by cases d <;> first | (cases hs; done) | (cases hs; exact hp')
    walk_at "go"
    refine gLen_seq hs ?_
    walk_at "go"
    by_cases h2 : l.length ≤ 2
    · refine brF (decide_eq_false (by omega)) ?_
      walk_at "go"
      refine ⟨l, hs, ?_⟩
      refine lc_map (fun d => .bl (isRootD d)) (by omega) (fun _ _ => trivial) (fun d hd A s H C cl fp => ?_) ?_
      · walk_at "go"
        exact ⟨plL_mem hpl d hd, rfl⟩
      walk_at "go"
      refine ⟨_, l.map isRootD, rfl, blL_fun isRootD l, ?_⟩
      rw [List.all_map]
      cases hr : l.all isRootD with
      | false =>
        rw [hr, if_neg (fun z => by cases z.2)] at k
        refine ⟨_, rfl, ?_⟩
        refine brT (by show (!(l.all (id ∘ isRootD))) = true; rw [show (id ∘ isRootD) = isRootD from rfl, hr]; rfl) ?_
        walk_at "go"
        exact ds_raise rfl tk X rfl k
      | true =>
        rw [hr, if_pos ⟨h2, rfl⟩] at k
        obtain ⟨ns, e1, rfl⟩ := ints_root hr
        rw [e1] at k
        refine ⟨_, rfl, ?_⟩
        refine brF (by show (!((ns.map D.int).all (id ∘ isRootD))) = false; rw [show (id ∘ isRootD) = isRootD from rfl, hr]; rfl) ?_
        walk_at "go"
        refine ⟨ns, ?_, by simpa using h2, ?_⟩
        · cases d <;> first | (cases hs; done) | skip
          · cases hs; exact .inr ⟨rfl, hnd ns rfl⟩
          · cases hs; exact .inl rfl
        walk_at "go"
        refine gLen_seq hs ?_
        walk_at "go"
        rw [List.length_map]
        by_cases h3 : dup2 ns = ns.length
        · simp only [if_pos h3] at k
          refine brF (by show (!(((dup2 ns : Nat) : Int) == ((ns.length : Nat) : Int))) = false; rw [h3]; simp) ?_
          walk_at "go"
          refine ds_fld 0 rfl (.inl rfl) rfl U.cls U.na (by simp) (by decide) ?_
          walk_at "go"
          refine ⟨_, hs, ?_⟩
          walk_at "go"
          exact ⟨_, _, rfl, k⟩
        · simp only [if_neg h3] at k
          refine brT (by show (!(((dup2 ns : Nat) : Int) == ((ns.length : Nat) : Int))) = true; simp; omega) ?_
          walk_at "go"
          exact ds_raise rfl tk X rfl k
    · rw [if_neg (fun z => h2 z.1)] at k
      refine brT (decide_eq_true (by omega)) ?_
      walk_at "go"
      exact ds_raise rfl tk X rfl k
def f_mroots (u : Ua) : FS := fun ds Kp _ => ∃ ns, ds = [unD u ns] ∧ Kp (.tup (ns.map D.int))
theorem sc_mroots : FnScope ["self"] ["self"] (defScope m_roots) := ⟨rfl, rfl, rfl, by decide +kernel, rfl, by decide +kernel, by decide +kernel⟩
theorem ok_mroots {G : Pg} {u : Ua} {k : Nat} (T : Tx G) (U : UnF G u) : FnA G u.gR (k + 1) ["self"] (f_mroots u) := by
  obtain ⟨fd, F⟩ := U.fr
  refine FnA.of F sc_mroots (fun _ _ _ _ _ _ us hl => match us, hl with | [_], _ => rfl) ?_
  intro cdv A outer s H E dr M ds Kp Ke tk po hr hl hf
  obtain ⟨ns, rfl, k⟩ := hf
  walk_at "go"
  refine dx_fld ?_
  walk_at "go"
  exact ⟨_, _, _, _, rfl, U.cls, U.na, rfl, k⟩
def f_mmany (u : Ua) : FS := fun ds Kp _ => ∃ ns, ds = [unD u ns] ∧ Kp (.int (ns.length + 1))
theorem sc_mmany : FnScope ["self"] ["self"] (defScope m_many) := ⟨rfl, rfl, rfl, by decide +kernel, rfl, by decide +kernel, by decide +kernel⟩
theorem ok_mmany {G : Pg} {u : Ua} {k : Nat} (T : Tx G) (U : UnF G u) : FnA G u.gM (k + 1) ["self"] (f_mmany u) := by
  obtain ⟨fd, F⟩ := U.fm
  refine FnA.of F sc_mmany (fun _ _ _ _ _ _ us hl => match us, hl with | [_], _ => rfl) ?_
  intro cdv A outer s H E dr M ds Kp Ke tk po hr hl hf
  have tb := T.b
  obtain ⟨ns, rfl, k⟩ := hf
  walk_at "go"
  refine dx_fld ?_
  walk_at "go"
  refine ⟨_, _, _, _, rfl, U.cls, U.na, rfl, ?_⟩
  walk_at "go"
  rw [List.length_map]
  exact k
theorem deq_ints (ns ms : List Int) : deq (.tup (ns.map D.int)) (.tup (ms.map D.int)) = decide (ns = ms) := by
  have py : ∀ ns : List Int, pyL (ns.map D.int) = some (ns.map PyData.int) := fun ns => by
    induction ns with
    | nil => rfl
    | cons n ns ih => simp [pyL, Lay.py, ih]
  have ev : ∀ ns ms : List Int, PyData.eqvAll (ns.map PyData.int) (ms.map PyData.int) = decide (ns = ms) := fun ns => by
    induction ns with
    | nil => intro ms; cases ms <;> simp [PyData.eqvAll]
    | cons n ns ih =>
      intro ms
      cases ms with
      | nil => simp [PyData.eqvAll]
      | cons m ms => simp [PyData.eqvAll, PyData.eqv, ih]; rfl
  simp [deq, Lay.py, py, PyData.eqv, ev]
theorem okd_ints (ns : List Int) : okd 1 (.tup (ns.map D.int)) = true := okd_tup.mpr fun d hd => by
  obtain ⟨n, _, rfl⟩ := List.mem_map.mp hd
  rfl
def f_meq (u : Ua) : FS := fun ds Kp _ => ∃ ns e, ds = [unD u ns, e] ∧ ((∃ ms, e = unD u ms ∧ Kp (.bl (decide (ns = ms)))) ∨ ∃ l, e = .tup l ∧ Kp (.bl false))
theorem sc_meq : FnScope ["self", "other"] ["self", "other"] (defScope m_eq) := ⟨rfl, rfl, rfl, by decide +kernel, rfl, by decide +kernel, by decide +kernel⟩
theorem ok_meq {G : Pg} {u : Ua} {k : Nat} (T : Tx G) (U : UnF G u) (c : FnA G u.gR k ["self"] (f_mroots u)) : FnA G u.fE (k + 2) ["self", "other"] (f_meq u) := by
  obtain ⟨fd, F⟩ := U.fe
  refine FnA.of F sc_meq (fun _ _ _ _ _ _ us hl => match us, hl with | [_, _], _ => rfl) ?_
  intro cdv A outer s H E dr M ds Kp Ke tk po hr hl hf
  have tb := T.b
  obtain ⟨ns, e, rfl, hc⟩ := hf
  walk_at "go"
  refine dx_isiO rfl (Bt.isinstance tb) rfl U.nm U.clB ?_
  walk_at "go"
  rcases hc with ⟨ms, rfl, k⟩ | ⟨l, rfl, k⟩
  · refine ⟨true, .ins U.insF U.self, ?_⟩
    walk_at "go"
    refine dx_prop U.cls U.pr c hr ?_
    walk_at "go"
    refine ⟨⟨_, _, rfl⟩, ns, rfl, ?_⟩
    refine dx_prop U.cls U.pr c hr ?_
    walk_at "go"
    refine ⟨⟨_, _, rfl⟩, ms, rfl, ?_⟩
    refine ⟨okd_dok (okd_mono (okd_ints ns) (by decide)), okd_dok (okd_mono (okd_ints ms) (by decide)), ?_⟩
    rw [deq_ints]
    exact k
  · refine ⟨false, .pr rfl, ?_⟩
    walk_at "go"
    exact k
def f_need_units (u : Ua) : FS := fun ds Kp Ke => as1 (fun d => (∃ ns, d = unD u ns ∧ Kp .non) ∨ (prim d = true ∧ Ke ⟨u.bUnits, [], []⟩)) ds
abbrev s_need_units : Stmt := top 27
theorem sc_need_units : FnScope ["units"] ["units"] (defScope s_need_units) := ⟨rfl, rfl, rfl, by decide +kernel, rfl, by decide +kernel, by decide +kernel⟩
theorem ok_need_units {G : Pg} {k : Nat} {u : Ua} (T : Tx G) (U : UnF G u) (h : At G "need_units" s_need_units) : Fn G "need_units" (k + 1) ["units"] (f_need_units u) := by
  obtain ⟨fa, fd, F, hm⟩ := h
  refine Fn.of F hm sc_need_units (fun _ _ _ _ _ _ us hl => match us, hl with | [_], _ => rfl) ?_
  intro cdv A outer s H E dr M ds Kp Ke tk po hr hl hf
  have tb := T.b
  have nd := sc_need_units.nd
  obtain ⟨d, rfl, hc⟩ := as1_ex hf
  walk_at "go"
  refine dx_isiO rfl (Bt.isinstance tb) rfl U.nm U.clB ?_
  walk_at "go"
  rcases hc with ⟨ns, rfl, k⟩ | ⟨hp, k⟩
  · refine ⟨true, .ins U.insF U.self, ?_⟩
    walk_at "go"
    exact k
  · obtain ⟨s, hs⟩ := Option.isSome_iff_exists.mp hp
    refine ⟨false, .pr hs, ?_⟩
    walk_at "go"
    exact ds_raise rfl tk U.xUnits rfl k
/-! ### what the package tells of lengths -/
theorem pl_items {d : D} {l : List D} (hp : pl d = true) (hs : seqD d = some l) : plL l = true := by
  cases d <;> first | (cases hs; done) | (cases hs; exact hp)
def f_is_length_of (u : Ua) : FS := fun ds Kp _ => ∃ ns d, ds = [unD u ns, d] ∧ ns.length ≤ 2 ∧ pl d = true ∧ Kp (.bl (isLen (ns.length + 1) d))
abbrev s_is_length_of : Stmt := top 30
theorem sc_is_length_of : FnScope ["units", "thing", "item"] ["units", "thing"] (defScope s_is_length_of) := ⟨rfl, rfl, rfl, by decide +kernel, rfl, by decide +kernel, by decide +kernel⟩
theorem ok_is_length_of {G : Pg} {k : Nat} {u : Ua} (T : Tx G) (U : UnF G u) (h : At G "is_length_of" s_is_length_of) (c_is_given_number : Fn G "is_given_number" k ["thing"] f_is_given_number) (cm : FnA G u.gM 1 ["self"] (f_mmany u)) (hk : 2 ≤ k) : Fn G "is_length_of" (k + 1) ["units", "thing"] (f_is_length_of u) := by
  obtain ⟨fa, fd, F, hm⟩ := h
  refine Fn.of F hm sc_is_length_of (fun _ _ _ _ _ _ us hl => match us, hl with | [_, _], _ => rfl) ?_
  intro cdv A outer s H E dr M ds Kp Ke tk po hr hl hf
  have tb := T.b
  have nd := sc_is_length_of.nd
  obtain ⟨ns, d, rfl, hn, hp', k⟩ := hf
  have hp := pl_prim hp'
  walk_at "go"
  refine ⟨hp, ?_⟩
  rw [seq_isP]
  cases hs : seqD d with
  | none =>
    walk_at "go"
    have e : isLen (ns.length + 1) d = false := by rw [isLen, hs]
    rw [e] at k
    exact k
  | some l =>
    have e : isLen (ns.length + 1) d = ((l.length == ns.length + 1) && l.all isGiv) := by rw [isLen, hs]
    rw [e] at k
    walk_at "go"
    refine gLen_seq hs ?_
    walk_at "go"
    refine dx_prop U.cls U.pm cm (hr.mono hk) ?_
    walk_at "go"
    refine ⟨⟨_, _, rfl⟩, ns, rfl, ?_⟩
    refine And.intro (fun (h : (!((l.length : Int) == (ns.length : Int) + 1)) = true) => ?_) (fun (h : (!((l.length : Int) == (ns.length : Int) + 1)) = false) => ?_)
    · have h2 : (l.length == ns.length + 1) = false := by
        simp only [Bool.not_eq_true', beq_eq_false_iff_ne] at h ⊢
        omega
      rw [h2] at k
      walk_at "go"
      exact k
    · have h2 : l.length = ns.length + 1 := by
        simp only [Bool.not_eq_false', beq_iff_eq] at h
        omega
      rw [h2, beq_self_eq_true, Bool.true_and] at k
      walk_at "go"
      refine ⟨l, hs, ?_⟩
      refine lc_map (fun d => .bl (isGiv d)) (by omega) (fun _ _ => trivial) (fun d hd A s H C cl fp => ?_) ?_
      · walk_at "go"
        exact ⟨plL_mem (pl_items hp' hs) d hd, rfl⟩
      walk_at "go"
      refine ⟨_, l.map isGiv, rfl, blL_fun isGiv l, ?_⟩
      rw [List.all_map]
      exact k
def areLen (n : Nat) (d : D) : Bool := match seqD d with
  | some l => decide (l.length ≤ 400) && l.all (isLen n)
  | none => false
def f_are_lengths (u : Ua) : FS := fun ds Kp _ => ∃ ns d, ds = [unD u ns, d] ∧ ns.length ≤ 2 ∧ pl d = true ∧ Kp (.bl (areLen (ns.length + 1) d))
abbrev s_are_lengths : Stmt := top 31
theorem sc_are_lengths : FnScope ["units", "thing", "length"] ["units", "thing"] (defScope s_are_lengths) := ⟨rfl, rfl, rfl, by decide +kernel, rfl, by decide +kernel, by decide +kernel⟩
theorem ok_are_lengths {G : Pg} {k : Nat} {u : Ua} (T : Tx G) (U : UnF G u) (h : At G "are_lengths" s_are_lengths) (c_is_length_of : Fn G "is_length_of" k ["units", "thing"] (f_is_length_of u)) : Fn G "are_lengths" (k + 1) ["units", "thing"] (f_are_lengths u) := by
  obtain ⟨fa, fd, F, hm⟩ := h
  refine Fn.of F hm sc_are_lengths (fun _ _ _ _ _ _ us hl => match us, hl with | [_, _], _ => rfl) ?_
  intro cdv A outer s H E dr M ds Kp Ke tk po hr hl hf
  have tb := T.b
  have nd := sc_are_lengths.nd
  obtain ⟨ns, d, rfl, hn, hp', k⟩ := hf
  have hp := pl_prim hp'
  have hM := T.mostLens
  walk_at "go"
  refine ⟨hp, ?_⟩
  rw [seq_isP]
  cases hs : seqD d with
  | none =>
    walk_at "go"
    have e : areLen (ns.length + 1) d = false := by rw [areLen, hs]
    rw [e] at k
    exact k
  | some l =>
    have e : areLen (ns.length + 1) d = (decide (l.length ≤ 400) && l.all (isLen (ns.length + 1))) := by rw [areLen, hs]
    rw [e] at k
    walk_at "go"
    refine gLen_seq hs ?_
    walk_at "go"
    by_cases h2 : l.length ≤ 400
    · refine brF (decide_eq_false (by omega)) ?_
      rw [decide_eq_true h2, Bool.true_and] at k
      walk_at "go"
      refine ⟨l, hs, ?_⟩
      refine lc_map (fun d => .bl (isLen (ns.length + 1) d)) (by omega) (fun _ _ => trivial) (fun d hd A s H C cl fp => ?_) ?_
      · walk_at "go"
        exact ⟨ns, d, rfl, hn, plL_mem (pl_items hp' hs) d hd, rfl⟩
      walk_at "go"
      refine ⟨_, l.map (isLen (ns.length + 1)), rfl, blL_fun (isLen (ns.length + 1)) l, ?_⟩
      rw [List.all_map]
      exact k
    · refine brT (decide_eq_true (by omega)) ?_
      rw [decide_eq_false h2] at k
      walk_at "go"
      exact k
/-- a tuple of numbers of the top -/
def GTup (K : PySem.W.Frag) (mg : Str → Option Value) (x : Str) (ns : List Int) : Prop := ∃ a, mg x = some (.ref a) ∧ ∀ H, SqT K H a (ns.map V.int)
theorem rep_ints {K : PySem.W.Frag} {dr : Option Dr} {H : Hp} : ∀ ns : List Int, RepL K dr H (ns.map D.int) (ns.map V.int)
  | [] => rfl
  | n :: ns => ⟨_, _, rfl, rfl, rep_ints ns⟩
theorem dx_gtup {X : Cx} {W : Wd} {M : List Addr} {wx : WX} {δ : De} {x : Str} {ns : List Int} {Kp : KD} {Ke : KX} {pos : Pos} (hg : Gl X x) (hm : GTup X.K X.mg x ns) (k : Kp (.tup (ns.map D.int))) (hdb : (x == ("__debug__" : Str)) = false := by decide) : DE X W M wx δ (.Name x pos) Kp Ke :=
  let ⟨a, h, hs⟩ := hm; dx_glob (v := .ref a) (d := .tup (ns.map D.int)) hg h rfl (fun H => ⟨a, _, rfl, hs H, rep_ints ns⟩) (fun dr H _ => ⟨a, _, rfl, hs H, rep_ints ns⟩) k hdb
def f_nought_length (u : Ua) : FS := fun ds Kp _ => ∃ ns, ds = [unD u ns] ∧ ns.length ≤ 2 ∧ Kp (lenD (List.replicate (ns.length + 1) (0, 1)))
abbrev s_nought_length : Stmt := top 33
theorem sc_nought_length : FnScope ["units"] ["units"] (defScope s_nought_length) := ⟨rfl, rfl, rfl, by decide +kernel, rfl, by decide +kernel, by decide +kernel⟩
theorem ok_nought_length {G : Pg} {k : Nat} {u : Ua} (T : Tx G) (U : UnF G u) (h : At G "nought_length" s_nought_length) (cm : FnA G u.gM 1 ["self"] (f_mmany u)) (hk : 2 ≤ k) (hN : GTup G.K G.mg "NOUGHT" [0, 1]) : Fn G "nought_length" (k + 1) ["units"] (f_nought_length u) := by
  obtain ⟨fa, fd, F, hm⟩ := h
  refine Fn.of F hm sc_nought_length (fun _ _ _ _ _ _ us hl => match us, hl with | [_], _ => rfl) ?_
  intro cdv A outer s H E dr M ds Kp Ke tk po hr hl hf
  have tb := T.b
  have nd := sc_nought_length.nd
  obtain ⟨ns, rfl, hn, k⟩ := hf
  walk_at "go"
  refine dx_gtup rfl hN ?_
  walk_at "go"
  refine ⟨by decide, ?_⟩
  refine dx_prop U.cls U.pm cm (hr.mono hk) ?_
  walk_at "go"
  refine ⟨⟨_, _, rfl⟩, ns, rfl, ?_⟩
  refine ⟨by simp, by omega, by omega, by simp, ?_⟩
  have e : ((ns.length : Int) + 1).toNat = ns.length + 1 := by omega
  rw [e]
  show Kp (.tup (List.replicate (ns.length + 1) [rat 0 1]).flatten)
  rw [nought_rep]
  exact k
/-- lengths added from the left -/
def sumL (n : Nat) (ls : List (List (Int × Int))) : List (Int × Int) := ls.foldl (List.zipWith plusP) (List.replicate n (0, 1))
theorem sumL_take {n : Nat} {ls : List (List (Int × Int))} {i : Nat} {p : List (Int × Int)} (h : ls[i]? = some p) : sumL n (ls.take (i + 1)) = List.zipWith plusP (sumL n (ls.take i)) p := by
  unfold sumL
  rw [List.take_succ, h, List.foldl_append]
  rfl
def f_length_sum (u : Ua) : FS := fun ds Kp _ => ∃ ns ls, ds = [unD u ns, .lst (ls.map lenD)] ∧ ns.length ≤ 2 ∧ (∀ p ∈ ls, ∀ x ∈ p, OkP 4000 x) ∧ (∀ i, ∀ x ∈ sumL (ns.length + 1) (ls.take i), OkP 4000 x) ∧ (∀ i, (sumL (ns.length + 1) (ls.take i)).length ≤ 3) ∧ Kp (lenD (sumL (ns.length + 1) ls))
abbrev s_length_sum : Stmt := top 37
theorem sc_length_sum : FnScope ["units", "lengths", "found", "one"] ["units", "lengths"] (defScope s_length_sum) := ⟨rfl, rfl, rfl, by decide +kernel, rfl, by decide +kernel, by decide +kernel⟩
theorem ok_length_sum {G : Pg} {k : Nat} {u : Ua} (T : Tx G) (U : UnF G u) (h : At G "length_sum" s_length_sum) (c_nought_length : Fn G "nought_length" k ["units"] (f_nought_length u)) (c_length_plus : Fn G "length_plus" k ["one", "other"] f_length_plus) : Fn G "length_sum" (k + 1) ["units", "lengths"] (f_length_sum u) := by
  obtain ⟨fa, fd, F, hm⟩ := h
  refine Fn.of F hm sc_length_sum (fun _ _ _ _ _ _ us hl => match us, hl with | [_, _], _ => rfl) ?_
  intro cdv A outer s H E dr M ds Kp Ke tk po hr hl hf
  have tb := T.b
  have nd := sc_length_sum.nd
  obtain ⟨ns, ls, rfl, hn, h1, h2, h3, k⟩ := hf
  walk_at "go"
  refine ⟨ns, rfl, hn, ?_⟩
  walk_at "go"
  refine ds_for (.n 3) po rfl (pg_name nd rfl (.inl rfl) (.inr rfl)) ?_
  walk_at "go"
  refine ⟨fun i δ' => ∃ o, δ' = [.im (unD u ns), .im (.lst (ls.map lenD)), .im (lenD (sumL (ns.length + 1) (ls.take i))), o], ⟨_, rfl⟩, ?_, ?_⟩
  · rintro i d δ' hd ⟨o, rfl⟩
    refine ⟨trivial, ?_⟩
    rw [List.getElem?_map] at hd
    obtain ⟨p, hp, rfl⟩ := Option.map_eq_some_iff.mp hd
    walk_at "go"
    refine ⟨_, p, rfl, ?_, h2 i, h1 p (List.mem_of_getElem? hp), ?_⟩
    · have := h3 i; omega
    walk_at "go"
    refine ⟨.im (lenD p), ?_⟩
    rw [sumL_take hp]
    rfl
  · rintro δ' ⟨o, rfl⟩
    walk_at "go"
    rw [List.length_map, List.take_length]
    exact k
def f_need_length (u : Ua) : FS := fun ds Kp Ke => ∃ du d, ds = [du, d] ∧ ((∃ ns, du = unD u ns ∧ ns.length ≤ 2 ∧ pl d = true ∧ (if isLen (ns.length + 1) d = true then Kp .non else Ke ⟨u.bLength, [], []⟩)) ∨ (prim du = true ∧ Ke ⟨u.bUnits, [], []⟩))
abbrev s_need_length : Stmt := top 38
theorem sc_need_length : FnScope ["units", "length"] ["units", "length"] (defScope s_need_length) := ⟨rfl, rfl, rfl, by decide +kernel, rfl, by decide +kernel, by decide +kernel⟩
theorem ok_need_length {G : Pg} {k : Nat} {u : Ua} (T : Tx G) (U : UnF G u) (h : At G "need_length" s_need_length) (c_need_units : Fn G "need_units" k ["units"] (f_need_units u)) (c_is_length_of : Fn G "is_length_of" k ["units", "thing"] (f_is_length_of u)) : Fn G "need_length" (k + 1) ["units", "length"] (f_need_length u) := by
  obtain ⟨fa, fd, F, hm⟩ := h
  refine Fn.of F hm sc_need_length (fun _ _ _ _ _ _ us hl => match us, hl with | [_, _], _ => rfl) ?_
  intro cdv A outer s H E dr M ds Kp Ke tk po hr hl hf
  have tb := T.b
  have nd := sc_need_length.nd
  obtain ⟨du, d, rfl, hc⟩ := hf
  walk_at "go"
  rcases hc with ⟨ns, rfl, hn, hp, k⟩ | ⟨hp, k⟩
  · refine .inl ⟨ns, rfl, ?_⟩
    walk_at "go"
    refine ⟨ns, d, rfl, hn, hp, ?_⟩
    cases he : isLen (ns.length + 1) d with
    | true =>
      rw [he, if_pos rfl] at k
      walk_at "go"
      exact k
    | false =>
      rw [he, if_neg Bool.false_ne_true] at k
      walk_at "go"
      exact ds_raise rfl tk U.xLength rfl k
  · exact .inr ⟨hp, k⟩
def f_need_lengths (u : Ua) : FS := fun ds Kp Ke => ∃ du d, ds = [du, d] ∧ ((∃ ns, du = unD u ns ∧ ns.length ≤ 2 ∧ pl d = true ∧ (if areLen (ns.length + 1) d = true then Kp .non else Ke ⟨u.bLengths, [], []⟩)) ∨ (prim du = true ∧ Ke ⟨u.bUnits, [], []⟩))
abbrev s_need_lengths : Stmt := top 39
theorem sc_need_lengths : FnScope ["units", "lengths"] ["units", "lengths"] (defScope s_need_lengths) := ⟨rfl, rfl, rfl, by decide +kernel, rfl, by decide +kernel, by decide +kernel⟩
theorem ok_need_lengths {G : Pg} {k : Nat} {u : Ua} (T : Tx G) (U : UnF G u) (h : At G "need_lengths" s_need_lengths) (c_need_units : Fn G "need_units" k ["units"] (f_need_units u)) (c_are_lengths : Fn G "are_lengths" k ["units", "thing"] (f_are_lengths u)) : Fn G "need_lengths" (k + 1) ["units", "lengths"] (f_need_lengths u) := by
  obtain ⟨fa, fd, F, hm⟩ := h
  refine Fn.of F hm sc_need_lengths (fun _ _ _ _ _ _ us hl => match us, hl with | [_, _], _ => rfl) ?_
  intro cdv A outer s H E dr M ds Kp Ke tk po hr hl hf
  have tb := T.b
  have nd := sc_need_lengths.nd
  obtain ⟨du, d, rfl, hc⟩ := hf
  walk_at "go"
  rcases hc with ⟨ns, rfl, hn, hp, k⟩ | ⟨hp, k⟩
  · refine .inl ⟨ns, rfl, ?_⟩
    walk_at "go"
    refine ⟨ns, d, rfl, hn, hp, ?_⟩
    cases he : areLen (ns.length + 1) d with
    | true =>
      rw [he, if_pos rfl] at k
      walk_at "go"
      exact k
    | false =>
      rw [he, if_neg Bool.false_ne_true] at k
      walk_at "go"
      exact ds_raise rfl tk U.xLengths rfl k
  · exact .inr ⟨hp, k⟩

def f_need_two (u : Ua) : FS := fun ds Kp Ke => ∃ du d e, ds = [du, d, e] ∧ ∃ ns, du = unD u ns ∧ ns.length ≤ 2 ∧ pl d = true ∧ (if isLen (ns.length + 1) d = true then (pl e = true ∧ (if isLen (ns.length + 1) e = true then Kp .non else Ke ⟨u.bOther, [], []⟩)) else Ke ⟨u.bOne, [], []⟩)
abbrev s_need_two : Stmt := top 40
theorem sc_need_two : FnScope ["units", "one", "other"] ["units", "one", "other"] (defScope s_need_two) := ⟨rfl, rfl, rfl, by decide +kernel, rfl, by decide +kernel, by decide +kernel⟩
theorem ok_need_two {G : Pg} {k : Nat} {u : Ua} (T : Tx G) (U : UnF G u) (h : At G "need_two" s_need_two) (c_need_units : Fn G "need_units" k ["units"] (f_need_units u)) (c_is_length_of : Fn G "is_length_of" k ["units", "thing"] (f_is_length_of u)) : Fn G "need_two" (k + 1) ["units", "one", "other"] (f_need_two u) := by
  obtain ⟨fa, fd, F, hm⟩ := h
  refine Fn.of F hm sc_need_two (fun _ _ _ _ _ _ us hl => match us, hl with | [_, _, _], _ => rfl) ?_
  intro cdv A outer s H E dr M ds Kp Ke tk po hr hl hf
  have tb := T.b
  have nd := sc_need_two.nd
  obtain ⟨du, d, e, rfl, ns, rfl, hn, hp, k⟩ := hf
  walk_at "go"
  refine .inl ⟨ns, rfl, ?_⟩
  walk_at "go"
  refine ⟨ns, d, rfl, hn, hp, ?_⟩
  cases he : isLen (ns.length + 1) d with
  | true =>
    rw [he, if_pos rfl] at k
    obtain ⟨hp2, k⟩ := k
    walk_at "go"
    refine ⟨ns, e, rfl, hn, hp2, ?_⟩
    cases he : isLen (ns.length + 1) e with
    | true =>
      rw [he, if_pos rfl] at k
      walk_at "go"
      exact k
    | false =>
      rw [he, if_neg Bool.false_ne_true] at k
      walk_at "go"
      exact ds_raise rfl tk U.xOther rfl k
  | false =>
    rw [he, if_neg Bool.false_ne_true] at k
    walk_at "go"
    exact ds_raise rfl tk U.xOne rfl k
def f_is_given : FS := f_is_given_number
abbrev s_is_given : Stmt := top 41
theorem sc_is_given : FnScope ["thing"] ["thing"] (defScope s_is_given) := ⟨rfl, rfl, rfl, by decide +kernel, rfl, by decide +kernel, by decide +kernel⟩
theorem okd_is_given {G : Pg} {k : Nat} (T : Tx G) (h : At G "is_given" s_is_given) (c_is_given_number : Fn G "is_given_number" k ["thing"] f_is_given_number) : FnD G "is_given" s_is_given (k + 1) ["thing"] f_is_given := by
  obtain ⟨fa, fd, F, hm⟩ := h
  refine ⟨fa, fd, hm, F, fn_ok F sc_is_given ?_⟩
  intro cdv A outer s H E dr M ds Kp Ke tk po hr hl hf
  have tb := T.b
  have nd := sc_is_given.nd
  obtain ⟨d, rfl, hp, k⟩ := as1_ex hf
  walk_at "go"
  exact ⟨hp, k⟩
def f_is_length (u : Ua) : FS := fun ds Kp Ke => ∃ du d, ds = [du, d] ∧ ((∃ ns, du = unD u ns ∧ ns.length ≤ 2 ∧ pl d = true ∧ Kp (.bl (isLen (ns.length + 1) d))) ∨ (prim du = true ∧ Ke ⟨u.bUnits, [], []⟩))
abbrev s_is_length : Stmt := top 42
theorem sc_is_length : FnScope ["units", "thing"] ["units", "thing"] (defScope s_is_length) := ⟨rfl, rfl, rfl, by decide +kernel, rfl, by decide +kernel, by decide +kernel⟩
theorem okd_is_length {G : Pg} {k : Nat} {u : Ua} (T : Tx G) (U : UnF G u) (h : At G "is_length" s_is_length) (c_need_units : Fn G "need_units" k ["units"] (f_need_units u)) (c_is_length_of : Fn G "is_length_of" k ["units", "thing"] (f_is_length_of u)) : FnD G "is_length" s_is_length (k + 1) ["units", "thing"] (f_is_length u) := by
  obtain ⟨fa, fd, F, hm⟩ := h
  refine ⟨fa, fd, hm, F, fn_ok F sc_is_length ?_⟩
  intro cdv A outer s H E dr M ds Kp Ke tk po hr hl hf
  have tb := T.b
  have nd := sc_is_length.nd
  obtain ⟨du, d, rfl, hc⟩ := hf
  walk_at "go"
  rcases hc with ⟨ns, rfl, hn, hp, k⟩ | ⟨hp, k⟩
  · refine .inl ⟨ns, rfl, ?_⟩
    walk_at "go"
    exact ⟨ns, d, rfl, hn, hp, k⟩
  · exact .inr ⟨hp, k⟩
theorem isLen_seq {n : Nat} {d : D} (h : isLen n d = true) : ∃ l, seqD d = some l ∧ l.length = n := by
  unfold isLen at h
  cases e : seqD d with
  | none => rw [e] at h; cases h
  | some l =>
    rw [e] at h
    simp only [Bool.and_eq_true, beq_iff_eq] at h
    exact ⟨l, rfl, h.1⟩
/-- a length's ratios -/
def lenOf (d : D) : D := match seqD d with
  | some l => .tup (l.map asRat)
  | none => d
theorem lenOf_seq {d : D} {l : List D} (h : seqD d = some l) : lenOf d = .tup (l.map asRat) := by rw [lenOf, h]
def f_plain (u : Ua) : FS := fun ds Kp Ke => ∃ du d, ds = [du, d] ∧ ((∃ ns, du = unD u ns ∧ ns.length ≤ 2 ∧ pl d = true ∧ (if isLen (ns.length + 1) d = true then Kp (lenOf d) else Ke ⟨u.bLength, [], []⟩)) ∨ (prim du = true ∧ Ke ⟨u.bUnits, [], []⟩))
abbrev s_plain : Stmt := top 43
theorem sc_plain : FnScope ["units", "length"] ["units", "length"] (defScope s_plain) := ⟨rfl, rfl, rfl, by decide +kernel, rfl, by decide +kernel, by decide +kernel⟩
theorem okd_plain {G : Pg} {k : Nat} {u : Ua} (T : Tx G) (U : UnF G u) (h : At G "plain" s_plain) (c_need_length : Fn G "need_length" k ["units", "length"] (f_need_length u)) (c_as_length : Fn G "as_length" k ["thing"] f_as_length) : FnD G "plain" s_plain (k + 1) ["units", "length"] (f_plain u) := by
  obtain ⟨fa, fd, F, hm⟩ := h
  refine ⟨fa, fd, hm, F, fn_ok F sc_plain ?_⟩
  intro cdv A outer s H E dr M ds Kp Ke tk po hr hl hf
  have tb := T.b
  have nd := sc_plain.nd
  obtain ⟨du, d, rfl, hc⟩ := hf
  walk_at "go"
  refine ⟨du, d, rfl, ?_⟩
  rcases hc with ⟨ns, rfl, hn, hp, k⟩ | ⟨hp, k⟩
  · refine .inl ⟨ns, rfl, hn, hp, ?_⟩
    cases he : isLen (ns.length + 1) d with
    | true =>
      rw [he, if_pos rfl] at k
      obtain ⟨l, hs, hl⟩ := isLen_seq he
      rw [if_pos rfl]
      walk_at "go"
      refine ⟨d, l, rfl, hs, pl_items hp hs, by omega, ?_⟩
      rw [← lenOf_seq hs]
      exact k
    | false =>
      rw [he, if_neg Bool.false_ne_true] at k
      rw [if_neg Bool.false_ne_true]
      exact k
  · exact .inr ⟨hp, k⟩
theorem areLen_seq {n : Nat} {d : D} (h : areLen n d = true) : ∃ l, seqD d = some l ∧ l.length ≤ 400 ∧ ∀ x ∈ l, isLen n x = true := by
  unfold areLen at h
  cases e : seqD d with
  | none => rw [e] at h; cases h
  | some l =>
    rw [e] at h
    simp only [Bool.and_eq_true, decide_eq_true_eq, List.all_eq_true] at h
    exact ⟨l, rfl, h.1, h.2⟩
/-- lists of ratios that can be added -/
structure SumOk (n : Nat) (ls : List (List (Int × Int))) : Prop where
  it : ∀ p ∈ ls, ∀ x ∈ p, OkP 4000 x
  pre : ∀ i, ∀ x ∈ sumL n (ls.take i), OkP 4000 x
  len : ∀ i, (sumL n (ls.take i)).length ≤ 3
def f_total (u : Ua) : FS := fun ds Kp Ke => ∃ du d, ds = [du, d] ∧ ∃ ns, du = unD u ns ∧ ns.length ≤ 2 ∧ pl d = true ∧ (if areLen (ns.length + 1) d = true then ∃ l ls, seqD d = some l ∧ l.map lenOf = ls.map lenD ∧ SumOk (ns.length + 1) ls ∧ Kp (lenD (sumL (ns.length + 1) ls)) else Ke ⟨u.bLengths, [], []⟩)
abbrev s_total : Stmt := top 44
theorem sc_total : FnScope ["units", "lengths", "one"] ["units", "lengths"] (defScope s_total) := ⟨rfl, rfl, rfl, by decide +kernel, rfl, by decide +kernel, by decide +kernel⟩
theorem okd_total {G : Pg} {k : Nat} {u : Ua} (T : Tx G) (U : UnF G u) (h : At G "total" s_total) (c_need_lengths : Fn G "need_lengths" k ["units", "lengths"] (f_need_lengths u)) (c_as_length : Fn G "as_length" k ["thing"] f_as_length) (c_length_sum : Fn G "length_sum" k ["units", "lengths"] (f_length_sum u)) : FnD G "total" s_total (k + 1) ["units", "lengths"] (f_total u) := by
  obtain ⟨fa, fd, F, hm⟩ := h
  refine ⟨fa, fd, hm, F, fn_ok F sc_total ?_⟩
  intro cdv A outer s H E dr M ds Kp Ke tk po hr hl hf
  have tb := T.b
  have nd := sc_total.nd
  obtain ⟨du, d, rfl, ns, rfl, hn, hp, k⟩ := hf
  walk_at "go"
  refine ⟨_, d, rfl, .inl ⟨ns, rfl, hn, hp, ?_⟩⟩
  cases he : areLen (ns.length + 1) d with
  | true =>
    rw [he, if_pos rfl] at k
    obtain ⟨l, ls, hs, em, so, k⟩ := k
    obtain ⟨l', hs', hl, hi⟩ := areLen_seq he
    rw [hs] at hs'
    cases hs'
    rw [if_pos rfl]
    walk_at "go"
    refine ⟨l, hs, ?_⟩
    refine lc_map lenOf (by omega) (fun _ _ => trivial) (fun d hd A s H C cl fp => ?_) ?_
    · obtain ⟨m, hm, hl2⟩ := isLen_seq (hi d hd)
      walk_at "go"
      exact ⟨d, m, rfl, hm, pl_items (plL_mem (pl_items hp hs) d hd) hm, by omega, (lenOf_seq hm).symm⟩
    rw [em]
    walk_at "go"
    exact ⟨ns, ls, rfl, hn, so.it, so.pre, so.len, k⟩
  | false =>
    rw [he, if_neg Bool.false_ne_true] at k
    rw [if_neg Bool.false_ne_true]
    exact k
def f_difference (u : Ua) : FS := fun ds Kp Ke => ∃ du d e, ds = [du, d, e] ∧ ∃ ns, du = unD u ns ∧ ns.length ≤ 2 ∧ pl d = true ∧ (if isLen (ns.length + 1) d = true then (pl e = true ∧ (if isLen (ns.length + 1) e = true then ∃ p q, lenOf d = lenD p ∧ lenOf e = lenD q ∧ p.length ≤ 3 ∧ (∀ x ∈ p, OkP 4000 x) ∧ (∀ x ∈ q, OkP 4000 x) ∧ Kp (lenD (List.zipWith minusP p q)) else Ke ⟨u.bOther, [], []⟩)) else Ke ⟨u.bOne, [], []⟩)
abbrev s_difference : Stmt := top 45
theorem sc_difference : FnScope ["units", "one", "other"] ["units", "one", "other"] (defScope s_difference) := ⟨rfl, rfl, rfl, by decide +kernel, rfl, by decide +kernel, by decide +kernel⟩
theorem okd_difference {G : Pg} {k : Nat} {u : Ua} (T : Tx G) (U : UnF G u) (h : At G "difference" s_difference) (c_need_two : Fn G "need_two" k ["units", "one", "other"] (f_need_two u)) (c_as_length : Fn G "as_length" k ["thing"] f_as_length) (c_length_minus : Fn G "length_minus" k ["one", "other"] f_length_minus) : FnD G "difference" s_difference (k + 1) ["units", "one", "other"] (f_difference u) := by
  obtain ⟨fa, fd, F, hm⟩ := h
  refine ⟨fa, fd, hm, F, fn_ok F sc_difference ?_⟩
  intro cdv A outer s H E dr M ds Kp Ke tk po hr hl hf
  have tb := T.b
  have nd := sc_difference.nd
  obtain ⟨du, d, e, rfl, ns, rfl, hn, hp, k⟩ := hf
  walk_at "go"
  refine ⟨_, d, e, rfl, ns, rfl, hn, hp, ?_⟩
  cases he : isLen (ns.length + 1) d with
  | true =>
    rw [he, if_pos rfl] at k
    obtain ⟨hp2, k⟩ := k
    rw [if_pos rfl]
    refine ⟨hp2, ?_⟩
    cases he2 : isLen (ns.length + 1) e with
    | true =>
      rw [he2, if_pos rfl] at k
      obtain ⟨p, q, e1, e2, h3, h1, h2, k⟩ := k
      obtain ⟨l, hs, hl⟩ := isLen_seq he
      obtain ⟨m, hm, hl2⟩ := isLen_seq he2
      rw [if_pos rfl]
      walk_at "go"
      refine ⟨d, l, rfl, hs, pl_items hp hs, by omega, ?_⟩
      rw [← lenOf_seq hs, e1]
      walk_at "go"
      refine ⟨e, m, rfl, hm, pl_items hp2 hm, by omega, ?_⟩
      rw [← lenOf_seq hm, e2]
      walk_at "go"
      exact ⟨p, q, rfl, by omega, h1, h2, k⟩
    | false =>
      rw [he2, if_neg Bool.false_ne_true] at k
      rw [if_neg Bool.false_ne_true]
      exact k
  | false =>
    rw [he, if_neg Bool.false_ne_true] at k
    rw [if_neg Bool.false_ne_true]
    exact k
def f_multiple (u : Ua) : FS := fun ds Kp Ke => ∃ du d r, ds = [du, d, r] ∧ ∃ ns, du = unD u ns ∧ ns.length ≤ 2 ∧ pl d = true ∧ (if isLen (ns.length + 1) d = true then (pl r = true ∧ (if isGiv r = true then ∃ p y, lenOf d = lenD p ∧ asRat r = ratP y ∧ p.length ≤ 3 ∧ (∀ x ∈ p, OkP 4000 x) ∧ OkP 4000 y ∧ Kp (lenD (p.map fun x => timesP x y)) else Ke ⟨u.bRatio, [], []⟩)) else Ke ⟨u.bLength, [], []⟩)
abbrev s_multiple : Stmt := top 46
theorem sc_multiple : FnScope ["units", "length", "ratio"] ["units", "length", "ratio"] (defScope s_multiple) := ⟨rfl, rfl, rfl, by decide +kernel, rfl, by decide +kernel, by decide +kernel⟩
theorem okd_multiple {G : Pg} {k : Nat} {u : Ua} (T : Tx G) (U : UnF G u) (h : At G "multiple" s_multiple) (c_need_length : Fn G "need_length" k ["units", "length"] (f_need_length u)) (c_is_given_number : Fn G "is_given_number" k ["thing"] f_is_given_number) (c_as_length : Fn G "as_length" k ["thing"] f_as_length) (c_as_ratio : Fn G "as_ratio" k ["number"] f_as_ratio) (c_length_times : Fn G "length_times" k ["length", "ratio"] f_length_times) : FnD G "multiple" s_multiple (k + 1) ["units", "length", "ratio"] (f_multiple u) := by
  obtain ⟨fa, fd, F, hm⟩ := h
  refine ⟨fa, fd, hm, F, fn_ok F sc_multiple ?_⟩
  intro cdv A outer s H E dr M ds Kp Ke tk po hr hl hf
  have tb := T.b
  have nd := sc_multiple.nd
  obtain ⟨du, d, r, rfl, ns, rfl, hn, hp, k⟩ := hf
  walk_at "go"
  refine ⟨_, d, rfl, .inl ⟨ns, rfl, hn, hp, ?_⟩⟩
  cases he : isLen (ns.length + 1) d with
  | true =>
    rw [he, if_pos rfl] at k
    obtain ⟨hp2, k⟩ := k
    rw [if_pos rfl]
    walk_at "go"
    refine ⟨hp2, ?_⟩
    cases he2 : isGiv r with
    | true =>
      rw [he2, if_pos rfl] at k
      obtain ⟨p, y, e1, e2, h3, h1, h2, k⟩ := k
      obtain ⟨l, hs, hl⟩ := isLen_seq he
      walk_at "go"
      refine ⟨d, l, rfl, hs, pl_items hp hs, by omega, ?_⟩
      rw [← lenOf_seq hs, e1]
      walk_at "go"
      refine ⟨hp2, ?_⟩
      rw [e2]
      walk_at "go"
      exact ⟨p, y, rfl, by omega, h1, h2, k⟩
    | false =>
      rw [he2, if_neg Bool.false_ne_true] at k
      walk_at "go"
      exact ds_raise rfl tk U.xRatio rfl k
  | false =>
    rw [he, if_neg Bool.false_ne_true] at k
    rw [if_neg Bool.false_ne_true]
    exact k
/-! ### the law's kinds -/
def kindS : D → Str
  | .tup _ => "tuple"
  | .lst _ => "list"
  | .dic _ _ => "dict"
  | .bl _ => "bool"
  | _ => "other"
def kids (d : D) : List D := match seqD d with
  | some l => l
  | none => []
mutual
def sizeD : D → Nat
  | .tup l => 1 + sizeL l
  | .lst l => 1 + sizeL l
  | .dic _ l => 1 + sizeL l
  | .ins _ _ l => 1 + sizeL l
  | .exc _ _ l => 1 + sizeL l
  | _ => 1
def sizeL : List D → Nat
  | [] => 0
  | d :: l => sizeD d + sizeL l
end
theorem sizeL_append : ∀ l m : List D, sizeL (l ++ m) = sizeL l + sizeL m
  | [], m => by simp [sizeL]
  | d :: l, m => by
    rw [List.cons_append, sizeL, sizeL, sizeL_append l m]; omega
theorem sizeD_pos (d : D) : 1 ≤ sizeD d := by cases d <;> simp [sizeD]
theorem sizeL_len : ∀ l : List D, l.length ≤ sizeL l
  | [] => Nat.zero_le _
  | d :: l => by
    have := sizeL_len l
    have := sizeD_pos d
    simp only [List.length_cons, sizeL]; omega
/-- the kinds, found from the line's end on -/
def kr : Nat → List D → List D → List D
  | 0, _, f => f
  | n + 1, line, f => match line.getLast? with
    | none => f
    | some h => kr n (line.dropLast ++ kids h) (f ++ [.str (kindS h)])
def kindsOf (d : D) : List D := kr (sizeD d) [d] []
theorem kr_step {l f : List D} {h : D} (hs : sizeD h = 1 + sizeL (kids h)) : kr (sizeL (l ++ [h])) (l ++ [h]) f = kr (sizeL (l ++ kids h)) (l ++ kids h) (f ++ [.str (kindS h)]) := by
  have e : sizeL (l ++ [h]) = sizeL (l ++ kids h) + 1 := by
    rw [sizeL_append, sizeL_append, sizeL, sizeL, hs]; omega
  rw [e]
  simp only [kr, List.getLast?_concat, List.dropLast_concat]
def kInv (t : D) (R : List D) (δ : De) : Prop := ∃ f l o1 o2 o3 o4 o5, δ = [.im t, .ow f, .ow l, o1, o2, o3, o4, o5] ∧ noOw o1 = true ∧ noOw o2 = true ∧ (∀ x ∈ l, okd 60 x = true) ∧ f.length + sizeL l ≤ 1000000 ∧ kr (sizeL l) l f = R
def slotL (i : Nat) (δ : De) : Nat := match δ[i]? with
  | some (.ow l) => sizeL l
  | _ => 0
def f__law_kinds : FS := fun ds Kp _ => as1 (fun d => okd 60 d = true ∧ sizeD d ≤ 1000000 ∧ Kp (.lst (kindsOf d))) ds
abbrev s__law_kinds : Stmt := top 53
theorem sc__law_kinds : FnScope ["thing", "found", "line", "here", "kind", "named", "key", "name"] ["thing"] (defScope s__law_kinds) := ⟨rfl, rfl, rfl, by decide +kernel, rfl, by decide +kernel, by decide +kernel⟩
theorem ok__law_kinds {G : Pg} {k : Nat} (T : Tx G) (h : At G "_law_kinds" s__law_kinds) : Fn G "_law_kinds" (k + 1) ["thing"] f__law_kinds := by
  obtain ⟨fa, fd, F, hm⟩ := h
  refine Fn.of F hm sc__law_kinds (fun _ _ _ _ _ _ us hl => match us, hl with | [_], _ => rfl) ?_
  intro cdv A outer s H E dr M ds Kp Ke tk po hr hl hf
  have tb := T.b
  have nd := sc__law_kinds.nd
  obtain ⟨d, rfl, ho, hz, k⟩ := as1_ex hf
  walk_at "ds"
  refine ds_par2F 1 2 rfl nd rfl rfl (by decide) rfl rfl rfl (df_lst (da_nil ⟨by decide, fun p => df_lst ?_⟩))
  walk_at "go"
  refine ⟨by simp, ?_⟩
  walk_at "go"
  refine ds_while (kInv d (kindsOf d)) (slotL 2) po ⟨[], [d], _, _, _, _, _, rfl, rfl, rfl, fun x hx => by rw [List.mem_singleton.mp hx]; exact ho, by simp [sizeL]; omega, by simp [kindsOf, sizeL]⟩ (fun δ' hI => ?_)
  obtain ⟨f, l, o1, o2, o3, o4, o5, rfl, n1, n2, hl, hb, hR⟩ := hI
  refine dt_owNe 2 hr rfl (.inl rfl) rfl (okd_lst.mpr fun x hx => okd_mono (hl x hx) (by decide)) ?_
  refine And.intro (fun h => ?_) (fun h => ?_)
  · obtain ⟨l, h0, rfl⟩ : ∃ l' h0, l = l' ++ [h0] := by
      have hne : l ≠ [] := by intro z; subst z; cases h
      exact ⟨l.dropLast, l.getLast hne, (List.dropLast_concat_getLast hne).symm⟩
    have oh := hl h0 (by simp)
    have ph := okd_prim oh
    refine ds_cons (ds_popS (l := l) (d := h0) 3 2 nd rfl (.inr rfl) rfl (.inl rfl) rfl ?_)
    cases h0 with
    | tup c =>
      walk_at "go"
      refine ⟨rfl, ?_⟩
      walk_at "go"
      refine ds_append 1 rfl (.inl rfl) rfl (by have := sizeL_len l; omega) ?_
      walk_at "go"
      refine ⟨by decide, _, _, _, rfl, rfl, rfl, ?_⟩
      refine brT (by decide +kernel) ?_
      refine ds_cons (ds_setF 2 nd rfl (.inl rfl) (df_addOw 2 rfl (.inl rfl) rfl ?_))
      walk_at "go"
      refine ⟨c, rfl, by have := sizeL_len c; simp only [sizeL_append, sizeL, sizeD] at hb; have := sizeL_len l; omega, ?_⟩
      walk_at "go"
      refine ⟨by decide +kernel, by decide +kernel, ?_⟩
      refine brF (by decide +kernel) ?_
      walk_at "go"
      refine ⟨⟨f ++ [.str (kindS (.tup c))], l ++ c, _, _, _, _, _, rfl, rfl, rfl, fun x hx => ?_, ?_, ?_⟩, ?_⟩
      · rcases List.mem_append.mp hx with hx | hx
        · exact hl x (List.mem_append_left _ hx)
        · exact okd_mono (okd_tup.mp (hl _ (by simp)) x hx) (by decide)
      · simp only [sizeL_append, sizeL, sizeD, List.length_append, List.length_singleton] at hb ⊢; omega
      · rw [← hR, kr_step (by simp [sizeD, kids, seqD])]; rfl
      · show sizeL (l ++ c) < sizeL (l ++ [_])
        simp only [sizeL_append, sizeL, sizeD]; omega
    | lst c =>
      walk_at "go"
      refine ⟨rfl, ?_⟩
      walk_at "go"
      refine ⟨rfl, ?_⟩
      walk_at "go"
      refine ds_append 1 rfl (.inl rfl) rfl (by have := sizeL_len l; omega) ?_
      walk_at "go"
      refine ⟨by decide, _, _, _, rfl, rfl, rfl, ?_⟩
      refine brT (by decide +kernel) ?_
      refine ds_cons (ds_setF 2 nd rfl (.inl rfl) (df_addOw 2 rfl (.inl rfl) rfl ?_))
      walk_at "go"
      refine ⟨c, rfl, by have := sizeL_len c; simp only [sizeL_append, sizeL, sizeD] at hb; have := sizeL_len l; omega, ?_⟩
      walk_at "go"
      refine ⟨by decide +kernel, by decide +kernel, ?_⟩
      refine brF (by decide +kernel) ?_
      walk_at "go"
      refine ⟨⟨f ++ [.str (kindS (.lst c))], l ++ c, _, _, _, _, _, rfl, rfl, rfl, fun x hx => ?_, ?_, ?_⟩, ?_⟩
      · rcases List.mem_append.mp hx with hx | hx
        · exact hl x (List.mem_append_left _ hx)
        · exact okd_mono (okd_lst.mp (hl _ (by simp)) x hx) (by decide)
      · simp only [sizeL_append, sizeL, sizeD, List.length_append, List.length_singleton] at hb ⊢; omega
      · rw [← hR, kr_step (by simp [sizeD, kids, seqD])]; rfl
      · show sizeL (l ++ c) < sizeL (l ++ [_])
        simp only [sizeL_append, sizeL, sizeD]; omega
    | bl c =>
      walk_at "go"
      refine ⟨rfl, ?_⟩
      walk_at "go"
      refine ⟨rfl, ?_⟩
      walk_at "go"
      refine ⟨rfl, ?_⟩
      walk_at "go"
      refine ⟨rfl, ?_⟩
      walk_at "go"
      refine ds_append 1 rfl (.inl rfl) rfl (by have := sizeL_len l; omega) ?_
      walk_at "go"
      refine ⟨by decide, _, _, _, rfl, rfl, rfl, ?_⟩
      refine brF (by decide +kernel) ?_
      walk_at "go"
      refine ⟨by decide +kernel, by decide +kernel, ?_⟩
      refine brF (by decide +kernel) ?_
      walk_at "go"
      refine ⟨⟨f ++ [.str (kindS (.bl c))], l, _, _, _, _, _, rfl, rfl, rfl, fun x hx => hl x (List.mem_append_left _ hx), ?_, ?_⟩, ?_⟩
      · simp only [sizeL_append, sizeL, sizeD, List.length_append, List.length_singleton] at hb ⊢; omega
      · rw [← hR, kr_step (by simp [sizeD, kids, seqD, sizeL])]; simp [kids, seqD, kindS]
      · show sizeL l < sizeL (l ++ [_])
        simp only [sizeL_append, sizeL, sizeD]; omega
    | non =>
      walk_at "go"
      refine ⟨rfl, ?_⟩
      walk_at "go"
      refine ⟨rfl, ?_⟩
      walk_at "go"
      refine ⟨rfl, ?_⟩
      walk_at "go"
      refine ⟨rfl, ?_⟩
      walk_at "go"
      refine ds_append 1 rfl (.inl rfl) rfl (by have := sizeL_len l; omega) ?_
      walk_at "go"
      refine ⟨by decide, _, _, _, rfl, rfl, rfl, ?_⟩
      refine brF (by decide +kernel) ?_
      walk_at "go"
      refine ⟨by decide +kernel, by decide +kernel, ?_⟩
      refine brF (by decide +kernel) ?_
      walk_at "go"
      refine ⟨⟨f ++ [.str (kindS (.non))], l, _, _, _, _, _, rfl, rfl, rfl, fun x hx => hl x (List.mem_append_left _ hx), ?_, ?_⟩, ?_⟩
      · simp only [sizeL_append, sizeL, sizeD, List.length_append, List.length_singleton] at hb ⊢; omega
      · rw [← hR, kr_step (by simp [sizeD, kids, seqD, sizeL])]; simp [kids, seqD, kindS]
      · show sizeL l < sizeL (l ++ [_])
        simp only [sizeL_append, sizeL, sizeD]; omega
    | int c =>
      walk_at "go"
      refine ⟨rfl, ?_⟩
      walk_at "go"
      refine ⟨rfl, ?_⟩
      walk_at "go"
      refine ⟨rfl, ?_⟩
      walk_at "go"
      refine ⟨rfl, ?_⟩
      walk_at "go"
      refine ds_append 1 rfl (.inl rfl) rfl (by have := sizeL_len l; omega) ?_
      walk_at "go"
      refine ⟨by decide, _, _, _, rfl, rfl, rfl, ?_⟩
      refine brF (by decide +kernel) ?_
      walk_at "go"
      refine ⟨by decide +kernel, by decide +kernel, ?_⟩
      refine brF (by decide +kernel) ?_
      walk_at "go"
      refine ⟨⟨f ++ [.str (kindS (.int c))], l, _, _, _, _, _, rfl, rfl, rfl, fun x hx => hl x (List.mem_append_left _ hx), ?_, ?_⟩, ?_⟩
      · simp only [sizeL_append, sizeL, sizeD, List.length_append, List.length_singleton] at hb ⊢; omega
      · rw [← hR, kr_step (by simp [sizeD, kids, seqD, sizeL])]; simp [kids, seqD, kindS]
      · show sizeL l < sizeL (l ++ [_])
        simp only [sizeL_append, sizeL, sizeD]; omega
    | str c =>
      walk_at "go"
      refine ⟨rfl, ?_⟩
      walk_at "go"
      refine ⟨rfl, ?_⟩
      walk_at "go"
      refine ⟨rfl, ?_⟩
      walk_at "go"
      refine ⟨rfl, ?_⟩
      walk_at "go"
      refine ds_append 1 rfl (.inl rfl) rfl (by have := sizeL_len l; omega) ?_
      walk_at "go"
      refine ⟨by decide, _, _, _, rfl, rfl, rfl, ?_⟩
      refine brF (by decide +kernel) ?_
      walk_at "go"
      refine ⟨by decide +kernel, by decide +kernel, ?_⟩
      refine brF (by decide +kernel) ?_
      walk_at "go"
      refine ⟨⟨f ++ [.str (kindS (.str c))], l, _, _, _, _, _, rfl, rfl, rfl, fun x hx => hl x (List.mem_append_left _ hx), ?_, ?_⟩, ?_⟩
      · simp only [sizeL_append, sizeL, sizeD, List.length_append, List.length_singleton] at hb ⊢; omega
      · rw [← hR, kr_step (by simp [sizeD, kids, seqD, sizeL])]; simp [kids, seqD, kindS]
      · show sizeL l < sizeL (l ++ [_])
        simp only [sizeL_append, sizeL, sizeD]; omega
    | dic _ _ => cases oh
    | ins _ _ _ => cases oh
    | exc _ _ _ => cases oh
    | drw => cases oh
    | frz _ => cases oh
  · have hl0 : l = [] := by simpa using h
    subst hl0
    have e : f = kindsOf d := hR
    refine ds_cons (ds_retOw 1 rfl (.inl rfl) rfl ?_)
    rw [e]
    exact k
/-! ### draws -/
def f__law_mixed : FS := fun ds Kp _ => as1 (fun d => d = .drw ∧ ∀ i : Int, Kp (.int i)) ds
theorem emod_b {a g : Int} (h : 0 < g) : 0 ≤ a % g ∧ a % g < g := ⟨Int.emod_nonneg _ (by omega), Int.emod_lt_of_pos _ h⟩
theorem cpow5 {b g : Int} (h0 : 0 ≤ b) (h1 : b < g) (h2 : g < 2 ^ 31) : CPowD b 5 := ⟨by decide, PyProof.Rows.bits_mul_le (by omega) (by decide) (by decide)⟩
abbrev s__law_mixed : Stmt := top 49
theorem sc__law_mixed : FnScope ["draw", "turn", "found", "great", "blend", "cell"] ["draw"] (defScope s__law_mixed) := ⟨rfl, rfl, rfl, by decide +kernel, rfl, by decide +kernel, by decide +kernel⟩
theorem ok__law_mixed {G : Pg} {k : Nat} (T : Tx G) (h : At G "_law_mixed" s__law_mixed) : Fn G "_law_mixed" (k + 1) ["draw"] f__law_mixed := by
  obtain ⟨fa, fd, F, hm⟩ := h
  refine Fn.of F hm sc__law_mixed (fun _ _ _ _ _ _ us hl => match us, hl with | [_], _ => rfl) ?_
  intro cdv A outer s H E dr M ds Kp Ke tk po hr hl hf
  have tb := T.b
  have nd := sc__law_mixed.nd
  obtain ⟨d, rfl, rfl, k⟩ := as1_ex hf
  cases dr with
  | none => exact dss_nodr 0 rfl
  | some dd =>
    walk_at "go"
    rename_i t0 t
    refine ds_for (.n 3) po rfl (pg_name nd rfl (.inl rfl) (.inr rfl)) ?_
    walk_at "go"
    refine ⟨by decide, ?_⟩
    walk_at "go"
    refine ⟨fun i δ' => ∃ f o1 o2 o3, δ' = [.im .drw, .im (.int t), .im (.int f), o1, o2, o3], ⟨_, _, _, _, rfl⟩, ?_, ?_⟩
    · rintro i d δ' hd ⟨f, o1, o2, o3, rfl⟩
      obtain ⟨g, rfl, hg0, hg1⟩ : ∃ g : Int, d = .int g ∧ 0 < g ∧ g < 2 ^ 31 := by
        have := List.mem_of_getElem? hd
        simp only [List.mem_cons, List.mem_nil_iff, or_false] at this
        rcases this with rfl | rfl | rfl
        · exact ⟨_, rfl, by decide, by decide⟩
        · exact ⟨_, rfl, by decide, by decide⟩
        · exact ⟨_, rfl, by decide, by decide⟩
      refine ⟨trivial, ?_⟩
      walk_at "go"
      refine ⟨.inl (.inr ⟨by decide, by decide⟩), ?_⟩
      walk_at "go"
      refine ⟨⟨by decide, by decide +kernel⟩, ?_⟩
      walk_at "go"
      refine ⟨hg0, ?_⟩
      walk_at "go"
      refine ds_for (.n 5) po rfl (pg_name nd rfl (.inl rfl) (.inr rfl)) (di_cells (j := 0) hr rfl (.inl rfl) rfl ⟨fun _ δ' => ∃ b o, δ' = [.im .drw, .im (.int t), .im (.int f), .im (.int g), .im (.int b), o] ∧ 0 ≤ b ∧ b < g, ⟨_, _, rfl, emod_b hg0⟩, ?_, ?_⟩)
      · rintro i2 d2 δ' hd2 ⟨b, o, rfl, hb0, hb1⟩
        rw [List.getElem?_map] at hd2
        obtain ⟨c, _, rfl⟩ := Option.map_eq_some_iff.mp hd2
        refine ⟨trivial, ?_⟩
        walk_at "go"
        refine ⟨.inl (.inr ⟨by decide, by decide⟩), ?_⟩
        walk_at "go"
        refine ⟨hg0, ?_⟩
        walk_at "go"
        exact ⟨_, _, rfl, emod_b hg0⟩
      · rintro δ' ⟨b, o, rfl, hb0, hb1⟩
        walk_at "go"
        refine ⟨.inl (.inr ⟨by decide, by decide⟩), ?_⟩
        walk_at "go"
        refine ⟨cpow5 hb0 hb1 hg1, ?_⟩
        walk_at "go"
        refine ⟨hg0, ?_⟩
        walk_at "go"
        exact ⟨_, _, _, _, rfl⟩
    · rintro δ' ⟨f, o1, o2, o3, rfl⟩
      walk_at "go"
      exact k f
def f__law_take : FS := fun ds Kp _ => ∃ n : Int, ds = [.drw, .int n] ∧ 0 < n ∧ n < 2 ^ 62 ∧ ∀ i : Int, 0 ≤ i → i < n → Kp (.int i)
theorem cdivT {n r : Int} (h0 : 0 < n) (h1 : n < 2 ^ 62) : CDivW r n := ⟨h0, Nat.lt_trans ((Nat.log2_lt (by omega)).mpr (show n.natAbs < 2 ^ 62 by omega)) (by decide)⟩
abbrev s__law_take : Stmt := top 50
theorem sc__law_take : FnScope ["draw", "amount", "found"] ["draw", "amount"] (defScope s__law_take) := ⟨rfl, rfl, rfl, by decide +kernel, rfl, by decide +kernel, by decide +kernel⟩
theorem ok__law_take {G : Pg} {k : Nat} (T : Tx G) (h : At G "_law_take" s__law_take) (c__law_mixed : Fn G "_law_mixed" k ["draw"] f__law_mixed) : Fn G "_law_take" (k + 1) ["draw", "amount"] f__law_take := by
  obtain ⟨fa, fd, F, hm⟩ := h
  refine Fn.of F hm sc__law_take (fun _ _ _ _ _ _ us hl => match us, hl with | [_, _], _ => rfl) ?_
  intro cdv A outer s H E dr M ds Kp Ke tk po hr hl hf
  have tb := T.b
  have nd := sc__law_take.nd
  obtain ⟨n, rfl, h0, h1, k⟩ := hf
  cases dr with
  | none => exact dss_nodr 0 rfl
  | some dd =>
    walk_at "go"
    refine And.intro (fun _ => ?_) (fun _ => ?_)
    · refine ds_cons (ds_dput 0 hr (.inl rfl) rfl (.inl rfl) rfl (dx_draw (j := 0) hr tk rfl (.inl rfl) rfl c__law_mixed rfl rfl (fun i => ?_)))
      walk_at "go"
      refine ⟨h0, ?_⟩
      walk_at "go"
      refine ⟨cdivT h0 h1, ?_⟩
      walk_at "go"
      exact k _ (emod_b h0).1 (emod_b h0).2
    · walk_at "go"
      refine ⟨h0, ?_⟩
      walk_at "go"
      refine ⟨cdivT h0 h1, ?_⟩
      walk_at "go"
      exact k _ (emod_b h0).1 (emod_b h0).2
def f__law_pick : FS := fun ds Kp _ => ∃ l, ds = [.drw, .lst l] ∧ l ≠ [] ∧ l.length < 2 ^ 62 ∧ ∀ x ∈ l, Kp x
theorem atI_pos {l : List D} {i : Int} (h0 : 0 ≤ i) (h1 : i < l.length) : ∃ x ∈ l, atI l i = some x := by
  obtain ⟨n, rfl⟩ := Int.eq_ofNat_of_zero_le h0
  have hn : n < l.length := by omega
  exact ⟨l[n], List.getElem_mem hn, atI_nat (List.getElem?_eq_getElem hn)⟩
abbrev s__law_pick : Stmt := top 51
theorem sc__law_pick : FnScope ["draw", "some"] ["draw", "some"] (defScope s__law_pick) := ⟨rfl, rfl, rfl, by decide +kernel, rfl, by decide +kernel, by decide +kernel⟩
theorem ok__law_pick {G : Pg} {k : Nat} (T : Tx G) (h : At G "_law_pick" s__law_pick) (c__law_take : Fn G "_law_take" k ["draw", "amount"] f__law_take) : Fn G "_law_pick" (k + 1) ["draw", "some"] f__law_pick := by
  obtain ⟨fa, fd, F, hm⟩ := h
  refine Fn.of F hm sc__law_pick (fun _ _ _ _ _ _ us hl => match us, hl with | [_, _], _ => rfl) ?_
  intro cdv A outer s H E dr M ds Kp Ke tk po hr hl hf
  have tb := T.b
  have nd := sc__law_pick.nd
  obtain ⟨l, rfl, hne, hl, k⟩ := hf
  have hp : 0 < l.length := by
    cases l with
    | nil => exact absurd rfl hne
    | cons _ _ => simp
  walk_at "go"
  refine ⟨_, rfl, by omega, by omega, fun i h0 h1 => ?_⟩
  obtain ⟨x, hx, e⟩ := atI_pos h0 h1
  exact ⟨l, i, x, rfl, rfl, e, k x hx⟩
theorem gEq_of {d e : D} {k : KD} (h1 : dok d = true) (h2 : dok e = true) (q : k (.bl (deq d e))) : gEq d e k := by
  unfold gEq
  split
  · simpa [deq, Lay.py, PyData.eqv] using q
  · exact ⟨h1, h2, q⟩
theorem kr_str : ∀ (n : Nat) (line f : List D), (∀ x ∈ f, ∃ d, x = .str (kindS d)) → ∀ x ∈ kr n line f, ∃ d, x = .str (kindS d)
  | 0, _, f, h => h
  | n + 1, line, f, h => by
    simp only [kr]
    split
    · exact h
    · refine kr_str n _ _ fun x hx => ?_
      rcases List.mem_append.mp hx with hx | hx
      · exact h x hx
      · exact ⟨_, List.mem_singleton.mp hx⟩
theorem kinds_ok (d : D) : okd 64 (.lst (kindsOf d)) = true := okd_lst.mpr fun x hx => by
  obtain ⟨e, rfl⟩ := kr_str _ _ _ (fun x hx => by simp at hx) x hx
  unfold kindS
  split <;> decide +kernel
def f__law_says : FS := fun ds Kp _ => ∃ d, ds = [d, d] ∧ okd 60 d = true ∧ sizeD d ≤ 1000000 ∧ Kp (.bl true)
abbrev s__law_says : Stmt := top 54
theorem sc__law_says : FnScope ["told", "due"] ["told", "due"] (defScope s__law_says) := ⟨rfl, rfl, rfl, by decide +kernel, rfl, by decide +kernel, by decide +kernel⟩
theorem ok__law_says {G : Pg} {k : Nat} (T : Tx G) (h : At G "_law_says" s__law_says) (c__law_kinds : Fn G "_law_kinds" k ["thing"] f__law_kinds) : Fn G "_law_says" (k + 1) ["told", "due"] f__law_says := by
  obtain ⟨fa, fd, F, hm⟩ := h
  refine Fn.of F hm sc__law_says (fun _ _ _ _ _ _ us hl => match us, hl with | [_, _], _ => rfl) ?_
  intro cdv A outer s H E dr M ds Kp Ke tk po hr hl hf
  have tb := T.b
  have nd := sc__law_says.nd
  obtain ⟨d, rfl, ho, hz, k⟩ := hf
  have h64 := okd_dok (okd_mono ho (by decide : 60 ≤ 64))
  walk_at "go"
  refine gEq_of h64 h64 ?_
  rw [deq_refl h64]
  walk_at "go"
  refine ⟨ho, hz, ?_⟩
  walk_at "go"
  refine ⟨ho, hz, ?_⟩
  have hk := okd_dok (kinds_ok d)
  refine gEq_of hk hk ?_
  rw [deq_refl hk]
  exact k
/-! ### what is drawn -/
structure GoodR (ns : List Int) : Prop where
  len : ns.length ≤ 2
  root : ns.all isRoot = true
  nd : ns.Nodup
def f__law_roots : FS := fun ds Kp _ => as1 (fun d => d = .drw ∧ ∀ ns : List Int, GoodR ns → Kp (.lst (ns.map D.int))) ds
def menuR : List (List Int) := [[], [2], [2], [3], [5], [7], [2, 3], [3, 2], [2, 5], [2, 6], [6, 10], [94, 95]]
theorem menuR_good : ∀ ns ∈ menuR, GoodR ns := by
  intro ns h
  simp only [menuR, List.mem_cons, List.mem_nil_iff, or_false] at h
  rcases h with rfl | rfl | rfl | rfl | rfl | rfl | rfl | rfl | rfl | rfl | rfl | rfl <;> exact ⟨by decide, by decide +kernel, by decide⟩
abbrev s__law_roots : Stmt := top 70
theorem sc__law_roots : FnScope ["draw"] ["draw"] (defScope s__law_roots) := ⟨rfl, rfl, rfl, by decide +kernel, rfl, by decide +kernel, by decide +kernel⟩
theorem ok__law_roots {G : Pg} {k : Nat} (T : Tx G) (h : At G "_law_roots" s__law_roots) (c__law_pick : Fn G "_law_pick" k ["draw", "some"] f__law_pick) : Fn G "_law_roots" (k + 1) ["draw"] f__law_roots := by
  obtain ⟨fa, fd, F, hm⟩ := h
  refine Fn.of F hm sc__law_roots (fun _ _ _ _ _ _ us hl => match us, hl with | [_], _ => rfl) ?_
  intro cdv A outer s H E dr M ds Kp Ke tk po hr hl hf
  have tb := T.b
  have nd := sc__law_roots.nd
  obtain ⟨d, rfl, rfl, k⟩ := as1_ex hf
  walk_at "gl"
  refine ⟨menuR.map fun ns => .lst (ns.map D.int), rfl, by simp [menuR], by simp [menuR], fun x hx => ?_⟩
  obtain ⟨ns, hn, rfl⟩ := List.mem_map.mp hx
  exact k ns (menuR_good ns hn)
/-- a good ratio of n bits -/
structure GoodP (n : Nat) (x : Int × Int) : Prop where
  ok : OkP n x
  rat : isRat (ratP x) = true
theorem rpair_isRat {x y : Int} (h : 0 < y) : isRat (rpair x y) = true := by
  have g0 := gcdI_pos (x := x) h
  have gy : gcdI x y ∣ y := by
    show ((_ : Nat) : Int) ∣ y
    exact Int.ofNat_dvd_left.mpr (Nat.gcd_dvd_right _ _)
  have gx : gcdI x y ∣ x := by
    show ((_ : Nat) : Int) ∣ x
    exact Int.ofNat_dvd_left.mpr (Nat.gcd_dvd_left _ _)
  have hy : 0 < y / gcdI x y := Int.ediv_pos_of_pos_of_dvd h (by omega) gy
  show (decide (0 < y / gcdI x y) && (((Nat.gcd (x / gcdI x y).natAbs (y / gcdI x y).natAbs : Nat) : Int) == 1)) = true
  rw [decide_eq_true hy, Bool.true_and]
  have e1 : (x / gcdI x y).natAbs = x.natAbs / Nat.gcd x.natAbs y.natAbs := by
    rw [Int.natAbs_ediv_of_dvd gx]; simp
  have e2 : (y / gcdI x y).natAbs = y.natAbs / Nat.gcd x.natAbs y.natAbs := by
    rw [Int.natAbs_ediv_of_dvd gy]; simp
  rw [e1, e2, Nat.gcd_div_gcd_div_gcd_of_pos_right (by omega)]
  rfl
theorem div_le {x y : Int} {n : Nat} (h : 0 < y) (hx : sz n x) : sz n (x / gcdI x y) ∧ (sz n y → sz n (y / gcdI x y)) := by
  have gy : gcdI x y ∣ y := Int.ofNat_dvd_left.mpr (Nat.gcd_dvd_right _ _)
  have gx : gcdI x y ∣ x := Int.ofNat_dvd_left.mpr (Nat.gcd_dvd_left _ _)
  unfold sz at *
  rw [Int.natAbs_ediv_of_dvd gx, Int.natAbs_ediv_of_dvd gy]
  exact ⟨Nat.lt_of_le_of_lt (Nat.div_le_self _ _) hx, fun hy => Nat.lt_of_le_of_lt (Nat.div_le_self _ _) hy⟩
theorem pairP_good {x y : Int} {n : Nat} (h : 0 < y) (hx : sz n x) (hy : sz n y) : GoodP n (pairP x y) := by
  have gy : gcdI x y ∣ y := Int.ofNat_dvd_left.mpr (Nat.gcd_dvd_right _ _)
  obtain ⟨a, b⟩ := div_le h hx
  exact ⟨⟨Int.ediv_pos_of_pos_of_dvd h (by have := gcdI_pos (x := x) h; omega) gy, a, b hy⟩, rpair_isRat h⟩
def f__law_item : FS := fun ds Kp _ => as1 (fun d => d = .drw ∧ ∀ x : Int × Int, GoodP 10 x → Kp (ratP x)) ds
def menuI : List (Int × Int) := [(0, 1), (0, 1), (1, 1), (1, 1), (2, 1), (3, 1), (-1, 1), (-2, 1)]
theorem menuI_good : ∀ x ∈ menuI, GoodP 10 x := by
  intro x h
  simp only [menuI, List.mem_cons, List.mem_nil_iff, or_false] at h
  rcases h with rfl | rfl | rfl | rfl | rfl | rfl | rfl | rfl <;> exact ⟨⟨by decide, by simp [sz], by simp [sz]⟩, by decide +kernel⟩
abbrev s__law_item : Stmt := top 71
theorem sc__law_item : FnScope ["draw"] ["draw"] (defScope s__law_item) := ⟨rfl, rfl, rfl, by decide +kernel, rfl, by decide +kernel, by decide +kernel⟩
theorem ok__law_item {G : Pg} {k : Nat} (T : Tx G) (h : At G "_law_item" s__law_item) (c__law_pick : Fn G "_law_pick" k ["draw", "some"] f__law_pick) (c__law_take : Fn G "_law_take" k ["draw", "amount"] f__law_take) (c__law_pair : Fn G "_law_pair" k ["above", "bottom"] f__law_pair) : Fn G "_law_item" (k + 1) ["draw"] f__law_item := by
  obtain ⟨fa, fd, F, hm⟩ := h
  refine Fn.of F hm sc__law_item (fun _ _ _ _ _ _ us hl => match us, hl with | [_], _ => rfl) ?_
  intro cdv A outer s H E dr M ds Kp Ke tk po hr hl hf
  have tb := T.b
  have nd := sc__law_item.nd
  obtain ⟨d, rfl, rfl, k⟩ := as1_ex hf
  walk_at "gl"
  refine ⟨9, rfl, by decide, by decide, fun i h0 h1 => ?_⟩
  walk_at "gl"
  refine ⟨3, rfl, by decide, by decide, fun j g0 g1 => ?_⟩
  walk_at "gl"
  have hj : (0 : Int) < 1 + j := by omega
  refine ⟨i - 4, 1 + j, rfl, hj, (show (1 + j).natAbs < 2 ^ 9000 from Nat.lt_of_lt_of_le (show (1 + j).natAbs < 2 ^ 2 by omega) (Nat.pow_le_pow_right (by decide) (by decide))), ?_⟩
  walk_at "gl"
  refine ⟨menuI.map ratP ++ [ratP (pairP (i - 4) (1 + j))], rfl, by simp, by simp [menuI], fun x hx => ?_⟩
  rcases List.mem_append.mp hx with hx | hx
  · obtain ⟨y, hy, rfl⟩ := List.mem_map.mp hx
    exact k y (menuI_good y hy)
  · rw [List.mem_singleton.mp hx]
    exact k _ (pairP_good hj (show (i - 4).natAbs < 2 ^ 10 by omega) (show (1 + j).natAbs < 2 ^ 10 by omega))
/-- a part of a length that is given -/
structure GivOk (x : D) : Prop where
  giv : isGiv x = true
  ok : okd 2 x = true
  rat : ∃ y, asRat x = ratP y ∧ GoodP 998 y
theorem few_of {n : Nat} {x : Int × Int} (h : OkP n x) (hn : n ≤ 900) : few x.1 x.2 = true := by
  have e : (2 : Nat) ^ n ≤ 10 ^ 300 := Nat.le_trans (Nat.pow_le_pow_right (by decide) hn) (by decide +kernel)
  have h1 := h.up
  have h2 := h.dn
  unfold sz at h1 h2
  have e1 : (x.1.natAbs : Int) < 10 ^ 300 := by exact_mod_cast Nat.lt_of_lt_of_le h1 e
  have e2 : (x.2.natAbs : Int) < 10 ^ 300 := by exact_mod_cast Nat.lt_of_lt_of_le h2 e
  simp only [few, few1, MOST, Bool.and_eq_true, decide_eq_true_eq]
  omega
theorem giv_rat {n : Nat} {x : Int × Int} (h : GoodP n x) (hn : n ≤ 900) : GivOk (ratP x) :=
  ⟨by show (isRat (ratP x) && few x.1 x.2) = true; rw [h.rat, few_of h.ok hn]; rfl, rfl, x, rfl, h.ok.mono (by omega), h.rat⟩
theorem giv_big {x : Int × Int} (h : GoodP 998 x) (hf : few x.1 x.2 = true) : GivOk (ratP x) :=
  ⟨by show (isRat (ratP x) && few x.1 x.2) = true; rw [h.rat, hf]; rfl, rfl, x, rfl, h⟩
theorem giv_int {i : Int} (h : few1 i = true) (hs : sz 998 i) : GivOk (.int i) := ⟨h, rfl, (i, 1), rfl, ⟨by show (0 : Int) < 1; decide, hs, by show (1 : Int).natAbs < 2 ^ 998; exact Nat.one_lt_two_pow (by decide)⟩, by
  show (decide ((0 : Int) < 1) && (((Nat.gcd i.natAbs 1 : Nat) : Int) == 1)) = true
  rw [Nat.gcd_one_right]; rfl⟩
theorem sz_dec {n : Nat} {i : Int} (h : Nat.blt i.natAbs (2 ^ n) = true) : sz n i := Nat.le_of_ble_eq_true h
def f__law_given : FS := fun ds Kp _ => ∃ ns : List Int, ds = [.drw, .lst (ns.map D.int)] ∧ ns.length ≤ 2 ∧ ∀ l : List D, l.length = ns.length + 1 → (∀ x ∈ l, GivOk x) → Kp (.tup l) ∧ Kp (.lst l)
abbrev s__law_given : Stmt := top 73
theorem sc__law_given : FnScope ["draw", "roots", "great", "some", "at"] ["draw", "roots"] (defScope s__law_given) := ⟨rfl, rfl, rfl, by decide +kernel, rfl, by decide +kernel, by decide +kernel⟩
theorem ok__law_given {G : Pg} {k : Nat} (T : Tx G) (h : At G "_law_given" s__law_given) (c__law_pick : Fn G "_law_pick" k ["draw", "some"] f__law_pick) (c__law_item : Fn G "_law_item" k ["draw"] f__law_item) (c__law_take : Fn G "_law_take" k ["draw", "amount"] f__law_take) : Fn G "_law_given" (k + 1) ["draw", "roots"] f__law_given := by
  obtain ⟨fa, fd, F, hm⟩ := h
  refine Fn.of F hm sc__law_given (fun _ _ _ _ _ _ us hl => match us, hl with | [_, _], _ => rfl) ?_
  intro cdv A outer s H E dr M ds Kp Ke tk po hr hl hf
  have tb := T.b
  have nd := sc__law_given.nd
  obtain ⟨ns, rfl, hn, k⟩ := hf
  walk_at "gl"
  refine ⟨⟨by decide, by decide +kernel⟩, ?_⟩
  walk_at "gl"
  refine ⟨⟨by decide, by decide +kernel⟩, ?_⟩
  walk_at "gl"
  refine ds_setLcN 3 4 rfl nd rfl rfl rfl rfl rfl rfl (by walk_at "lc") ?_
  walk_at "gl"
  have hL : (ns.map D.int).length = ns.length := List.length_map ..
  refine And.intro (show -2 ^ 62 ≤ (((ns.map D.int).length : Nat) : Int) + 1 by omega) (And.intro (show (((ns.map D.int).length : Nat) : Int) + 1 < 2 ^ 62 by omega) ?_)
  refine lc_all GivOk (show (intsD 0 ((((ns.map D.int).length : Nat) : Int) + 1).toNat).length ≤ _ by simp only [intsD, List.length_map, List.length_range]; omega) (fun _ _ => trivial) (fun d hd A s H C cl fp => ?_) (fun l hl hp => ?_)
  · walk_at "gl"
    refine ⟨rfl, fun x hx => ?_⟩
    walk_at "gl"
    refine ⟨9, rfl, by decide, by decide, fun i h0 h1 => ?_⟩
    walk_at "gl"
    refine ⟨⟨by decide, by decide +kernel⟩, ?_⟩
    walk_at "gl"
    rw [bigE]
    refine ⟨[ratP x, .int (i - 4), .int (MOST - 1), rat 1 (MOST - 1), rat (1 - (MOST - 1)) (7 ^ (20 : Int).toNat)], rfl, by simp, by simp, fun y hy => ?_⟩
    simp only [List.mem_cons, List.mem_nil_iff, or_false] at hy
    rcases hy with rfl | rfl | rfl | rfl | rfl
    · exact giv_rat hx (by decide)
    · exact giv_int (by simp only [few1, MOST, Bool.and_eq_true, decide_eq_true_eq]; omega) (show (i - 4).natAbs < 2 ^ 998 from Nat.lt_of_lt_of_le (show (i - 4).natAbs < 2 ^ 10 by omega) (Nat.pow_le_pow_right (by decide) (by decide)))
    · exact giv_int (by decide +kernel) (sz_dec (by decide +kernel))
    · exact giv_big (x := (1, MOST - 1)) ⟨⟨by decide +kernel, sz_dec (by decide +kernel), sz_dec (by decide +kernel)⟩, by decide +kernel⟩ (by decide +kernel)
    · exact giv_big (x := (1 - (MOST - 1), 7 ^ (20 : Int).toNat)) ⟨⟨by decide +kernel, sz_dec (by decide +kernel), sz_dec (by decide +kernel)⟩, by decide +kernel⟩ (by decide +kernel)
  have hl2 : l.length = ns.length + 1 := by rw [hl]; simp only [intsD, List.length_map, List.length_range]; omega
  obtain ⟨k1, k2⟩ := k l hl2 hp
  walk_at "gl"
  refine ⟨[.tup l, .lst l], rfl, by simp, by simp, fun x hx => ?_⟩
  simp only [List.mem_cons, List.mem_nil_iff, or_false] at hx
  rcases hx with rfl | rfl
  · exact k1
  · exact k2
/-- a value near to a length -/
structure NearOk (d : D) : Prop where
  pl : pl d = true
  th : ThingOk d
  sh : ∀ l, seqD d = some l → l.length ≤ 10
theorem cutD_mem {l : List D} {a b : Option Int} {x : D} (h : x ∈ Lay.cutD l a b) : x ∈ l := List.mem_of_mem_drop (List.mem_of_mem_take h)
theorem cutD_len {l : List D} {a b : Option Int} : (Lay.cutD l a b).length ≤ l.length := by
  unfold Lay.cutD
  rw [List.length_take, List.length_drop]; omega
def kvsOf (l : List D) : List (Key × D) := ((List.range l.length).map fun (i : Nat) => (Sum.inl (0 + (i : Int)) : Key)).zip l
theorem enum_kvs (l : List D) : enumD l = (kvsOf l).map fun kv => .tup [kD kv.1, kv.2] := by
  unfold enumD zipD intsD kvsOf
  rw [List.zip_map_left, List.zip_map_left, List.map_map, List.map_map]
  rfl
theorem kvs_keys (l : List D) : (kvsOf l).map (·.1) = (List.range l.length).map fun (i : Nat) => (Sum.inl (0 + (i : Int)) : Key) := List.map_fst_zip (by simp)
theorem kvs_vals (l : List D) : (kvsOf l).map (·.2) = l := List.map_snd_zip (by simp)
theorem kvs_nodup (l : List D) : ((kvsOf l).map (·.1)).Nodup := by
  rw [kvs_keys]
  unfold List.Nodup
  rw [List.pairwise_map]
  refine List.Pairwise.imp (fun {i j} h e => h ?_) List.nodup_range
  have : (0 : Int) + i = 0 + j := Sum.inl.inj e
  omega
theorem enum_pair {l : List D} {d : D} (h : d ∈ enumD l) : ∃ a b, d = .tup [a, b] := by
  obtain ⟨p, _, rfl⟩ := List.mem_map.mp h
  exact ⟨_, _, rfl⟩
theorem near_seq {d : D} {l : List D} (hs : seqD d = some l) (h : ∀ x ∈ l, okd 60 x = true) (hn : l.length ≤ 10) (hp : pl d = true) (hq : prim d = true) : NearOk d := ⟨hp, ⟨hq, fun m hm => by rw [hs] at hm; cases hm; exact h⟩, fun m hm => by rw [hs] at hm; cases hm; exact hn⟩
theorem near_lst {l : List D} (h : ∀ x ∈ l, okd 60 x = true) (hn : l.length ≤ 10) : NearOk (.lst l) := near_seq rfl h hn (okdL_pl 60 l (okdL_iff.mpr h)) rfl
theorem near_tup {l : List D} (h : ∀ x ∈ l, okd 60 x = true) (hn : l.length ≤ 10) : NearOk (.tup l) := near_seq rfl h hn (okdL_pl 60 l (okdL_iff.mpr h)) rfl
def f__law_near : FS := fun ds Kp _ => ∃ ns : List Int, ds = [.drw, .lst (ns.map D.int)] ∧ ns.length ≤ 2 ∧ ∀ d, NearOk d → Kp d
abbrev s__law_near : Stmt := top 74
theorem sc__law_near : FnScope ["draw", "roots", "some", "at", "great", "bent", "own", "item"] ["draw", "roots"] (defScope s__law_near) := ⟨rfl, rfl, rfl, by decide +kernel, rfl, by decide +kernel, by decide +kernel⟩
theorem ok__law_near {G : Pg} {k : Nat} (T : Tx G) (h : At G "_law_near" s__law_near) (c__law_given : Fn G "_law_given" k ["draw", "roots"] f__law_given) (c__law_take : Fn G "_law_take" k ["draw", "amount"] f__law_take) (c__law_pick : Fn G "_law_pick" k ["draw", "some"] f__law_pick) : Fn G "_law_near" (k + 1) ["draw", "roots"] f__law_near := by
  obtain ⟨fa, fd, F, hm⟩ := h
  refine Fn.of F hm sc__law_near (fun _ _ _ _ _ _ us hl => match us, hl with | [_, _], _ => rfl) ?_
  intro cdv A outer s H E dr M ds Kp Ke tk po hr hl hf
  have tb := T.b
  have nd := sc__law_near.nd
  obtain ⟨ns, rfl, hn, k⟩ := hf
  walk_at "gl"
  refine ⟨ns, rfl, hn, fun l hl hg => ?_⟩
  refine And.intro ?_ ?_
  all_goals
    walk_at "gl"
    refine ⟨l.length, rfl, by omega, by omega, fun i h0 h1 => ?_⟩
    walk_at "gl"
    refine ⟨⟨by decide, by decide +kernel⟩, ?_⟩
    walk_at "gl"
    refine ⟨⟨by decide, by decide +kernel⟩, ?_⟩
    walk_at "gl"
    refine ⟨_, rfl, by simp, by simp, fun x hx => ?_⟩
    have ox : okd 60 x = true := by
      simp only [List.mem_cons, List.mem_nil_iff, or_false] at hx
      rcases hx with rfl | rfl | rfl | rfl | rfl | rfl | rfl | rfl | rfl | rfl | rfl | rfl <;> first | rfl | decide +kernel
    have ol : ∀ y ∈ l, okd 60 y = true := fun y hy => okd_mono (hg y hy).ok (by decide)
    have hl3 : l.length ≤ 3 := by omega
    walk_at "gl"
    have c1 := cutD_len (l := l) (a := none) (b := some i)
    refine ⟨by simp only [List.length_singleton]; omega, ?_⟩
    walk_at "gl"
    have c2 := cutD_len (l := l) (a := some (i + 1)) (b := none)
    refine ⟨by simp only [List.length_append, List.length_singleton]; omega, ?_⟩
    walk_at "gl"
    have c3 := cutD_len (l := l) (a := some 1) (b := none)
    refine ⟨by simp only [List.length_singleton]; omega, ?_⟩
    walk_at "gl"
    refine ⟨l, rfl, ?_⟩
    refine lc_map (fun d => d) (by simp only [enumD, zipD, intsD, List.length_map, List.length_zip, List.length_range]; omega) (fun d hd => ?_) (fun d hd A s H C cl fp => ?_) ?_
    · obtain ⟨a, b, rfl⟩ := enum_pair hd
      rfl
    · obtain ⟨a, b, rfl⟩ := enum_pair hd
      walk_at "gl"
      rfl
    rw [List.map_id', enum_kvs]
    walk_at "gl"
    refine ⟨kvsOf l, rfl, kvs_nodup l, by simp only [kvsOf, List.length_zip, List.length_map, List.length_range]; omega, ?_⟩
    rw [kvs_keys, kvs_vals]
    walk_at "gl"
    have nb : ∀ y ∈ Lay.cutD l none (some i) ++ [x] ++ Lay.cutD l (some (i + 1)) none, okd 60 y = true := fun y hy => by
      rcases List.mem_append.mp hy with hy | hy
      · rcases List.mem_append.mp hy with hy | hy
        · exact ol y (cutD_mem hy)
        · rw [List.mem_singleton.mp hy]; exact ox
      · exact ol y (cutD_mem hy)
    have nbl : (Lay.cutD l none (some i) ++ [x] ++ Lay.cutD l (some (i + 1)) none).length ≤ 10 := by simp only [List.length_append, List.length_singleton]; omega
    refine ⟨_, rfl, by simp, by simp, fun z hz => k z ?_⟩
    simp only [List.mem_cons, List.mem_nil_iff, or_false] at hz
    rcases hz with rfl | rfl | rfl | rfl | rfl | rfl | rfl | rfl | rfl | rfl
    · exact near_lst nb nbl
    · exact near_tup nb nbl
    · exact near_lst nb nbl
    · exact near_lst (fun y hy => ol y (cutD_mem hy)) (by omega)
    · exact near_lst (fun y hy => (List.mem_append.mp hy).elim (ol y) fun z => by rw [List.mem_singleton.mp z]; rfl) (by simp only [List.length_append, List.length_singleton]; omega)
    · exact ⟨rfl, ⟨rfl, fun m hm => by cases hm⟩, fun m hm => by cases hm⟩
    · exact ⟨rfl, ⟨rfl, fun m hm => by cases hm⟩, fun m hm => by cases hm⟩
    · exact ⟨rfl, ⟨rfl, fun m hm => by cases hm⟩, fun m hm => by cases hm⟩
    · exact ⟨rfl, ⟨rfl, fun m hm => by cases hm⟩, fun m hm => by cases hm⟩
    · exact ⟨okdL_pl 60 l (okdL_iff.mpr ol), ⟨rfl, fun m hm => by cases hm⟩, fun m hm => by cases hm⟩
/-! ### odd values -/
def f__law_odd : FS := fun ds Kp _ => as1 (fun d => d = .drw ∧ ∀ x : D, prim x = true → pl x = true → Kp x) ds
abbrev s__law_odd : Stmt := top 55
theorem sc__law_odd : FnScope ["draw"] ["draw"] (defScope s__law_odd) := ⟨rfl, rfl, rfl, by decide +kernel, rfl, by decide +kernel, by decide +kernel⟩
theorem ok__law_odd {G : Pg} {k : Nat} (T : Tx G) (h : At G "_law_odd" s__law_odd) (c__law_pick : Fn G "_law_pick" k ["draw", "some"] f__law_pick) : Fn G "_law_odd" (k + 1) ["draw"] f__law_odd := by
  obtain ⟨fa, fd, F, hm⟩ := h
  refine Fn.of F hm sc__law_odd (fun _ _ _ _ _ _ us hl => match us, hl with | [_], _ => rfl) ?_
  intro cdv A outer s H E dr M ds Kp Ke tk po hr hl hf
  have tb := T.b
  have nd := sc__law_odd.nd
  obtain ⟨d, rfl, rfl, k⟩ := as1_ex hf
  walk_at "gl"
  refine dx_dic1 (key := .inr "a") (x := .int 1) (dd := .int 1) pe_str pe_int (fun _ => rfl) (fun _ => rfl) ?_
  walk_at "gl"
  refine ⟨_, rfl, by simp, by simp, fun z hz => ?_⟩
  simp only [List.mem_cons, List.mem_nil_iff, or_false] at hz
  rcases hz with rfl | rfl | rfl | rfl | rfl | rfl | rfl | rfl | rfl | rfl | rfl | rfl | rfl | rfl | rfl | rfl <;> exact k _ rfl rfl
/-! ### the draws begin -/
/-- the state is new, nothing else is changed -/
def spBeg (K : PySem.W.Frag) (T : List (Addr × Str)) : Sp := fun vs H Q _ => ∃ (a : Addr) (ns : List Int), vs = [.ref a] ∧ SqL K H a (ns.map V.int) ∧ ns.length ≤ 1000 ∧ LamX.Tabs T H ∧
  ∀ H' d, (∀ b o, H b = some o → (∀ ps, o ≠ .tbl ps) → H' b = some o) → LamX.Tabs T H' → (∀ b o, H b = some o → (∀ ps, o ≠ .tbl ps) → b ≠ d.dw ∧ b ≠ d.lg ∧ b ≠ d.cl) → DrOk d H' → Q (.ref d.dw) H'
abbrev s__law_begun : Stmt := top 48
theorem sc__law_begun : FnScope ["script", "large", "cell"] ["script"] (defScope s__law_begun) := ⟨rfl, rfl, rfl, by decide +kernel, rfl, by decide +kernel, by decide +kernel⟩
theorem setUn {K : PySem.W.Frag} {W : Wd} {M : List Addr} {H : Hp} {o1 o2 o3 p1 p2 : Option V} {d : D} (h : EnvOk K W M [.im d, .un, .un] [o1, o2, o3] H) : EnvOk K W M [.im d, .un, .un] [o1, p1, p2] H := by
  have e : ∀ q1 q2 : Option V, ownA [.im d, .un, .un] [o1, q1, q2] = [] := fun q1 q2 => by simp [ownA]
  exact ⟨h.w, h.m, by rw [e]; exact List.Pairwise.nil, fun a ha => by rw [e] at ha; simp at ha, ⟨by have := h.sl.1; rwa [hidA, e] at this ⊢, trivial, trivial, trivial⟩⟩
def bigF : D → Option D
  | .int i => if decide ((10 : Int) ^ (18 : Int).toNat ≤ (if i < 0 then -i else i)) = true then some (.int ((if i < 0 then -i else i) - (10 : Int) ^ (18 : Int).toNat)) else none
  | _ => none
def bigG (i : Int) : Option Int := if decide ((10 : Int) ^ (18 : Int).toNat ≤ (if i < 0 then -i else i)) = true then some ((if i < 0 then -i else i) - (10 : Int) ^ (18 : Int).toNat) else none
theorem bigF_map : ∀ ns : List Int, (ns.map D.int).filterMap bigF = (ns.filterMap bigG).map D.int
  | [] => rfl
  | n :: ns => by
    rw [List.map_cons, List.filterMap_cons, List.filterMap_cons, bigF_map ns]
    have e : bigF (.int n) = (bigG n).map D.int := by
      by_cases h : decide ((10 : Int) ^ (18 : Int).toNat ≤ (if n < 0 then -n else n)) = true
      · rw [bigG, if_pos h]; exact if_pos h
      · rw [bigG, if_neg h]; exact if_neg h
    rw [e]
    cases bigG n <;> rfl
def absF : D → D
  | .int i => .int (if i < 0 then -i else i)
  | d => d
theorem absF_map (ns : List Int) : (ns.map D.int).map absF = (ns.map fun i => if i < 0 then -i else i).map D.int := by
  rw [List.map_map, List.map_map]; rfl
theorem seq_asg {te : TE} {g : TG} {u : TS} {D : Ends} {σ : L2.St} {H : Hp} (h : te σ H (fun x H1 => g x σ H1 (u D))) : tSeq (tAsg te g) u D σ H := h
theorem disp4 {tl : TE} {D : Ends} {σ : L2.St} {H : Hp} (h : ∀ p, H p = none → ∃ v1, σ[1]? = some (some v1) ∧ tl σ (upd H p (.dK [])) fun v3 H2 => H2 p = some (.dK []) ∧ ∃ kvs : List (L2.Key × V), [(V.str "large", v1), (V.str "rest", V.int 0), (V.str "cells", v3), (V.str "turn", V.int 0)] = kvs.map (fun kv => (kV kv.1, kv.2)) ∧ kvs.length ≤ 15 ∧ D.rt (.ref p) (upd H2 p (.dK (mergeK [] kvs)))) :
    tRet (tDisp [(tC (.str "large"), tVar 1), (tC (.str "rest"), tC (.int 0)), (tC (.str "cells"), tl), (tC (.str "turn"), tC (.int 0))]) D σ H := fun p hp => by
  obtain ⟨v1, h1, h2⟩ := h p hp
  exact ⟨v1, h1, h2⟩
theorem ok_begun {G : Pg} {k : Nat} (T : Tx G) {fa : Addr} {fd : FuncData} (F : FunD G.K "_law_begun" "_law_begun" (defArgs s__law_begun) (defBody s__law_begun) (defScope s__law_begun) [] [] fa fd) : FnOk G.P G.w G.K G.mg G.base (L2.CX G.P G.w) (k + 1) fa fd ["script"] (spBeg G.K G.T) := by
  obtain ⟨oc, od, dV, kV, doc, pm, an, cdv, ct, osl, e0, lk, hcd, _, _⟩ := F.ex
  subst e0
  refine fn_of lk hcd sc__law_begun (fun vs H Q E h => by obtain ⟨a, ns, rfl, _⟩ := h; rfl) fun A outer s H vs Q E hr h => ?_
  obtain ⟨a, ns, rfl, ha, hn, hT, q⟩ := h
  have tb := T.b
  have nd := sc__law_begun.nd
  have w0 : WOk ⟨G.T, none⟩ H := ⟨hT, fun d hd => by cases hd⟩
  have env0 : EnvOk G.K ⟨G.T, none⟩ [] [.im (.frz ns), .un, .un] (L2.start ["script", "large", "cell"] [.ref a]) H :=
    ⟨w0, fun a ha => by simp at ha, List.Pairwise.nil, fun a ha => by simp [ownA, L2.start] at ha, ⟨⟨.ref a, rfl, a, rfl, ExN.seqL (fun b o hb _ => hide_of (by simp [hidA, Wd.rg, ownA, L2.start]) hb) ha⟩, trivial, trivial, trivial⟩⟩
  refine ⟨_, pss_cons (ps_setLc (i := 1) (own := [("cell", 2)]) rfl nd rfl rfl rfl pi_any (blkOk_by rfl) (fun s H C cl fp => pg_name (i := 2) (X := BX _ _ s H C cl fp) nd rfl (.inl rfl) (.inr rfl)) (fun s H C cl fp => pts_one (pt_anyB s H C cl fp)) pe_anyB) (pss_one (ps_ret (pe_disp (pps_cons pe_str (pe_var (i := 1) rfl (.inl rfl)) (pps_cons pe_str pe_int (pps_cons pe_str (pe_lc (own := [("cell", 2)]) rfl nd pi_any (blkOk_by rfl) (fun s H C cl fp => pg_name (i := 2) (X := BX _ _ s H C cl fp) nd rfl (.inl rfl) (.inr rfl)) (fun _ _ _ _ _ => pts_nil) pe_anyB) (pps_cons pe_str pe_int pps_nil)))) rfl rfl (by simp) (by simp)))), ?_⟩
  refine seq_asg (lcIf_fresh (X := FX G ["script", "large", "cell"] "_law_begun" s__law_begun fa cdv A outer s H E) (δ := [.im (.frz ns), .un, .un]) (W := ⟨G.T, none⟩) (M := []) (wx := fun _ _ _ _ => False) (Ke := kx0) (t := .n 2) (own := [("cell", 2)]) (Kl := fun l => ∃ ms : List Int, l = ms.map D.int) env0 rfl (fun j hj => hj) ?_ (fun A1 H1 l e1 fr1 r1 k1 => ?_) (fun _ _ _ _ _ _ z => z.elim))
  · refine di_frz ?_
    walk_at "gl"
    refine ⟨ns, rfl, ?_⟩
    refine lc_filter bigF (by rw [List.length_map]; omega) (fun _ _ => trivial) (fun d hd A s H C cl fp => ?_) ⟨ns.filterMap bigG, bigF_map ns⟩
    obtain ⟨i, _, rfl⟩ := List.mem_map.mp hd
    walk_at "gl"
    refine ⟨⟨by decide, by decide +kernel⟩, ?_⟩
    refine And.intro (fun h => ?_) (fun h => ?_)
    · intro s H C cl fp
      walk_at "gl"
      refine ⟨⟨by decide, by decide +kernel⟩, ?_⟩
      walk_at "gl"
      exact if_pos h
    · exact if_neg (fun z => by
        have h' : decide ((10 : Int) ^ (18 : Int).toNat ≤ (if i < 0 then -i else i)) = false := h
        rw [h'] at z; cases z)
  · obtain ⟨ms, rfl⟩ := k1
    obtain ⟨A1', xs1, eA, hA1, r1'⟩ := r1
    cases eA
    cases ints_rep r1'
    have hA1 := (hide_some hA1).2
    refine disp4 fun p hp => ?_
    have e2 : Ext ⟨G.T, none⟩ H1 (upd H1 p (.dK [])) := Ext.new e1.ok hp
    refine ⟨.ref A1, rfl, ?_⟩
    refine lc_fresh (X := FX G ["script", "large", "cell"] "_law_begun" s__law_begun fa cdv A outer s H E) (δ := [.im (.frz ns), .un, .un]) (W := ⟨G.T, none⟩) (M := []) (wx := fun _ _ _ _ => False) (Ke := kx0) (t := .n 2) (own := [("cell", 2)]) (Kl := fun l => ∃ ms : List Int, l = ms.map D.int) (setUn (env0.ext (e1.trans e2))) rfl (fun j hj => hj) ?_ (fun A2 H2 l e3 fr3 r3 k3 => ?_) (fun _ _ _ _ _ _ z => z.elim)
    · refine di_frz ?_
      walk_at "gl"
      refine ⟨ns, rfl, ?_⟩
      refine lc_map absF (by rw [List.length_map]; omega) (fun _ _ => trivial) (fun d hd A s H C cl fp => ?_) ⟨ns.map fun i => if i < 0 then -i else i, absF_map ns⟩
      obtain ⟨i, _, rfl⟩ := List.mem_map.mp hd
      walk_at "gl"
      rfl
    · obtain ⟨ms2, rfl⟩ := k3
      obtain ⟨A2', xs2, eA, hA2, r3'⟩ := r3
      cases eA
      cases ints_rep r3'
      have hA2 := (hide_some hA2).2
      have h2p : H2 p = some (.dK []) := e3.keep p _ (by simp [Wd.rg]) upd_same fun _ z => by cases z
      have n1p : A1 ≠ p := fun z => by rw [z, hp] at hA1; cases hA1
      have n2p : A2 ≠ p := fun z => by rw [z, h2p] at hA2; cases hA2
      have hA1' : H2 A1 = some (.lst (ms.map V.int)) := e3.keep A1 _ (by simp [Wd.rg]) (by rw [upd_ne n1p]; exact hA1) fun _ z => by cases z
      have n12 : A1 ≠ A2 := fr3 A1 _ (by rw [upd_ne n1p]; exact hA1) fun _ z => by cases z
      have keep1 : ∀ b o, H b = some o → (∀ ps, o ≠ .tbl ps) → b ≠ p ∧ (upd H1 p (.dK [])) b = some o := fun b o hb nt => by
        have h1 := e1.keep b o (by simp [Wd.rg]) hb nt
        have np : b ≠ p := fun z => by rw [z, hp] at h1; cases h1
        exact ⟨np, by rw [upd_ne np]; exact h1⟩
      refine ⟨h2p, [(.inr "large", .ref A1), (.inr "rest", .int 0), (.inr "cells", .ref A2), (.inr "turn", .int 0)], rfl, by simp, ?_⟩
      rw [mergeK_new (by simp; decide) (fun _ _ => rfl), List.nil_append]
      refine q _ ⟨p, A1, A2, ms2⟩ (fun b o hb nt => ?_) (e3.ok.write h2p trivial (fun _ z => by cases z) (by simp [Wd.rg])).tabs (fun b o hb nt => ⟨(keep1 b o hb nt).1, fr1 b o hb nt, fr3 b o (keep1 b o hb nt).2 nt⟩) ⟨0, 0, ms, upd_same, by rw [upd_ne n1p]; exact hA1', by rw [upd_ne n2p]; exact hA2, n12⟩
      obtain ⟨np, h1⟩ := keep1 b o hb nt
      rw [upd_ne np]
      exact e3.keep b o (by simp [Wd.rg]) h1 nt
/-! ### _law_caught -/
abbrev s__law_caught : Stmt := top 52
theorem sc__law_caught : FnScope ["work", "caught", "error"] ["work"] (defScope s__law_caught) := ⟨rfl, rfl, rfl, by decide +kernel, rfl, by decide +kernel, by decide +kernel⟩
theorem caught_ok {X : Cx} {g CP : Addr} (hme : X.mg "PlateError" = some (.ref CP)) : ∀ (cdg : Value) (q : Str), LamX.GivesTo X ["work", "caught", "error"] "_law_caught" (defScope s__law_caught) g cdg (defBody s__law_caught) "work" q (TTc X.K CP) := fun cdg q =>
  caught_gives rfl (by decide) rfl rfl rfl hme (by decide) (by decide) (by decide) (by decide) (by decide) (fun _ => rfl) (fun _ => rfl) (fun _ => rfl)
structure CauF (K : PySem.W.Frag) (mg : Str → Option Value) (CP : Addr) : Prop where
  fn : ∃ g fd, mg "_law_caught" = some (.ref g) ∧ FunD K "_law_caught" "_law_caught" (defArgs s__law_caught) (defBody s__law_caught) (defScope s__law_caught) [] [] g fd
  pe : mg "PlateError" = some (.ref CP)
/-- what a def that writes lambdas needs: its code object, its table of code objects -/
structure LamF (G : Pg) (q : Str) (fd : FuncData) (c P : Addr) : Prop where
  code : fd.code = .ref c
  tab : LamX.TabB G.base G.mg c P
  mem : (P, (q ++ ".<locals>.") ++ "<lambda>") ∈ G.T
  only : ∀ p ∈ G.T, p.1 = P → p.2 = (q ++ ".<locals>.") ++ "<lambda>"
theorem dx_cau {X : Cx} {W : Wd} {M : List Addr} {wx : WX} {δ : De} {body : Expr} {Kp : KD} {Ke : KX} {pos p lpos : Pos} {k : Nat} {scope : Scope} {params : Arguments} {c P CP : Addr} (hC : CauF X.K X.mg CP) (TB : LamX.TabB X.base X.mg c P) (hcode : X.env.code = .ref c)
    (hmT : (P, X.env.qual ++ "<lambda>") ∈ W.T) (hu : ∀ p ∈ W.T, p.1 = P → p.2 = X.env.qual ++ "<lambda>") (hr : Room (k + 2) X.A) (hg : Gl X "_law_caught")
    (h : ∀ (A : Around) (outer : List Env) (s : Shared) (H : Hp) (E : XK) (f c' : Addr), Takes (LamX.lamCx X A outer s H E scope f c') (wxE E) → Room k (A.deeper (LamX.lamEnv X scope s.heap.objs.size f c')) →
      DE (LamX.lamCx X A outer s H E scope f c') W M (wxE E) δ body (fun _ => Kp .non) (fun y => y.fs = [] ∧ PySem.W.exmOne X.K (.ref y.C) (.ref CP) = some true ∧ Kp (.exc y.C [] [])))
    (L : LamX.lamSB X.env.scope scope = true) (hdef : defaultsOf params X.env = ([], [])) (hbind : ∀ (q : Str) (cl : List (Str × Addr)) (pm cv ctv : Value), bindArgs (PySem.W.kla_fn "<lambda>" q params body scope cl pm cv ctv) ⟨[], []⟩ = pure []) : DE X W M wx δ (.Call (.Name "_law_caught" p) [.Lambda params body scope lpos] [] pos) Kp Ke := by
  obtain ⟨g, fd, hm, F⟩ := hC.fn
  exact dx_caught (Ng := ["work", "caught", "error"]) (a := "work") hg hm F sc__law_caught rfl (.inl rfl) (fun _ _ _ _ _ _ us hl => match us, hl with | [_], _ => rfl) (caught_ok hC.pe) TB hcode hmT hu hr L hdef hbind fun A outer s H E f c' hr' => h A outer s H E f c' (takes_of rfl rfl rfl rfl) hr'
/-! ### the law of units -/
/-- what the laws' walks need of the making of units -/
structure UnW (G : Pg) (u : Ua) (k : Nat) : Prop where
  ini : FnI G u.C u.fI k ["self", "roots"] (f_init u)
  rts : FnA G u.gR 1 ["self"] (f_mroots u)
  mny : FnA G u.gM 1 ["self"] (f_mmany u)
  eql : FnA G u.fE k ["self", "other"] (f_meq u)
theorem roots_good {ns : List Int} (h : GoodR ns) (d : D) (hd : seqD d = some (ns.map D.int)) : rootsOf d = some ns := by
  have e1 : (ns.map D.int).all isRootD = true := by rw [List.all_map]; exact h.root
  rw [rootsOf, hd]
  show (if (ns.map D.int).length ≤ 2 ∧ (ns.map D.int).all isRootD = true then (match intsOf (ns.map D.int) with
    | some ns => if dup2 ns = ns.length then some ns else none
    | none => none) else none) = _
  rw [if_pos ⟨by rw [List.length_map]; exact h.len, e1⟩, intsOf_map]
  exact if_pos (dup2_nodup h.nd)
theorem init_good {u : Ua} {ns : List Int} (h : GoodR ns) {d : D} (hd : d = .lst (ns.map D.int) ∨ d = .tup (ns.map D.int)) {Kf : List Str → List D → Prop} {Ke : KX} (k : Kf ["u_roots"] [.tup (ns.map D.int)]) : f_init u [d] Kf Ke := by
  have pl_i : plL (ns.map D.int) = true := okdL_pl 60 _ (okdL_iff.mpr fun d hd => by
    obtain ⟨n, _, rfl⟩ := List.mem_map.mp hd
    rfl)
  rcases hd with rfl | rfl
  · refine ⟨_, rfl, pl_i, (fun ms e => by cases e), ?_⟩
    rw [roots_good h _ rfl]; exact k
  · refine ⟨_, rfl, pl_i, (fun ms e => ?_), ?_⟩
    · have e2 : ns.map D.int = ms.map D.int := by injection e
      have e3 : ns = ms := by
        have := congrArg intsOf e2
        rw [intsOf_map, intsOf_map] at this
        exact Option.some.inj this
      rw [← e3]; exact h.nd
    · rw [roots_good h _ rfl]; exact k
theorem kw_init {G : Pg} {u : Ua} (U : UnF G u) : ∀ fd, (∃ x q st, FunD G.K x q (defArgs st) (defBody st) (defScope st) [] [] u.fI fd) → ∀ (s : Shared) (self : Value) (ws : List Value), G.K.In s.heap → ws.length = (["roots"] : List Str).length → BindsTo s fd ⟨[self], (["roots"] : List Str).zip ws⟩ ((["self", "roots"] : List Str).zip (self :: ws)) := by
  intro fd ⟨x, q, st, F⟩ s self ws hk hl
  obtain ⟨fd', F'⟩ := U.fi
  obtain ⟨oc, od, dV, kV, doc, pm, an, cdv, ct, osl, e, lk, _⟩ := F.ex
  obtain ⟨oc', od', dV', kV', doc', pm', an', cdv', ct', osl', e', lk', hcd', hD', hK'⟩ := F'.ex
  rw [lk] at lk'
  cases lk'
  rw [e']
  rcases hD' with ⟨_, rfl⟩ | ⟨z, _⟩
  · match ws, hl with
    | [w], _ => exact .of_eq rfl
  · exact absurd rfl z
theorem size_ints : ∀ ns : List Int, sizeL (ns.map D.int) = ns.length
  | [] => rfl
  | n :: ns => by
    rw [List.map_cons, sizeL, size_ints ns, List.length_cons]
    simp only [sizeD]; omega
theorem deq_intsL (ns ms : List Int) : deq (.lst (ns.map D.int)) (.lst (ms.map D.int)) = decide (ns = ms) := by
  have := deq_ints ns ms
  rw [← this]
  simp only [deq, Lay.py]
  cases pyL (ns.map D.int) <;> cases pyL (ms.map D.int) <;> simp [PyData.eqv]
theorem okd_intsL (ns : List Int) : okd 1 (.lst (ns.map D.int)) = true := okd_ints ns
theorem deq_bl (a b : Bool) : deq (.bl a) (.bl b) = decide (a = b) := by cases a <;> cases b <;> decide +kernel
theorem dok_bl (a : Bool) : dok (.bl a) = true := by cases a <;> decide +kernel
theorem rootsOf_one (n : Int) : rootsOf (.lst [.int n]) = if isRoot n = true then some [n] else none := by
  show (if ([D.int n] : List D).length ≤ 2 ∧ [D.int n].all isRootD = true then (if dup2 [n] = [n].length then some [n] else none) else none) = _
  have e : [D.int n].all isRootD = isRoot n := by simp [isRootD]
  have e2 : dup2 [n] = [n].length := dup2_nodup (by simp)
  rw [e, if_pos e2]
  by_cases h : isRoot n = true
  · rw [if_pos ⟨by simp, h⟩, if_pos h]
  · rw [if_neg (fun z => h z.2), if_neg h]
/-- none of these roots can be drawn -/
structure BadD (x : D) : Prop where
  pl : pl x = true
  no : rootsOf x = none
  nt : ∀ l, x ≠ .tup l
def menuU : List (List Int) := [[], [2], [3], [2, 3], [3, 2], [2, 5]]
theorem menuU_good : ∀ ns ∈ menuU, GoodR ns := by
  intro ns h
  simp only [menuU, List.mem_cons, List.mem_nil_iff, or_false] at h
  rcases h with rfl | rfl | rfl | rfl | rfl | rfl <;> exact ⟨by decide, by decide +kernel, by decide⟩
/-- an exception class: raised, caught, asked of -/
structure XF (G : Pg) (CP C : Addr) : Prop where
  c : ExcC G.K C
  k : PySem.W.kitOne G.K (.ref C) (.ref C) = some true
  m : PySem.W.exmOne G.K (.ref C) (.ref CP) = some true
  b : clsB G.K C = true
def f__law_units_right (u : Ua) : FS := fun ds Kp _ => as1 (fun d => d = .drw ∧ Kp (.bl true)) ds
abbrev s__law_units_right : Stmt := top 75
theorem sc__law_units_right : FnScope ["draw", "roots", "units", "other", "bad", "some", "own"] ["draw"] (defScope s__law_units_right) := ⟨rfl, rfl, rfl, by decide +kernel, rfl, by decide +kernel, by decide +kernel⟩
theorem ok__law_units_right {G : Pg} {k : Nat} {u : Ua} (T : Tx G) (U : UnF G u) {fa : Addr} {fd : FuncData} (F : FunD G.K "_law_units_right" "_law_units_right" (defArgs s__law_units_right) (defBody s__law_units_right) (defScope s__law_units_right) [] [] fa fd) (hm : G.mg "_law_units_right" = some (.ref fa)) {cc cp CP : Addr} (LF : LamF G "_law_units_right" fd cc cp) (CF : CauF G.K G.mg CP) (c__law_roots : Fn G "_law_roots" k ["draw"] f__law_roots) (c__law_pick : Fn G "_law_pick" k ["draw", "some"] f__law_pick) (c__law_says : Fn G "_law_says" k ["told", "due"] f__law_says) (c__law_is_root : Fn G "_law_is_root" k ["thing"] f__law_is_root) {j : Nat} (UW : UnW G u j) (hk : j + 4 ≤ k) (XR : XF G CP u.bRoots) : Fn G "_law_units_right" (k + 1) ["draw"] (f__law_units_right u) := by
  refine Fn.ofC F hm sc__law_units_right (fun _ _ _ _ _ _ us hl => match us, hl with | [_], _ => rfl) ?_
  intro cdv A outer s H E dr M ds Kp Ke hcd tk po hr hl hf
  have hcd := hcd.symm.trans LF.code
  subst hcd
  have tb := T.b
  have nd := sc__law_units_right.nd
  obtain ⟨d, rfl, rfl, k0⟩ := as1_ex hf
  walk_at "gl"
  refine ⟨rfl, fun ns hn => ?_⟩
  walk_at "gl"
  refine dx_make U.mkr UW.ini (hr.mono (by omega : j + 1 ≤ _)) tk rfl U.nm ?_
  walk_at "gl"
  refine ⟨rfl, init_good hn (.inl rfl) ?_⟩
  walk_at "gl"
  refine dx_makeK U.mkr UW.ini (hr.mono (by omega : j + 1 ≤ _)) tk rfl U.nm ["roots"] rfl rfl (kw_init U) ?_
  refine dk_cons ?_
  walk_at "gl"
  refine dk_nil ⟨rfl, init_good hn (.inr rfl) ?_⟩
  walk_at "gl"
  refine ⟨_, rfl, by simp, by simp, fun x hx => ?_⟩
  have ex : x = unD u ns := by
    simp only [List.mem_cons, List.mem_nil_iff, or_false] at hx
    rcases hx with rfl | rfl <;> rfl
  subst ex
  have hL : (ns.map D.int).length = ns.length := List.length_map ..
  have h1 : Room (1 + 1) _ := hr.mono (by omega : 1 + 1 ≤ _)
  have hO := U.eq
  have hC := U.cls
  have hE := UW.eql
  have hr2 := hr.mono (by omega : j + 2 ≤ k)
  have hrj := hr.mono (by omega : j ≤ _)
  walk_at "gl"
  refine dx_prop U.cls U.pr UW.rts h1 ?_
  walk_at "gl"
  refine ⟨⟨_, _, rfl⟩, ns, rfl, ?_⟩
  walk_at "gl"
  refine dx_prop U.cls U.pm UW.mny h1 ?_
  walk_at "gl"
  refine ⟨⟨_, _, rfl⟩, ns, rfl, ?_⟩
  walk_at "gl"
  rw [hL]
  refine ⟨.lst [.tup (ns.map D.int), .int (ns.length + 1)], rfl, okd_mono ((okd_lst (n := 1)).mpr fun x hx => ?_) (by decide), ?_, ?_⟩
  · simp only [List.mem_cons, List.mem_nil_iff, or_false] at hx
    rcases hx with rfl | rfl
    · exact okd_ints ns
    · rfl
  · have := hn.len
    simp only [sizeD, sizeL, size_ints]; omega
  walk_at "gl"
  refine dx_make U.mkr UW.ini (hr.mono (by omega : j + 1 ≤ _)) tk rfl U.nm ?_
  walk_at "gl"
  refine ⟨rfl, init_good hn (.inl rfl) ?_⟩
  refine ⟨⟨_, _, rfl⟩, .inl ⟨_, _, rfl⟩, ns, _, rfl, .inl ⟨ns, rfl, _, rfl, ?_⟩⟩
  refine brF (by simp) ?_
  walk_at "gl"
  refine And.right (lc_filter (fun _ => none) (by decide) (fun _ _ => trivial) (fun d hd A s H C cl fp => ?_) ?_)
  · obtain ⟨ms, hm, rfl⟩ : ∃ ms, GoodR ms ∧ d = .lst (ms.map D.int) := by
      obtain ⟨ms, h1, h2⟩ := List.mem_map.mp (show d ∈ menuU.map fun ms => .lst (ms.map D.int) from hd)
      exact ⟨ms, menuU_good ms h1, h2.symm⟩
    walk_at "gl"
    refine dx_make U.mkr UW.ini (hr.mono (by omega : j + 1 ≤ _)) takes_wx0 rfl U.nm ?_
    walk_at "gl"
    refine ⟨rfl, init_good hm (.inl rfl) ?_⟩
    refine ⟨⟨_, _, rfl⟩, .inl ⟨_, _, rfl⟩, ns, _, rfl, .inl ⟨ms, rfl, _, rfl, ?_⟩⟩
    walk_at "gl"
    refine gEq_of (okd_dok (okd_mono (okd_intsL ms) (by decide))) (okd_dok (okd_mono (okd_intsL ns) (by decide))) ?_
    rw [deq_intsL]
    refine ⟨dok_bl _, dok_bl _, ?_⟩
    rw [deq_bl]
    refine brF (by simp [eq_comm]) rfl
  rw [show ∀ l : List D, l.filterMap (fun _ => (none : Option D)) = [] from fun l => by simp]
  walk_at "gl"
  refine gNe_nil (by decide +kernel) ?_
  walk_at "gl"
  refine ⟨⟨_, _, rfl⟩, .inr ⟨_, rfl⟩, ns, _, rfl, .inr ⟨_, rfl, _, rfl, ?_⟩⟩
  walk_at "gl"
  refine dx_dic1 (key := .inl 2) (x := .int 1) (dd := .int 1) pe_int pe_int (fun _ => rfl) (fun _ => rfl) ?_
  walk_at "gl"
  refine ⟨_, rfl, by simp, by simp, fun x hx => ?_⟩
  have hb : BadD x := by
    simp only [List.mem_cons, List.mem_nil_iff, or_false] at hx
    rcases hx with rfl | rfl | rfl | rfl | rfl | rfl | rfl | rfl | rfl | rfl | rfl | rfl | rfl | rfl | rfl | rfl | rfl | rfl <;> exact ⟨rfl, by decide +kernel, fun l e => by cases e⟩
  clear hx
  walk_at "gl"
  refine ds_setLcNIf 5 6 rfl nd rfl rfl rfl rfl rfl rfl (by walk_at "lc") ?_
  walk_at "gl"
  refine ⟨⟨by decide, by decide, by decide, by decide⟩, ?_⟩
  refine lc_filter (fun _ => none) (by simp [intsD]) (fun _ _ => trivial) (fun d hd A s H C cl fp => ?_) ?_
  · obtain ⟨i, hi, rfl⟩ := ints_mem hd
    generalize (-3 : Int) + (i : Int) = n
    walk_at "gl"
    refine dx_cau CF LF.tab rfl LF.mem LF.only (hr.mono (by omega : j + 1 + 2 ≤ k)) rfl (fun A2 outer2 s2 H2 E2 f2 c2 tk2 hr3 => ?_) rfl rfl (fun _ _ _ _ _ => rfl)
    walk_at "gl"
    refine dx_make U.mkr UW.ini hr3 tk2 rfl U.nm ?_
    walk_at "gl"
    refine ⟨rfl, _, rfl, rfl, fun ms e => (by cases e), ?_⟩
    rw [rootsOf_one]
    cases hroot : isRoot n with
    | true =>
      show DE _ _ _ _ _ _ _ _
      walk_at "gl"
      refine ⟨n, rfl, ?_⟩
      rw [hroot]
      exact ⟨dok_bl _, dok_bl _, brF (by decide +kernel) rfl⟩
    | false =>
      refine ⟨rfl, XR.m, ?_⟩
      walk_at "gl"
      refine ⟨n, rfl, ?_⟩
      rw [hroot]
      exact ⟨dok_bl _, dok_bl _, brF (by show (!deq (.bl false) (.bl false)) = false; decide +kernel) rfl⟩
  rw [show ∀ l : List D, l.filterMap (fun _ => (none : Option D)) = [] from fun l => by simp]
  walk_at "gl"
  refine gEq_nil (by decide +kernel) ?_
  walk_at "gl"
  refine dx_isiO rfl (Bt.isinstance tb) rfl U.xRoots.g XR.b ?_
  refine dx_cau CF LF.tab rfl LF.mem LF.only (hr.mono (by omega : j + 1 + 2 ≤ k)) rfl (fun A2 outer2 s2 H2 E2 f2 c2 tk2 hr3 => ?_) rfl rfl (fun _ _ _ _ _ => rfl)
  walk_at "gl"
  refine dx_make U.mkr UW.ini hr3 tk2 rfl U.nm ?_
  walk_at "gl"
  refine ⟨rfl, _, rfl, hb.pl, fun ms e => absurd e (hb.nt _), ?_⟩
  rw [hb.no]
  exact ⟨rfl, XR.m, true, .exc XR.c XR.k, k0⟩
/-! ### sums: plain laws -/
theorem gcdI_scale {c x y : Int} (hc : 0 < c) : gcdI (c * x) (c * y) = c * gcdI x y := by
  show ((Nat.gcd (c * x).natAbs (c * y).natAbs : Nat) : Int) = c * ((Nat.gcd x.natAbs y.natAbs : Nat) : Int)
  rw [Int.natAbs_mul, Int.natAbs_mul, Nat.gcd_mul_left, Int.natCast_mul]
  have : ((c.natAbs : Nat) : Int) = c := by omega
  rw [this]
theorem pairP_scale {c x y : Int} (hc : 0 < c) : pairP (c * x) (c * y) = pairP x y := by
  unfold pairP
  rw [gcdI_scale hc, Int.mul_ediv_mul_of_pos _ _ hc, Int.mul_ediv_mul_of_pos _ _ hc]
theorem pairP_self {n : Nat} {x : Int × Int} (h : GoodP n x) : pairP x.1 x.2 = x := by
  have hr := h.rat
  have : gcdI x.1 x.2 = 1 := by
    have h2 : (decide (0 < x.2) && (gcdI x.1 x.2 == 1)) = true := hr
    simp only [Bool.and_eq_true, beq_iff_eq] at h2
    exact h2.2
  unfold pairP
  rw [this, Int.ediv_one, Int.ediv_one]
theorem plusP_nought {n : Nat} {x : Int × Int} (h : GoodP n x) : plusP (0, 1) x = x := by
  show pairP (0 * x.2 + x.1 * 1) (1 * x.2) = x
  rw [Int.zero_mul, Int.zero_add, Int.mul_one, Int.one_mul]
  exact pairP_self h
theorem pairP_dvd {u b : Int} : ∃ g u' b', u = g * u' ∧ b = g * b' ∧ g = gcdI u b := by
  obtain ⟨u', hu⟩ : gcdI u b ∣ u := Int.ofNat_dvd_left.mpr (Nat.gcd_dvd_left _ _)
  obtain ⟨b', hb⟩ : gcdI u b ∣ b := Int.ofNat_dvd_left.mpr (Nat.gcd_dvd_right _ _)
  exact ⟨gcdI u b, u', b', hu, hb, rfl⟩
theorem plusP_step {u a b : Int} (hb : 0 < b) : plusP (pairP u b) (a, b) = pairP (u + a) b := by
  have hg := gcdI_pos (x := u) hb
  obtain ⟨u', hu⟩ : gcdI u b ∣ u := Int.ofNat_dvd_left.mpr (Nat.gcd_dvd_left _ _)
  obtain ⟨b', hb'⟩ : gcdI u b ∣ b := Int.ofNat_dvd_left.mpr (Nat.gcd_dvd_right _ _)
  have e1 : u / gcdI u b = u' := by
    conv => lhs; rw [show u / gcdI u b = (gcdI u b * u') / gcdI u b from by rw [← hu]]
    exact Int.mul_ediv_cancel_left _ (by omega)
  have e2 : b / gcdI u b = b' := by
    conv => lhs; rw [show b / gcdI u b = (gcdI u b * b') / gcdI u b from by rw [← hb']]
    exact Int.mul_ediv_cancel_left _ (by omega)
  have hb0 : 0 < b' := by
    rw [hb'] at hb
    exact Int.pos_of_mul_pos_right hb (by omega)
  show pairP ((u / gcdI u b) * b + a * (b / gcdI u b)) ((b / gcdI u b) * b) = _
  rw [e1, e2]
  have e3 : u' * b + a * b' = b' * (u + a) := by
    conv => lhs; rw [hb']
    conv => rhs; rw [hu]
    generalize gcdI u b = g
    rw [Int.mul_add, Int.mul_comm a b', Int.mul_left_comm u' g b', Int.mul_left_comm b' g u', Int.mul_comm u' b']
  rw [e3]
  exact pairP_scale hb0
theorem pairP_zero {b : Int} (hb : 0 < b) : pairP 0 b = (0, 1) := by
  have : gcdI 0 b = b := by
    show ((Nat.gcd 0 b.natAbs : Nat) : Int) = b
    rw [Nat.gcd_zero_left]; omega
  unfold pairP
  rw [this, Int.zero_ediv, Int.ediv_self (by omega)]
theorem zw_map {α β : Type} (f : α → α → α) (g : α → α) : ∀ l : List α, List.zipWith f (l.map g) l = l.map fun x => f (g x) x
  | [] => rfl
  | x :: l => by rw [List.map_cons, List.zipWith_cons_cons, zw_map (β := β) f g l, List.map_cons]
theorem rep_map {α β : Type} (c : β) : ∀ l : List α, List.replicate l.length c = l.map fun _ => c
  | [] => rfl
  | x :: l => by rw [List.length_cons, List.replicate_succ, rep_map c l, List.map_cons]
theorem sumL_succ {n : Nat} {ls : List (List (Int × Int))} {p : List (Int × Int)} : sumL n (ls ++ [p]) = List.zipWith plusP (sumL n ls) p := by
  unfold sumL
  rw [List.foldl_append]; rfl
theorem sumL_rep {p : List (Int × Int)} (h : ∀ x ∈ p, 0 < x.2) : ∀ k : Nat, sumL p.length (List.replicate k p) = p.map fun x => pairP (k * x.1) x.2
  | 0 => by
    show List.replicate p.length ((0 : Int), (1 : Int)) = _
    rw [rep_map]
    refine List.map_congr_left fun x hx => ?_
    rw [show ((0 : Nat) : Int) * x.1 = 0 by simp, pairP_zero (h x hx)]
  | k + 1 => by
    rw [List.replicate_succ', sumL_succ, sumL_rep h k, zw_map (β := Int × Int)]
    refine List.map_congr_left fun x hx => ?_
    show plusP (pairP (k * x.1) x.2) (x.1, x.2) = _
    rw [plusP_step (h x hx)]
    congr 1
    rw [Int.natCast_succ, Int.add_mul, Int.one_mul]
theorem rep_take {α : Type} {p : α} (k i : Nat) : (List.replicate k p).take i = List.replicate (min i k) p := by
  rw [List.take_replicate]
theorem sumOk_rep {p : List (Int × Int)} (hn : p.length ≤ 3) (h : ∀ x ∈ p, GoodP 998 x) : SumOk p.length (List.replicate 400 p) := by
  have h0 : ∀ x ∈ p, 0 < x.2 := fun x hx => (h x hx).ok.pos
  refine ⟨fun q hq x hx => ?_, fun i x hx => ?_, fun i => ?_⟩
  · rw [(List.mem_replicate.mp hq).2] at hx
    exact (h x hx).ok.mono (by decide)
  · rw [rep_take, sumL_rep h0] at hx
    obtain ⟨y, hy, rfl⟩ := List.mem_map.mp hx
    have hy2 := (h y hy).ok
    have hi : min i 400 ≤ 400 := Nat.min_le_right _ _
    have s1 : sz 1007 (((min i 400 : Nat) : Int) * y.1) := by
      have : sz 9 (((min i 400 : Nat) : Int)) := by
        show (((min i 400 : Nat) : Int)).natAbs < 2 ^ 9
        omega
      exact (sz.mul this hy2.up).mono (by decide)
    exact (pairP_good hy2.pos s1 (hy2.dn.mono (by decide))).ok.mono (by decide)
  · rw [rep_take, sumL_rep h0, List.length_map]; exact hn
theorem times400 {p : List (Int × Int)} : (p.map fun x => timesP x (400, 1)) = p.map fun x => pairP (((400 : Nat) : Int) * x.1) x.2 := by
  refine List.map_congr_left fun x _ => ?_
  show pairP (x.1 * 400) (x.2 * 1) = _
  rw [Int.mul_one, Int.mul_comm]
  rfl
theorem sum400 {p : List (Int × Int)} (h : ∀ x ∈ p, GoodP 998 x) : sumL p.length (List.replicate 400 p) = p.map fun x => timesP x (400, 1) := by
  rw [times400]
  exact sumL_rep (fun x hx => (h x hx).ok.pos) 400
theorem plusP_good {n : Nat} {x y : Int × Int} (h : OkP n x) (g : OkP n y) : GoodP (n + n + 1) (plusP x y) :=
  pairP_good (Int.mul_pos h.pos g.pos) ((h.up.mul g.dn).add (g.up.mul h.dn)) ((h.dn.mul g.dn).mono (by omega))
theorem minusP_good {n : Nat} {x y : Int × Int} (h : OkP n x) (g : OkP n y) : GoodP (n + n + 1) (minusP x y) :=
  pairP_good (Int.mul_pos h.pos g.pos) ((h.up.mul g.dn).sub (g.up.mul h.dn)) ((h.dn.mul g.dn).mono (by omega))
theorem timesP_good {n : Nat} {x y : Int × Int} (h : OkP n x) (g : OkP n y) : GoodP (n + n) (timesP x y) :=
  pairP_good (Int.mul_pos h.pos g.pos) (h.up.mul g.up) (h.dn.mul g.dn)
theorem zw_mem {α : Type} {f : α → α → α} : ∀ {l m : List α} {z : α}, z ∈ List.zipWith f l m → ∃ x ∈ l, ∃ y ∈ m, z = f x y
  | [], _, z, h => by simp at h
  | _ :: _, [], z, h => by simp at h
  | x :: l, y :: m, z, h => by
    rw [List.zipWith_cons_cons] at h
    rcases List.mem_cons.mp h with rfl | h
    · exact ⟨x, by simp, y, by simp, rfl⟩
    · obtain ⟨a, ha, b, hb, e⟩ := zw_mem h
      exact ⟨a, List.mem_cons_of_mem _ ha, b, List.mem_cons_of_mem _ hb, e⟩
theorem zw_ok {n : Nat} {p q : List (Int × Int)} (h : ∀ x ∈ p, OkP n x) (g : ∀ x ∈ q, OkP n x) : ∀ x ∈ List.zipWith plusP p q, OkP (n + n + 1) x := fun z hz => by
  obtain ⟨x, hx, y, hy, rfl⟩ := zw_mem hz
  exact (plusP_good (h x hx) (g y hy)).ok
theorem zw_nought : ∀ {p : List (Int × Int)}, (∀ x ∈ p, GoodP 998 x) → List.zipWith plusP (List.replicate p.length (0, 1)) p = p
  | [], _ => rfl
  | x :: p, h => by
    rw [List.length_cons, List.replicate_succ, List.zipWith_cons_cons, zw_nought fun y hy => h y (List.mem_cons_of_mem _ hy), plusP_nought (h x List.mem_cons_self)]
theorem sum3 {n : Nat} {p q r : List (Int × Int)} (hp : p.length = n) (h : ∀ x ∈ p, GoodP 998 x) : sumL n [p, q, r] = List.zipWith plusP (List.zipWith plusP p q) r := by
  subst hp
  show List.zipWith plusP (List.zipWith plusP (List.zipWith plusP (List.replicate p.length (0, 1)) p) q) r = _
  rw [zw_nought h]
theorem ok01 : OkP 4000 ((0 : Int), (1 : Int)) := ⟨by decide, Nat.pow_pos (by decide), Nat.one_lt_two_pow (by decide)⟩
theorem sumOk0 {n : Nat} (hn : n ≤ 3) : SumOk n [] := ⟨fun _ h => by simp at h, fun i x hx => by
  rw [List.take_nil] at hx
  have hx : x ∈ List.replicate n ((0 : Int), (1 : Int)) := hx
  rw [(List.mem_replicate.mp hx).2]
  exact ok01, fun i => by
  rw [List.take_nil]
  show (List.replicate n ((0 : Int), (1 : Int))).length ≤ 3
  rw [List.length_replicate]; exact hn⟩
theorem sumOk3 {n : Nat} {p q r : List (Int × Int)} (hn : n ≤ 3) (hp : p.length = n) (h : ∀ x ∈ p, GoodP 998 x) (g : ∀ x ∈ q, GoodP 998 x) (f : ∀ x ∈ r, GoodP 998 x) : SumOk n [p, q, r] := by
  have a0 : ∀ x ∈ List.replicate n ((0 : Int), (1 : Int)), OkP 4000 x := fun x hx => by
    rw [(List.mem_replicate.mp hx).2]
    exact ok01
  have e1 : List.zipWith plusP (List.replicate n (0, 1)) p = p := by rw [← hp]; exact zw_nought h
  have hp' : ∀ x ∈ p, OkP 998 x := fun x hx => (h x hx).ok
  have hq' : ∀ x ∈ q, OkP 998 x := fun x hx => (g x hx).ok
  have a2 := zw_ok hp' hq'
  have a3 := zw_ok (n := 1997) a2 (fun x hx => (f x hx).ok.mono (by decide))
  have t : ∀ i, sumL n ([p, q, r].take i) = List.replicate n (0, 1) ∨ sumL n ([p, q, r].take i) = p ∨ sumL n ([p, q, r].take i) = List.zipWith plusP p q ∨ sumL n ([p, q, r].take i) = List.zipWith plusP (List.zipWith plusP p q) r := fun i => by
    match i with
    | 0 => exact .inl rfl
    | 1 => exact .inr (.inl e1)
    | 2 => exact .inr (.inr (.inl (by show List.zipWith plusP (List.zipWith plusP (List.replicate n (0, 1)) p) q = _; rw [e1])))
    | i + 3 =>
      rw [show [p, q, r].take (i + 3) = [p, q, r] from List.take_of_length_le (by simp)]
      exact .inr (.inr (.inr (by show List.zipWith plusP (List.zipWith plusP (List.zipWith plusP (List.replicate n (0, 1)) p) q) (r) = _; rw [e1])))
  refine ⟨fun l hl x hx => ?_, fun i x hx => ?_, fun i => ?_⟩
  · simp only [List.mem_cons, List.mem_nil_iff, or_false] at hl
    rcases hl with rfl | rfl | rfl
    · exact (h x hx).ok.mono (by decide)
    · exact (g x hx).ok.mono (by decide)
    · exact (f x hx).ok.mono (by decide)
  · rcases t i with e | e | e | e <;> rw [e] at hx
    · exact a0 x hx
    · exact (h x hx).ok.mono (by decide)
    · exact (a2 x hx).mono (by decide)
    · exact (a3 x hx).mono (by decide)
  · rcases t i with e | e | e | e <;> rw [e]
    · rw [List.length_replicate]; exact hn
    · omega
    · rw [List.length_zipWith]; omega
    · rw [List.length_zipWith, List.length_zipWith]; omega
/-- a given length -/
def GivenD (n : Nat) (d : D) : Prop := ∃ l, seqD d = some l ∧ l.length = n ∧ ∀ x ∈ l, GivOk x
theorem givs {l : List D} (h : ∀ x ∈ l, GivOk x) : ∃ p : List (Int × Int), l.map asRat = p.map ratP ∧ p.length = l.length ∧ ∀ x ∈ p, GoodP 998 x ∧ isGiv (ratP x) = true := by
  induction l with
  | nil => exact ⟨[], rfl, rfl, fun x hx => by simp at hx⟩
  | cons d l ih =>
    obtain ⟨p, h1, h2, h3⟩ := ih fun x hx => h x (List.mem_cons_of_mem _ hx)
    obtain ⟨hg, ho, y, e, gy⟩ := h d List.mem_cons_self
    refine ⟨y :: p, by rw [List.map_cons, List.map_cons, h1, e], by simp [h2], fun x hx => ?_⟩
    rcases List.mem_cons.mp hx with rfl | hx
    · refine ⟨gy, ?_⟩
      show (isRat (ratP x) && few x.1 x.2) = true
      rw [gy.rat, Bool.true_and]
      unfold isGiv at hg
      split at hg
      · rename_i i
        have e2 : rat i 1 = ratP x := e
        have e3 : i = x.1 ∧ (1 : Int) = x.2 := by
          injection e2 with e2
          injection e2 with a b
          injection a with a
          injection b with b
          injection b with b
          exact ⟨a, b⟩
        rw [← e3.1, ← e3.2]
        show (few1 i && few1 1) = true
        rw [hg]; decide +kernel
      · rename_i i j
        have e2 : rat i j = ratP x := e
        have e3 : i = x.1 ∧ j = x.2 := by
          injection e2 with e2
          injection e2 with a b
          injection a with a
          injection b with b
          injection b with b
          exact ⟨a, b⟩
        rw [← e3.1, ← e3.2]
        simp only [Bool.and_eq_true] at hg
        exact hg.2
      · cases hg
    · exact h3 x hx
/-- what is known of a given length d: its ratios p -/
structure GivenP (n : Nat) (d : D) (p : List (Int × Int)) : Prop where
  is : isLen n d = true
  pl : pl d = true
  th : ThingOk d
  sh : ∀ l, seqD d = some l → l.length = n
  of : lenOf d = lenD p
  sq : ∃ l, seqD d = some l ∧ l.map asRat = p.map ratP
  len : p.length = n
  good : ∀ x ∈ p, GoodP 998 x
  isP : isLen n (lenD p) = true
theorem okd_lenD (p : List (Int × Int)) : okd 3 (lenD p) = true := okd_mono (okd_tup (n := 1) |>.mpr fun d hd => by
  obtain ⟨x, _, rfl⟩ := List.mem_map.mp hd
  rfl) (by decide)
theorem plD_len (p : List (Int × Int)) : pl (lenD p) = true := okd_pl 3 _ (okd_lenD p)
theorem givenP {n : Nat} {d : D} (h : GivenD n d) : ∃ p, GivenP n d p := by
  obtain ⟨l, hs, hl, hg⟩ := h
  obtain ⟨p, h1, h2, h3⟩ := givs hg
  have hpl : plL l = true := okdL_pl 2 l (okdL_iff.mpr fun x hx => (hg x hx).ok)
  have hd : pl d = true := by cases d <;> first | (cases hs; done) | (cases hs; exact hpl)
  refine ⟨p, ?_, hd, ⟨pl_prim hd, fun m hm => ?_⟩, fun m hm => ?_, ?_, ⟨l, hs, h1⟩, by omega, fun x hx => (h3 x hx).1, ?_⟩
  · unfold isLen
    rw [hs]
    simp only [Bool.and_eq_true, beq_iff_eq, List.all_eq_true]
    exact ⟨hl, fun x hx => (hg x hx).giv⟩
  · rw [hs] at hm; cases hm
    exact fun x hx => okd_mono (hg x hx).ok (by decide)
  · rw [hs] at hm; cases hm; exact hl
  · rw [lenOf_seq hs, h1]; rfl
  · unfold isLen
    show ((p.map ratP).length == n && (p.map ratP).all isGiv) = true
    simp only [Bool.and_eq_true, beq_iff_eq, List.all_eq_true, List.length_map]
    refine ⟨by omega, fun x hx => ?_⟩
    obtain ⟨y, hy, rfl⟩ := List.mem_map.mp hx
    exact (h3 y hy).2
theorem givenP_len {n : Nat} {d : D} {p : List (Int × Int)} (h : GivenP n d p) : GivenP n (lenD p) p := by
  have e : (p.map ratP).map asRat = p.map ratP := by rw [List.map_map]; rfl
  refine ⟨h.isP, plD_len p, ⟨rfl, fun m hm => ?_⟩, fun m hm => ?_, ?_, ⟨_, rfl, e⟩, h.len, h.good, h.isP⟩
  · cases hm
    intro x hx
    obtain ⟨y, _, rfl⟩ := List.mem_map.mp hx
    rfl
  · cases hm; rw [List.length_map]; exact h.len
  · rw [lenOf_seq rfl, e]; rfl
def f__law_given2 : FS := fun ds Kp _ => ∃ ns : List Int, ds = [.drw, .lst (ns.map D.int)] ∧ ns.length ≤ 2 ∧ ∀ d p, GivenP (ns.length + 1) d p → Kp d
theorem given2 {G : Pg} {k : Nat} (h : Fn G "_law_given" k ["draw", "roots"] f__law_given) : Fn G "_law_given" k ["draw", "roots"] f__law_given2 := h.imp fun ds Kp Ke ⟨ns, e, hn, k⟩ => ⟨ns, e, hn, fun l hl hg => by
  obtain ⟨p, gp⟩ := givenP (n := ns.length + 1) (d := .tup l) ⟨l, rfl, hl, hg⟩
  obtain ⟨q, gq⟩ := givenP (n := ns.length + 1) (d := .lst l) ⟨l, rfl, hl, hg⟩
  exact ⟨k _ p gp, k _ q gq⟩⟩
/-! ### the law of sums -/
theorem okdLs {l : List D} (h : ∀ x ∈ l, okd 3 x = true) : okd 60 (.lst l) = true := okd_mono ((okd_lst (n := 3)).mpr h) (by decide)
theorem size_rats : ∀ p : List (Int × Int), sizeL (p.map ratP) = 3 * p.length
  | [] => rfl
  | x :: p => by
    rw [List.map_cons, sizeL, size_rats p, List.length_cons]
    simp only [sizeD, sizeL]; omega
theorem size_lenD (p : List (Int × Int)) : sizeD (lenD p) = 1 + 3 * p.length := by
  show 1 + sizeL (p.map ratP) = _
  rw [size_rats]
theorem flat_one {α : Type} (x : α) : ∀ n : Nat, (List.replicate n [x]).flatten = List.replicate n x
  | 0 => rfl
  | n + 1 => by rw [List.replicate_succ, List.flatten_cons, flat_one x n, List.replicate_succ]; rfl
structure TOk (t : D) : Prop where
  pl : pl t = true
  th : ThingOk t
theorem GivenP.ok4 {n : Nat} {d : D} {p : List (Int × Int)} (h : GivenP n d p) : ∀ x ∈ p, OkP 4000 x := fun x hx => (h.good x hx).ok.mono (by decide)
theorem areLen_lst {n : Nat} {l : List D} (hl : l.length ≤ 400) (h : ∀ x ∈ l, isLen n x = true) : areLen n (.lst l) = true := by
  show (decide (l.length ≤ 400) && l.all (isLen n)) = true
  rw [decide_eq_true hl, Bool.true_and, List.all_eq_true]
  exact h
theorem areLen_tup {n : Nat} {l : List D} (hl : l.length ≤ 400) (h : ∀ x ∈ l, isLen n x = true) : areLen n (.tup l) = true := areLen_lst hl h
def f__law_sums_right (u : Ua) : FS := fun ds Kp _ => as1 (fun d => d = .drw ∧ Kp (.bl true)) ds
abbrev s__law_sums_right : Stmt := top 76
theorem sc__law_sums_right : FnScope ["draw", "roots", "units", "given", "other", "one", "late", "ratio", "due", "thing", "is_right", "errors", "near", "item"] ["draw"] (defScope s__law_sums_right) := ⟨rfl, rfl, rfl, by decide +kernel, rfl, by decide +kernel, by decide +kernel⟩
theorem ok__law_sums_right {G : Pg} {k : Nat} {u : Ua} (T : Tx G) (U : UnF G u) {fa : Addr} {fd : FuncData} (F : FunD G.K "_law_sums_right" "_law_sums_right" (defArgs s__law_sums_right) (defBody s__law_sums_right) (defScope s__law_sums_right) [] [] fa fd) (hm : G.mg "_law_sums_right" = some (.ref fa)) {cc cp CP : Addr} (LF : LamF G "_law_sums_right" fd cc cp) (CF : CauF G.K G.mg CP) {j : Nat} (hk : j + 4 ≤ k) (c__law_roots : Fn G "_law_roots" j ["draw"] f__law_roots) (c__law_pick : Fn G "_law_pick" j ["draw", "some"] f__law_pick) (c__law_says : Fn G "_law_says" j ["told", "due"] f__law_says) (c__law_length : Fn G "_law_length" j ["thing"] f__law_length) (c__law_item : Fn G "_law_item" j ["draw"] f__law_item) (c__law_less : Fn G "_law_less" j ["one", "other"] f__law_less) (c__law_scaled : Fn G "_law_scaled" j ["length", "ratio"] f__law_scaled) (c__law_ratio : Fn G "_law_ratio" j ["number"] f__law_ratio) (c__law_add : Fn G "_law_add" j ["one", "other"] f__law_add) (c__law_nought : Fn G "_law_nought" j ["roots"] f__law_nought) (c__law_near : Fn G "_law_near" j ["draw", "roots"] f__law_near) (c__law_is_length : Fn G "_law_is_length" j ["roots", "thing"] f__law_is_length) (c__law_is_given : Fn G "_law_is_given" j ["thing"] f__law_is_given) (c__law_odd : Fn G "_law_odd" j ["draw"] f__law_odd) (c_plain : Fn G "plain" j ["units", "length"] (f_plain u)) (c_difference : Fn G "difference" j ["units", "one", "other"] (f_difference u)) (c_multiple : Fn G "multiple" j ["units", "length", "ratio"] (f_multiple u)) (c_total : Fn G "total" j ["units", "lengths"] (f_total u)) (c_is_length : Fn G "is_length" j ["units", "thing"] (f_is_length u)) (c_is_given : Fn G "is_given" j ["thing"] f_is_given) (c__law_given : Fn G "_law_given" j ["draw", "roots"] f__law_given2) (UW : UnW G u j) (d_plain : FnD G "plain" s_plain j ["units", "length"] (f_plain u)) (d_difference : FnD G "difference" s_difference j ["units", "one", "other"] (f_difference u)) (d_multiple : FnD G "multiple" s_multiple j ["units", "length", "ratio"] (f_multiple u)) (d_total : FnD G "total" s_total j ["units", "lengths"] (f_total u)) (d_is_length : FnD G "is_length" s_is_length j ["units", "thing"] (f_is_length u)) (d_is_given : FnD G "is_given" s_is_given j ["thing"] f_is_given) (XL : XF G CP u.bLength) (XLs : XF G CP u.bLengths) (XO : XF G CP u.bOne) (XT : XF G CP u.bOther) (XA : XF G CP u.bRatio) (XU : XF G CP u.bUnits) : Fn G "_law_sums_right" (k + 1) ["draw"] (f__law_sums_right u) := by
  refine Fn.ofC F hm sc__law_sums_right (fun _ _ _ _ _ _ us hl => match us, hl with | [_], _ => rfl) ?_
  intro cdv A outer s H E dr M ds Kp Ke hcd tk po hr hl hf
  have hcd := hcd.symm.trans LF.code
  subst hcd
  have hrk := hr
  have hrc := hr.mono (by omega : j + 2 ≤ k)
  replace hr := hr.mono (by omega : j ≤ k)
  have tb := T.b
  have nd := sc__law_sums_right.nd
  obtain ⟨d, rfl, rfl, k0⟩ := as1_ex hf
  walk_at "gl"
  refine ⟨rfl, fun ns hn => ?_⟩
  have hL : (ns.map D.int).length = ns.length := List.length_map ..
  have hn2 := hn.len
  walk_at "gl"
  refine ds_asg (.t [2, 3, 4]) (pg_tup rfl (pgs_cons (pg_name nd rfl (.inr rfl) (.inl rfl)) (pgs_cons (pg_name nd rfl (.inr rfl) (.inl rfl)) (pgs_cons (pg_name nd rfl (.inl rfl) (.inl rfl)) pgs_nil)))) ?_
  walk_at "gl"
  refine dx_make U.mkr UW.ini (hrk.mono (by omega : j + 1 ≤ k)) tk rfl U.nm ?_
  walk_at "gl"
  refine ⟨rfl, init_good hn (.inl rfl) ?_⟩
  walk_at "gl"
  refine ⟨ns, rfl, hn2, fun g p hg => ?_⟩
  walk_at "gl"
  refine ⟨ns, rfl, hn2, fun o q ho => ?_⟩
  obtain ⟨lg, hsg, hmg⟩ := hg.sq
  obtain ⟨lo, hso, hmo⟩ := ho.sq
  have hlg := hg.sh lg hsg
  have hlo := ho.sh lo hso
  have hp4 := hg.ok4
  have hq4 := ho.ok4
  have hpl := hg.len
  have hql := ho.len
  walk_at "gl"
  refine ds_asg (.t [5, 6, 7]) (pg_tup rfl (pgs_cons (pg_name nd rfl (.inr rfl) (.inl rfl)) (pgs_cons (pg_name nd rfl (.inl rfl) (.inl rfl)) (pgs_cons (pg_name nd rfl (.inl rfl) (.inl rfl)) pgs_nil)))) ?_
  walk_at "gl"
  refine ⟨g, lg, rfl, hsg, pl_items hg.pl hsg, by omega, ?_⟩
  rw [hmg]
  walk_at "gl"
  refine ⟨o, lo, rfl, hso, pl_items ho.pl hso, by omega, ?_⟩
  rw [hmo]
  walk_at "gl"
  refine ⟨rfl, fun yi hyi => ?_⟩
  walk_at "gl"
  refine ⟨_, rfl, by simp, by simp, fun r hr1 => ?_⟩
  have gr : GivOk r := by
    simp only [List.mem_cons, List.mem_nil_iff, or_false] at hr1
    rcases hr1 with rfl | rfl | rfl | rfl | rfl
    · exact giv_rat hyi (by decide)
    · exact giv_int (by decide +kernel) (sz_dec (by decide +kernel))
    · exact giv_int (by decide +kernel) (sz_dec (by decide +kernel))
    · exact giv_int (by decide +kernel) (sz_dec (by decide +kernel))
    · exact giv_rat (n := 10) (x := (7, 3)) ⟨⟨by decide, by simp [sz], by simp [sz]⟩, by decide +kernel⟩ (by decide)
  clear hr1 hyi
  obtain ⟨hrg, hro, y, hry, hgy⟩ := gr
  have hrp := okd_pl _ _ hro
  have hy4 : OkP 4000 y := hgy.ok.mono (by decide)
  clear hgy
  walk_at "gl"
  refine ⟨_, _, rfl, .inl ⟨ns, rfl, hn2, hg.pl, ?_⟩⟩
  rw [if_pos hg.is, hg.of]
  walk_at "gl"
  refine dx_callR d_plain hr tk rfl ["length", "units"] rfl rfl (fun _ _ _ _ _ _ ws hl => match ws, hl with | [_, _], _ => rfl) ?_
  refine dk_cons ?_
  walk_at "gl"
  refine dk_cons ?_
  walk_at "gl"
  refine dk_nil ⟨rfl, ?_⟩
  refine ⟨_, _, rfl, .inl ⟨ns, rfl, hn2, hg.pl, ?_⟩⟩
  rw [if_pos hg.is, hg.of]
  walk_at "gl"
  refine ⟨.lst [lenD p, lenD p], rfl, okdLs (fun x hx => ?_), ?_, ?_⟩
  · simp only [List.mem_cons, List.mem_nil_iff, or_false] at hx
    rcases hx with rfl | rfl <;> exact okd_lenD p
  · simp only [sizeD, sizeL, size_lenD]; omega
  walk_at "gl"
  refine ⟨p, q, rfl, by omega, hp4, hq4, ?_⟩
  walk_at "gl"
  refine ⟨hrp, ?_⟩
  rw [hry]
  walk_at "gl"
  refine ⟨p, y, rfl, by omega, hp4, hy4, ?_⟩
  walk_at "gl"
  refine ⟨p, q, rfl, by omega, hp4, hq4, ?_⟩
  walk_at "gl"
  have hz4 := zw_ok (fun x hx => (hg.good x hx).ok) (fun x hx => (ho.good x hx).ok)
  refine ⟨List.zipWith plusP p q, p, rfl, by rw [List.length_zipWith]; omega, fun x hx => (hz4 x hx).mono (by decide), hp4, ?_⟩
  walk_at "gl"
  refine ⟨_, rfl, by omega, ?_⟩
  rw [hL]
  walk_at "gl"
  refine ⟨_, g, o, rfl, ns, rfl, hn2, hg.pl, ?_⟩
  rw [if_pos hg.is]
  refine ⟨ho.pl, ?_⟩
  rw [if_pos ho.is]
  refine ⟨p, q, hg.of, ho.of, by omega, hp4, hq4, ?_⟩
  walk_at "gl"
  refine ⟨_, g, r, rfl, ns, rfl, hn2, hg.pl, ?_⟩
  rw [if_pos hg.is]
  refine ⟨hrp, ?_⟩
  rw [if_pos hrg]
  refine ⟨p, y, hg.of, hry, by omega, hp4, hy4, ?_⟩
  walk_at "gl"
  have hgp := givenP_len hg
  have hgq := givenP_len ho
  have a3 : areLen (ns.length + 1) (.lst [g, o, lenD p]) = true := areLen_lst (by simp) fun x hx => by
    simp only [List.mem_cons, List.mem_nil_iff, or_false] at hx
    rcases hx with rfl | rfl | rfl
    · exact hg.is
    · exact ho.is
    · exact hg.isP
  have a4 : areLen (ns.length + 1) (.tup [g, lenD q, g]) = true := areLen_tup (by simp) fun x hx => by
    simp only [List.mem_cons, List.mem_nil_iff, or_false] at hx
    rcases hx with rfl | rfl | rfl
    · exact hg.is
    · exact ho.isP
    · exact hg.is
  have n3 : ns.length + 1 ≤ 3 := by omega
  have so3 := sumOk3 (r := p) n3 hpl hg.good ho.good hg.good
  have es3 : sumL (ns.length + 1) [p, q, p] = List.zipWith plusP (List.zipWith plusP p q) p := sum3 hpl hg.good
  refine ⟨_, .lst [g, o, lenD p], rfl, ns, rfl, hn2, by simp [pl, plL, hg.pl, ho.pl, plD_len], ?_⟩
  rw [if_pos a3]
  refine ⟨_, [p, q, p], rfl, by simp only [List.map_cons, List.map_nil, hg.of, ho.of, hgp.of], so3, ?_⟩
  rw [es3]
  walk_at "gl"
  refine ⟨_, .tup [], rfl, ns, rfl, hn2, rfl, ?_⟩
  rw [if_pos (show areLen (ns.length + 1) (.tup []) = true from rfl)]
  refine ⟨[], [], rfl, rfl, sumOk0 n3, ?_⟩
  walk_at "gl"
  have sizes : ∀ a : List (Int × Int), a.length ≤ 3 → sizeD (lenD a) ≤ 10 := fun a ha => by rw [size_lenD]; omega
  have z1 := sizes (List.zipWith minusP p q) (by rw [List.length_zipWith]; omega)
  have z2 := sizes (p.map fun x => timesP x y) (by rw [List.length_map]; omega)
  have z3 := sizes (List.zipWith plusP (List.zipWith plusP p q) p) (by rw [List.length_zipWith]; omega)
  have z4 := sizes (List.replicate (ns.length + 1) (0, 1)) (by rw [List.length_replicate]; omega)
  refine ⟨.lst [lenD (List.zipWith minusP p q), lenD (p.map fun x => timesP x y), lenD (List.zipWith plusP (List.zipWith plusP p q) p), lenD (List.replicate (ns.length + 1) (0, 1))], rfl, okdLs (fun x hx => ?_), ?_, ?_⟩
  · simp only [List.mem_cons, List.mem_nil_iff, or_false] at hx
    rcases hx with rfl | rfl | rfl | rfl <;> exact okd_lenD _
  · simp only [sizeD, sizeL] at z1 z2 z3 z4 ⊢; omega
  walk_at "gl"
  refine dx_callR d_difference hr tk rfl ["other", "one", "units"] rfl rfl (fun _ _ _ _ _ _ ws hl => match ws, hl with | [_, _, _], _ => rfl) ?_
  refine dk_cons ?_
  walk_at "gl"
  refine dk_cons ?_
  walk_at "gl"
  refine dk_cons ?_
  walk_at "gl"
  refine dk_nil ⟨rfl, ?_⟩
  refine ⟨_, g, o, rfl, ns, rfl, hn2, hg.pl, ?_⟩
  rw [if_pos hg.is]
  refine ⟨ho.pl, ?_⟩
  rw [if_pos ho.is]
  refine ⟨p, q, hg.of, ho.of, by omega, hp4, hq4, ?_⟩
  walk_at "gl"
  refine dx_callR d_multiple hr tk rfl ["ratio", "length", "units"] rfl rfl (fun _ _ _ _ _ _ ws hl => match ws, hl with | [_, _, _], _ => rfl) ?_
  refine dk_cons ?_
  walk_at "gl"
  refine dk_cons ?_
  walk_at "gl"
  refine dk_cons ?_
  walk_at "gl"
  refine dk_nil ⟨rfl, ?_⟩
  refine ⟨_, g, r, rfl, ns, rfl, hn2, hg.pl, ?_⟩
  rw [if_pos hg.is]
  refine ⟨hrp, ?_⟩
  rw [if_pos hrg]
  refine ⟨p, y, hg.of, hry, by omega, hp4, hy4, ?_⟩
  walk_at "gl"
  refine dx_callR d_total hr tk rfl ["lengths", "units"] rfl rfl (fun _ _ _ _ _ _ ws hl => match ws, hl with | [_, _], _ => rfl) ?_
  refine dk_cons ?_
  walk_at "gl"
  refine dk_cons ?_
  walk_at "gl"
  refine dk_nil ⟨rfl, ?_⟩
  refine ⟨_, .tup [g, lenD q, g], rfl, ns, rfl, hn2, by simp [pl, plL, hg.pl, ho.pl, plD_len], ?_⟩
  rw [if_pos a4]
  refine ⟨_, [p, q, p], rfl, by simp only [List.map_cons, List.map_nil, hg.of, ho.of, hgq.of], so3, ?_⟩
  rw [es3]
  walk_at "gl"
  refine ⟨.lst [lenD (List.zipWith minusP p q), lenD (p.map fun x => timesP x y), lenD (List.zipWith plusP (List.zipWith plusP p q) p)], rfl, okdLs (fun x hx => ?_), ?_, ?_⟩
  · simp only [List.mem_cons, List.mem_nil_iff, or_false] at hx
    rcases hx with rfl | rfl | rfl <;> exact okd_lenD _
  · simp only [sizeD, sizeL] at z1 z2 z3 z4 ⊢; omega
  walk_at "gl"
  refine ds_for (.n 9) po rfl (pg_name nd rfl (.inr rfl) (.inl rfl)) ?_
  walk_at "gl"
  refine ⟨ns, rfl, hn2, fun t1 ht1 => ?_⟩
  walk_at "gl"
  refine ⟨ns, rfl, hn2, fun t2 ht2 => ?_⟩
  walk_at "gl"
  refine ⟨fun _ δ' => ∃ o9 o10 o11, δ' = [.im .drw, .im (.lst (ns.map D.int)), .im (unD u ns), .im g, .im o, .im (lenD p), .im (lenD q), .im r, .im (.lst [lenD (List.zipWith minusP p q), lenD (p.map fun x => timesP x y), lenD (List.zipWith plusP (List.zipWith plusP p q) p), lenD (List.replicate (ns.length + 1) (0, 1))]), o9, o10, o11, .un, .un], ⟨_, _, _, rfl⟩, ?_, ?_⟩
  · rintro i t δ' hd ⟨o9, o10, o11, rfl⟩
    have ht : TOk t := by
      have := List.mem_of_getElem? hd
      simp only [List.mem_cons, List.mem_nil_iff, or_false] at this
      rcases this with rfl | rfl | rfl | rfl
      · exact ⟨hg.pl, hg.th⟩
      · exact ⟨hgp.pl, hgp.th⟩
      · exact ⟨ht1.pl, ht1.th⟩
      · exact ⟨ht2.pl, ht2.th⟩
    clear hd
    refine ⟨trivial, ?_⟩
    walk_at "gl"
    refine ⟨_, t, rfl, by omega, ht.th, ?_⟩
    rw [hL]
    walk_at "gl"
    refine ⟨_, t, rfl, .inl ⟨ns, rfl, hn2, ht.pl, ?_⟩⟩
    walk_at "gl"
    refine dx_callR d_is_length hr tk rfl ["thing", "units"] rfl rfl (fun _ _ _ _ _ _ ws hl => match ws, hl with | [_, _], _ => rfl) ?_
    refine dk_cons ?_
    walk_at "gl"
    refine dk_cons ?_
    walk_at "gl"
    refine dk_nil ⟨rfl, ?_⟩
    refine ⟨_, t, rfl, .inl ⟨ns, rfl, hn2, ht.pl, ?_⟩⟩
    walk_at "gl"
    refine ⟨.lst [.bl (isLen (ns.length + 1) t), .bl (isLen (ns.length + 1) t)], rfl, rfl, Nat.le_of_ble_eq_true rfl, ?_⟩
    walk_at "gl"
    cases he : isLen (ns.length + 1) t with
    | true =>
      refine brF rfl ?_
      walk_at "gl"
      exact ⟨_, _, _, rfl⟩
    | false =>
      refine brT rfl ?_
      walk_at "gl"
      refine dx_isiO rfl (Bt.isinstance tb) rfl U.xLength.g XL.b ?_
      refine dx_cau CF LF.tab rfl LF.mem LF.only hrc rfl (fun A2 outer2 s2 H2 E2 f2 c2 tk2 hr3 => ?_) rfl rfl (fun _ _ _ _ _ => rfl)
      walk_at "gl"
      refine ⟨_, t, rfl, .inl ⟨ns, rfl, hn2, ht.pl, ?_⟩⟩
      rw [if_neg (by rw [he]; exact Bool.false_ne_true)]
      refine ⟨rfl, XL.m, true, .exc XL.c XL.k, ?_⟩
      walk_at "gl"
      refine dx_isiO rfl (Bt.isinstance tb) rfl U.xLength.g XL.b ?_
      refine dx_cau CF LF.tab rfl LF.mem LF.only hrc rfl (fun A2 outer2 s2 H2 E2 f2 c2 tk2 hr3 => ?_) rfl rfl (fun _ _ _ _ _ => rfl)
      walk_at "gl"
      refine ⟨_, t, _, rfl, ns, rfl, hn2, ht.pl, ?_⟩
      rw [if_neg (by rw [he]; exact Bool.false_ne_true)]
      refine ⟨rfl, XL.m, true, .exc XL.c XL.k, ?_⟩
      walk_at "gl"
      refine dx_isiO rfl (Bt.isinstance tb) rfl U.xOne.g XO.b ?_
      refine dx_cau CF LF.tab rfl LF.mem LF.only hrc rfl (fun A2 outer2 s2 H2 E2 f2 c2 tk2 hr3 => ?_) rfl rfl (fun _ _ _ _ _ => rfl)
      walk_at "gl"
      refine ⟨_, t, _, rfl, ns, rfl, hn2, ht.pl, ?_⟩
      rw [if_neg (by rw [he]; exact Bool.false_ne_true)]
      refine ⟨rfl, XO.m, true, .exc XO.c XO.k, ?_⟩
      walk_at "gl"
      refine dx_isiO rfl (Bt.isinstance tb) rfl U.xOther.g XT.b ?_
      refine dx_cau CF LF.tab rfl LF.mem LF.only hrc rfl (fun A2 outer2 s2 H2 E2 f2 c2 tk2 hr3 => ?_) rfl rfl (fun _ _ _ _ _ => rfl)
      walk_at "gl"
      refine ⟨_, g, t, rfl, ns, rfl, hn2, hg.pl, ?_⟩
      rw [if_pos hg.is]
      refine ⟨ht.pl, ?_⟩
      rw [if_neg (by rw [he]; exact Bool.false_ne_true)]
      refine ⟨rfl, XT.m, true, .exc XT.c XT.k, ?_⟩
      walk_at "gl"
      refine dx_isiO rfl (Bt.isinstance tb) rfl U.xLengths.g XLs.b ?_
      refine dx_cau CF LF.tab rfl LF.mem LF.only hrc rfl (fun A2 outer2 s2 H2 E2 f2 c2 tk2 hr3 => ?_) rfl rfl (fun _ _ _ _ _ => rfl)
      walk_at "gl"
      refine ⟨_, .lst [g, t], rfl, ns, rfl, hn2, by simp [pl, plL, hg.pl, ht.pl], ?_⟩
      rw [if_neg (by
        have e : areLen (ns.length + 1) (.lst [g, t]) = (isLen (ns.length + 1) g && (isLen (ns.length + 1) t && true)) := rfl
        rw [e, he, Bool.false_and, Bool.and_false]
        exact Bool.false_ne_true)]
      refine ⟨rfl, XLs.m, true, .exc XLs.c XLs.k, ?_⟩
      walk_at "gl"
      refine ⟨by decide, by decide, Nat.le_of_ble_eq_true rfl, ?_⟩
      refine ⟨by decide +kernel, by decide +kernel, brF (by decide +kernel) ?_⟩
      walk_at "gl"
      exact ⟨_, _, _, rfl⟩
  · rintro δ' ⟨o9, o10, o11, rfl⟩
    walk_at "gl"
    refine ⟨ns, rfl, hn2, fun t3 ht3 => ?_⟩
    walk_at "gl"
    refine ds_for (.n 13) po rfl (pg_name nd rfl (.inl rfl) (.inl rfl)) (di_seq (DE.weak (Kp := fun d => ∃ l, d = .lst l ∧ ∀ x ∈ l, okd 60 x = true) ?_ ?_))
    · walk_at "gl"
      refine ⟨ht3.th.pr, ?_⟩
      walk_at "gl"
      refine And.intro (fun h => ?_) (fun h => ?_)
      · obtain ⟨l, rfl⟩ : ∃ l, t3 = .lst l := by cases t3 <;> first | exact ⟨_, rfl⟩ | cases h
        walk_at "gl"
        exact ⟨l, rfl, ht3.th.it l rfl⟩
      · walk_at "gl"
        refine ⟨_, rfl, fun x hx => ?_⟩
        simp only [List.mem_cons, List.mem_nil_iff, or_false] at hx
        rcases hx with rfl | rfl | rfl | rfl | rfl <;> rfl
    · rintro d ⟨l, rfl, hok⟩
      refine ⟨l, rfl, fun _ δ' => ∃ o13, δ' = [.im .drw, .im (.lst (ns.map D.int)), .im (unD u ns), .im g, .im o, .im (lenD p), .im (lenD q), .im r, .im (.lst [lenD (List.zipWith minusP p q), lenD (p.map fun x => timesP x y), lenD (List.zipWith plusP (List.zipWith plusP p q) p), lenD (List.replicate (ns.length + 1) (0, 1))]), o9, o10, o11, .im t3, o13], ⟨_, rfl⟩, ?_, ?_⟩
      · rintro i x δ' hd ⟨o13, rfl⟩
        have hx := hok x (List.mem_of_getElem? hd)
        refine ⟨trivial, ?_⟩
        walk_at "gl"
        refine ⟨okd_pl _ _ hx, ?_⟩
        walk_at "gl"
        refine dx_callR d_is_given hr tk rfl ["thing"] rfl rfl (fun _ _ _ _ _ _ ws hl => match ws, hl with | [_], _ => rfl) ?_
        refine dk_cons ?_
        walk_at "gl"
        refine dk_nil ⟨rfl, okd_pl _ _ hx, ?_⟩
        walk_at "gl"
        refine ⟨hx, ?_⟩
        walk_at "gl"
        refine ⟨by decide, by decide, Nat.le_of_ble_eq_true rfl, ?_⟩
        walk_at "gl"
        refine ⟨.lst [.bl (isGiv x), .bl (isGiv x)], rfl, rfl, Nat.le_of_ble_eq_true rfl, ?_⟩
        walk_at "gl"
        exact ⟨_, rfl⟩
      · rintro δ' ⟨o13, rfl⟩
        walk_at "gl"
        refine dx_isiO rfl (Bt.isinstance tb) rfl U.xRatio.g XA.b ?_
        refine dx_cau CF LF.tab rfl LF.mem LF.only hrc rfl (fun A2 outer2 s2 H2 E2 f2 c2 tk2 hr3 => ?_) rfl rfl (fun _ _ _ _ _ => rfl)
        walk_at "gl"
        refine ⟨⟨by decide, by decide +kernel⟩, ?_⟩
        walk_at "gl"
        refine ⟨⟨by decide, by decide +kernel⟩, ?_⟩
        walk_at "gl"
        refine ⟨_, rfl, by simp, by simp, fun r2 hr2 => ?_⟩
        have gr : pl r2 = true ∧ isGiv r2 = false := by
          simp only [List.mem_cons, List.mem_nil_iff, or_false] at hr2
          rcases hr2 with rfl | rfl | rfl | rfl | rfl <;> exact ⟨rfl, by decide +kernel⟩
        clear hr2
        walk_at "gl"
        refine ⟨_, g, r2, rfl, ns, rfl, hn2, hg.pl, ?_⟩
        rw [if_pos hg.is]
        refine ⟨gr.1, ?_⟩
        rw [if_neg (by rw [gr.2]; exact Bool.false_ne_true)]
        refine ⟨rfl, XA.m, true, .exc XA.c XA.k, ?_⟩
        walk_at "gl"
        refine dx_isiO rfl (Bt.isinstance tb) rfl U.xLengths.g XLs.b ?_
        refine dx_cau CF LF.tab rfl LF.mem LF.only hrc rfl (fun A2 outer2 s2 H2 E2 f2 c2 tk2 hr3 => ?_) rfl rfl (fun _ _ _ _ _ => rfl)
        walk_at "gl"
        refine ⟨_, rfl, by simp, by simp, fun r2 hr2 => ?_⟩
        have gr : pl r2 = true ∧ areLen (ns.length + 1) r2 = false := by
          simp only [List.mem_cons, List.mem_nil_iff, or_false] at hr2
          rcases hr2 with rfl | rfl | rfl | rfl <;> exact ⟨rfl, rfl⟩
        clear hr2
        walk_at "gl"
        refine ⟨_, r2, rfl, ns, rfl, hn2, gr.1, ?_⟩
        rw [if_neg (by rw [gr.2]; exact Bool.false_ne_true)]
        refine ⟨rfl, XLs.m, true, .exc XLs.c XLs.k, ?_⟩
        walk_at "gl"
        refine dx_isiO rfl (Bt.isinstance tb) rfl U.xUnits.g XU.b ?_
        refine dx_cau CF LF.tab rfl LF.mem LF.only hrc rfl (fun A2 outer2 s2 H2 E2 f2 c2 tk2 hr3 => ?_) rfl rfl (fun _ _ _ _ _ => rfl)
        walk_at "gl"
        refine ⟨rfl, fun x hx1 hx2 => ?_⟩
        walk_at "gl"
        refine ⟨x, _, rfl, .inr ⟨hx1, ?_⟩⟩
        refine ⟨rfl, XU.m, true, .exc XU.c XU.k, ?_⟩
        walk_at "gl"
        refine dx_isiO rfl (Bt.isinstance tb) rfl U.xUnits.g XU.b ?_
        refine dx_cau CF LF.tab rfl LF.mem LF.only hrc rfl (fun A2 outer2 s2 H2 E2 f2 c2 tk2 hr3 => ?_) rfl rfl (fun _ _ _ _ _ => rfl)
        walk_at "gl"
        refine ⟨_, _, rfl, .inr ⟨rfl, ?_⟩⟩
        refine ⟨rfl, XU.m, true, .exc XU.c XU.k, ?_⟩
        walk_at "gl"
        refine dx_isiO rfl (Bt.isinstance tb) rfl U.xLengths.g XLs.b ?_
        refine dx_cau CF LF.tab rfl LF.mem LF.only hrc rfl (fun A2 outer2 s2 H2 E2 f2 c2 tk2 hr3 => ?_) rfl rfl (fun _ _ _ _ _ => rfl)
        walk_at "gl"
        refine ⟨by decide, by decide, Nat.le_of_ble_eq_true rfl, ?_⟩
        rw [flat_one]
        walk_at "gl"
        refine ⟨_, _, rfl, ns, rfl, hn2, okd_pl 60 _ (okdLs fun x hx => by rw [(List.mem_replicate.mp hx).2]; exact okd_lenD p), ?_⟩
        rw [if_neg (by
          have e : areLen (ns.length + 1) (.lst (List.replicate (401 : Int).toNat (lenD p))) = false := by
            show (decide ((List.replicate (401 : Int).toNat (lenD p)).length ≤ 400) && (List.replicate (401 : Int).toNat (lenD p)).all (isLen (ns.length + 1))) = false
            rw [List.length_replicate]; rfl
          rw [e]
          exact Bool.false_ne_true)]
        refine ⟨rfl, XLs.m, true, .exc XLs.c XLs.k, ?_⟩
        walk_at "gl"
        refine ⟨by decide, by decide, Nat.le_of_ble_eq_true rfl, ?_⟩
        rw [flat_one]
        walk_at "gl"
        refine ⟨_, _, rfl, ns, rfl, hn2, okd_pl 60 _ (okdLs fun x hx => by rw [(List.mem_replicate.mp hx).2]; exact okd_lenD p), ?_⟩
        rw [if_pos (areLen_lst (by rw [List.length_replicate]; decide) fun x hx => by rw [(List.mem_replicate.mp hx).2]; exact hg.isP)]
        refine ⟨_, List.replicate 400 p, rfl, by rw [List.map_replicate, List.map_replicate, hgp.of]; rfl, by rw [← hpl]; exact sumOk_rep (by omega) hg.good, ?_⟩
        rw [← hpl, sum400 hg.good]
        walk_at "gl"
        refine ⟨p, (400, 1), rfl, by omega, hp4, ⟨by decide, sz_dec (by decide +kernel), sz_dec (by decide +kernel)⟩, ?_⟩
        have hdk := okd_dok (okd_mono (okd_lenD (p.map fun x => timesP x (400, 1))) (by decide : 3 ≤ 64))
        refine gEq_of hdk hdk ?_
        rw [deq_refl hdk]
        walk_at "gl"
        refine ⟨by decide, by decide, Nat.le_of_ble_eq_true rfl, ?_⟩
        have fin : ∀ b : Bool, b = true → Kp (.bl b) := fun b hb => by rw [hb]; exact k0
        exact gEq_of (by decide +kernel) (by decide +kernel) (fin _ (by decide +kernel))
/-! ### the law -/
abbrev s_law : Stmt := top 77
theorem sc_law : FnScope ["script", "draw", "lap"] ["script"] (defScope s_law) := ⟨rfl, rfl, rfl, by decide +kernel, rfl, by decide +kernel, by decide +kernel⟩
def spLaw (K : PySem.W.Frag) (T : List (Addr × Str)) : Sp := fun vs H Q _ => ∃ (a : Addr) (ns : List Int), vs = [.ref a] ∧ SqL K H a (ns.map V.int) ∧ ns.length ≤ 63 ∧ LamX.Tabs T H ∧ ∀ H', Q (.bl true) H'
theorem ok_law {G : Pg} {u : Ua} {k : Nat} (T : Tx G) {fa fb : Addr} {fd fdb : FuncData} (F : FunD G.K "law" "law" (defArgs s_law) (defBody s_law) (defScope s_law) [] [] fa fd)
    (FB : FunD G.K "_law_begun" "_law_begun" (defArgs s__law_begun) (defBody s__law_begun) (defScope s__law_begun) [] [] fb fdb) (hb : G.mg "_law_begun" = some (.ref fb))
    (BG : FnOk G.P G.w G.K G.mg G.base (L2.CX G.P G.w) k fb fdb ["script"] (spBeg G.K G.T)) (c_units : Fn G "_law_units_right" k ["draw"] (f__law_units_right u)) (c_sums : Fn G "_law_sums_right" k ["draw"] (f__law_sums_right u)) :
    FnOk G.P G.w G.K G.mg G.base (L2.CX G.P G.w) (k + 1) fa fd ["script"] (spLaw G.K G.T) := by
  have bB : Binds G.K fdb ["script"] [] := FB.bindsN fun _ _ _ _ _ _ us hl => match us, hl with | [_], _ => rfl
  have kB := FB.kp
  obtain ⟨oc, od, dV, kV, doc, pm, an, cdv, ct, osl, e0, lk, hcd, _, _⟩ := F.ex
  subst e0
  refine fn_of lk hcd sc_law (fun vs H Q E h => by obtain ⟨a, ns, rfl, _⟩ := h; rfl) fun A outer s H vs Q E hr h => ?_
  obtain ⟨a, ns, rfl, ha, hn, hT, q⟩ := h
  have tb := T.b
  have nd := sc_law.nd
  have tk : Takes (FX G ["script", "draw", "lap"] "law" s_law fa cdv A outer s H E) (wxE E) := takes_of rfl rfl rfl rfl
  have po : PassesOwn (model G.P G.w) (FX G ["script", "draw", "lap"] "law" s_law fa cdv A outer s H E).A (FX G ["script", "draw", "lap"] "law" s_law fa cdv A outer s H E).env (FX G ["script", "draw", "lap"] "law" s_law fa cdv A outer s H E).xe := PassesOwn.leaving
  have rest : ∀ (d : Dr), DSs (FX G ["script", "draw", "lap"] "law" s_law fa cdv A outer s H E) ⟨G.T, some d⟩ [] (wxE E) [.im (.frz ns), .im .drw, .un] (defBody s_law).tail { nx := fun _ => False, rt := fun d => d = .bl true } kx0 := fun d => by
    have hr := hr
    refine ds_cons (ds_for (.n 2) po rfl (pg_name nd rfl (.inl rfl) (.inl rfl)) ?_)
    walk_at "gl"
    refine ⟨by split <;> omega, by split <;> omega, ?_⟩
    refine ⟨fun _ δ' => ∃ o2, δ' = [.im (.frz ns), .im .drw, o2], ⟨_, rfl⟩, ?_, ?_⟩
    · rintro i x δ' hd ⟨o2, rfl⟩
      refine ⟨trivial, ?_⟩
      walk_at "gl"
      refine ⟨rfl, ?_⟩
      walk_at "gl"
      refine ⟨rfl, ?_⟩
      walk_at "gl"
      exact ⟨_, rfl⟩
    · rintro δ' ⟨o2, rfl⟩
      walk_at "gl"
      rfl
  refine ⟨_, pss_cons (ps_set (i := 1) nd rfl (.inl rfl) (pe_callS BG hr rfl hb kB bB (fun σ => passAt tk σ) (pa_cons (pe_var (i := 0) rfl (.inl rfl)) pa_nil))) pss_any, ?_⟩
  refine seq_asg ⟨.ref a, rfl, a, ns, rfl, ha, by omega, hT, fun H' d kp hT' ap ok => ?_⟩
  have sq : SqL G.K (hide [d.dw, d.lg, d.cl] H') a (ns.map V.int) := by
    rcases ha with (ha | ⟨o, ha⟩) | ha
    · obtain ⟨n1, n2, n3⟩ := ap a _ ha fun _ z => by cases z
      exact .inl (.inl (hide_of (by simp [n1, n2, n3]) (kp a _ ha fun _ z => by cases z)))
    · obtain ⟨n1, n2, n3⟩ := ap a _ ha fun _ z => by cases z
      exact .inl (.inr ⟨o, hide_of (by simp [n1, n2, n3]) (kp a _ ha fun _ z => by cases z)⟩)
    · exact .inr ha
  have w' : WOk ⟨G.T, some d⟩ H' := ⟨hT', fun d' hd => by cases hd; exact ok⟩
  have env : EnvOk G.K ⟨G.T, some d⟩ [] [.im (.frz ns), .im .drw, .un] [some (.ref a), some (.ref d.dw), none] H' :=
    ⟨w', fun a ha => by simp at ha, List.Pairwise.nil, fun a ha => by simp [ownA] at ha, ⟨⟨.ref a, rfl, a, rfl, by
      have e : hidA ⟨G.T, some d⟩ [] [.im (.frz ns), .im .drw, .un] [some (.ref a), some (.ref d.dw), none] = [d.dw, d.lg, d.cl] := by simp [hidA, Wd.rg, ownA]
      rw [e]; exact sq⟩, ⟨.ref d.dw, rfl, d, rfl, rfl⟩, trivial, trivial⟩⟩
  refine (rest d).run (H0 := H') (N := []) ⟨env, fun b o _ _ e _ => e, fun a ha => by
    have ha : a ∈ ([] : List Addr) := ha
    simp at ha⟩ (fun _ _ _ _ z => z.elim) (fun _ _ _ _ z => z.elim) (fun _ _ _ _ z => z.elim) (fun v H2 d' _ rp e => ?_) (fun _ _ _ _ _ _ _ z => z.elim)
  subst e
  cases rp
  exact q H2
open He HandSHeadRun
def uaOf (K : PySem.W.Frag) : Ua := ⟨ga K "Units", ma K (ga K "Units") "__init__", propAt "Units" "roots" K, getAt "Units" "roots" K, propAt "Units" "many" K, getAt "Units" "many" K, ma K (ga K "Units") "__eq__", ga K "BadRoots", ga K "BadUnits", ga K "BadLength", ga K "BadLengths", ga K "BadOne", ga K "BadOther", ga K "BadRatio"⟩
def csOf (K : PySem.W.Frag) : List (Addr × Addr) := [cT K ("_law_units_right", none), cT K ("_law_sums_right", none)]
def TTof (K : PySem.W.Frag) : List (Addr × Str) := [((cT K ("_law_units_right", none)).2, ("_law_units_right" ++ ".<locals>.") ++ "<lambda>"), ((cT K ("_law_sums_right", none)).2, ("_law_sums_right" ++ ".<locals>.") ++ "<lambda>")]
section
variable {K : PySem.W.Frag} {h : Heap} {mg : Str → Option Value} {w : World}
theorem code_at {x : Str} {st : Stmt} {fd : FuncData} (F : FunD K x x (defArgs st) (defBody st) (defScope st) [] [] (fAd K (x, none)) fd) : fd.code = .ref (cT K (x, none)).1 := by
  obtain ⟨oc, od, dV, kV, doc, pm, an, cdv, ct, osl, e0, lk, hcd, _, _⟩ := F.ex
  obtain ⟨c, hc⟩ := codeIn_ref hcd
  have e : codeOf K (x, none) = c := codeOf_eq lk (by rw [e0] at *; exact hc)
  show fd.code = .ref (codeOf K (x, none))
  rw [e, e0]; exact hc
theorem at_of {G : Pg} (X : G.K.In h) (N : h.Ns mainGlobals G.mg) (c : SaysD fa fn G.K) (i : Nat) {x : Str} {st : Stmt} (h1 : fn[i]? = some (dd x st)) (h2 : fa[i]? = some (.glo x)) : At G x st := by
  obtain ⟨fd, F⟩ := c.def_ i h1
  exact ⟨_, fd, F, glo_ok X N (c.fact i h2)⟩
theorem bt_of (X : K.In h) (N : h.Ns mainGlobals mg) (c : SaysD fa fn K) : Bt mg := ⟨free_ok X N (c.fact 58 rfl), free_ok X N (c.fact 59 rfl), free_ok X N (c.fact 60 rfl), free_ok X N (c.fact 61 rfl), free_ok X N (c.fact 62 rfl), free_ok X N (c.fact 63 rfl), free_ok X N (c.fact 64 rfl), free_ok X N (c.fact 65 rfl), free_ok X N (c.fact 66 rfl), free_ok X N (c.fact 67 rfl), free_ok X N (c.fact 68 rfl), free_ok X N (c.fact 69 rfl), free_ok X N (c.fact 70 rfl), free_ok X N (c.fact 71 rfl), free_ok X N (c.fact 72 rfl), free_ok X N (c.fact 73 rfl), free_ok X N (c.fact 74 rfl), free_ok X N (c.fact 75 rfl), free_ok X N (c.fact 76 rfl), free_ok X N (c.fact 77 rfl), free_ok X N (c.fact 78 rfl)⟩
theorem xf_of {G : Pg} (X : G.K.In h) (c : SaysD fa fn G.K) (e : (exs.all fun x => excB G.K (ga G.K x)) = true) {x : Str} (hx : x ∈ exs) (i : Nat) (h2 : fa[i]? = some (.exm x "PlateError" true)) : XF G (ga G.K "PlateError") (ga G.K x) := by
  obtain ⟨a, b, d⟩ := excB_ok (List.all_eq_true.mp e x hx)
  exact ⟨a, d, exm_ok (c.fact i h2), b⟩
theorem ef_of (X : K.In h) (N : h.Ns mainGlobals mg) (c : SaysD fa fn K) {x : Str} (i j : Nat) (h1 : fa[i]? = some (.glo x)) (h2 : fa[j]? = some (.exc x)) : ExF K mg x (ga K x) := exF_ok (glo_ok X N (c.fact i h1)) (c.fact j h2)
end
theorem law_fn {K : PySem.W.Frag} {h : Heap} {mg : Str → Option Value} {w : World} {P : Program} (X : K.In h) (N : h.Ns mainGlobals mg) (c : SaysY fa fn gs tf ex w h K) {base : Heap} (TB : ∀ p ∈ csOf K, LamX.TabB base mg p.1 p.2) {fd : FuncData}
    (FL : FunD K "law" "law" (defArgs s_law) (defBody s_law) (defScope s_law) [] [] (ga K "law") fd) : FnOk P w K mg base (L2.CX P w) 20 (ga K "law") fd ["script"] (spLaw K (TTof K)) := by
  have cd := c.x.t.d
  have ce := c.x.more
  obtain ⟨e1, ce⟩ := ba ce
  obtain ⟨e2, ce⟩ := ba ce
  obtain ⟨e3, ce⟩ := ba ce
  obtain ⟨e4, ce⟩ := ba ce
  obtain ⟨e5, ce⟩ := ba ce
  obtain ⟨e6, ce⟩ := ba ce
  obtain ⟨e7, ce⟩ := ba ce
  obtain ⟨e8, e9⟩ := ba ce
  have hne : (cT K ("_law_units_right", none)).2 ≠ (cT K ("_law_sums_right", none)).2 := of_decide_eq_true e9
  let G : Pg := ⟨P, w, K, mg, base, TTof K⟩
  let u : Ua := uaOf K
  have N' : h.Ns mainGlobals G.mg := N
  have X' : G.K.In h := X
  have T : Tx G := ⟨bt_of X N cd, PySem.W.mg_of X N (of_decide_eq_true e5), int_ok X N (cd.fact 79 rfl), int_ok X N (cd.fact 80 rfl), int_ok X N (cd.fact 81 rfl), int_ok X N (cd.fact 82 rfl)⟩
  have hcls := cls_ok (cd.fact 85 (f := .cls "Units") rfl)
  obtain ⟨i1, i2, i3⟩ := insB_ok hcls e1
  have U : UnF G u := { nm := glo_ok X N (cd.fact 84 rfl), cls := hcls, clB := i2, insF := i1, self := i3, na := noat_ok (cd.fact 86 (f := .noat "Units" "u_roots") rfl), mkr := mkr_ok (cd.fact 87 (f := .mkr "Units") rfl), fi := cd.def_ 58 (d := dm "__init__" m_init) rfl, pr := propB_ok e2, fr := c.get e8 0 (d := gD "roots" m_roots) rfl, pm := propB_ok e3, fm := c.get e8 1 (d := gD "many" m_many) rfl, eq := ownEB_ok e4, fe := cd.def_ 59 (d := dm "__eq__" m_eq) rfl, xRoots := ef_of X N cd 89 90 rfl rfl, xUnits := ef_of X N cd 92 93 rfl rfl, xLength := ef_of X N cd 95 96 rfl rfl, xLengths := ef_of X N cd 98 99 rfl rfl, xOne := ef_of X N cd 101 102 rfl rfl, xOther := ef_of X N cd 104 105 rfl rfl, xRatio := ef_of X N cd 107 108 rfl rfl }
  have NO : GTup G.K G.mg "NOUGHT" [0, 1] := ⟨_, glo_ok X N (cd.fact 83 rfl), fun H => tupB_ok e6 H⟩
  have mm : FnA G u.gM 1 ["self"] (f_mmany u) := ok_mmany (k := 0) T U
  have mr : FnA G u.gR 1 ["self"] (f_mroots u) := ok_mroots (k := 0) T U
  have c_is_number : Fn G "is_number" 1 ["thing"] f_is_number := ok_is_number (k := 0) T (at_of X' N' cd 3 rfl rfl) 
  have c_is_ratio : Fn G "is_ratio" 2 ["thing"] f_is_ratio := ok_is_ratio (k := 1) T (at_of X' N' cd 4 rfl rfl) (c_is_number.mono (by decide : 1 ≤ 1))
  have c_as_ratio : Fn G "as_ratio" 1 ["number"] f_as_ratio := ok_as_ratio (k := 0) T (at_of X' N' cd 5 rfl rfl) 
  have c_has_few_digits : Fn G "has_few_digits" 1 ["ratio"] f_has_few_digits := ok_has_few_digits (k := 0) T (at_of X' N' cd 6 rfl rfl) 
  have c_is_given_number : Fn G "is_given_number" 3 ["thing"] f_is_given_number := ok_is_given_number (k := 2) T (at_of X' N' cd 7 rfl rfl) (c_is_number.mono (by decide : 1 ≤ 2)) (c_is_ratio.mono (by decide : 2 ≤ 2)) (c_as_ratio.mono (by decide : 1 ≤ 2)) (c_has_few_digits.mono (by decide : 1 ≤ 2))
  have c_as_pair : Fn G "as_pair" 1 ["above", "below"] f_as_pair := ok_as_pair (k := 0) T (at_of X' N' cd 8 rfl rfl) 
  have c_plus : Fn G "plus" 2 ["one", "other"] f_plus := ok_plus (k := 1) T (at_of X' N' cd 9 rfl rfl) (c_as_pair.mono (by decide : 1 ≤ 1))
  have c_minus : Fn G "minus" 2 ["one", "other"] f_minus := ok_minus (k := 1) T (at_of X' N' cd 10 rfl rfl) (c_as_pair.mono (by decide : 1 ≤ 1))
  have c_times : Fn G "times" 2 ["one", "other"] f_times := ok_times (k := 1) T (at_of X' N' cd 11 rfl rfl) (c_as_pair.mono (by decide : 1 ≤ 1))
  have c_as_length : Fn G "as_length" 2 ["thing"] f_as_length := ok_as_length (k := 1) T (at_of X' N' cd 12 rfl rfl) (c_as_ratio.mono (by decide : 1 ≤ 1))
  have c_length_plus : Fn G "length_plus" 3 ["one", "other"] f_length_plus := ok_length_plus (k := 2) T (at_of X' N' cd 13 rfl rfl) (c_plus.mono (by decide : 2 ≤ 2))
  have c_length_minus : Fn G "length_minus" 3 ["one", "other"] f_length_minus := ok_length_minus (k := 2) T (at_of X' N' cd 14 rfl rfl) (c_minus.mono (by decide : 2 ≤ 2))
  have c_length_times : Fn G "length_times" 3 ["length", "ratio"] f_length_times := ok_length_times (k := 2) T (at_of X' N' cd 15 rfl rfl) (c_times.mono (by decide : 2 ≤ 2))
  have c__law_gcd : Fn G "_law_gcd" 1 ["one", "other"] f__law_gcd := ok__law_gcd (k := 0) T (at_of X' N' cd 16 rfl rfl) 
  have c__law_pair : Fn G "_law_pair" 2 ["above", "bottom"] f__law_pair := ok__law_pair (k := 1) T (at_of X' N' cd 17 rfl rfl) (c__law_gcd.mono (by decide : 1 ≤ 1))
  have c__law_ratio : Fn G "_law_ratio" 1 ["number"] f__law_ratio := ok__law_ratio (k := 0) T (at_of X' N' cd 18 rfl rfl) 
  have c__law_plus : Fn G "_law_plus" 3 ["one", "other"] f__law_plus := ok__law_plus (k := 2) T (at_of X' N' cd 19 rfl rfl) (c__law_pair.mono (by decide : 2 ≤ 2))
  have c__law_minus : Fn G "_law_minus" 3 ["one", "other"] f__law_minus := ok__law_minus (k := 2) T (at_of X' N' cd 20 rfl rfl) (c__law_pair.mono (by decide : 2 ≤ 2))
  have c__law_times : Fn G "_law_times" 3 ["one", "other"] f__law_times := ok__law_times (k := 2) T (at_of X' N' cd 21 rfl rfl) (c__law_pair.mono (by decide : 2 ≤ 2))
  have c__law_length : Fn G "_law_length" 2 ["thing"] f__law_length := ok__law_length (k := 1) T (at_of X' N' cd 22 rfl rfl) (c__law_ratio.mono (by decide : 1 ≤ 1))
  have c__law_add : Fn G "_law_add" 4 ["one", "other"] f__law_add := ok__law_add (k := 3) T (at_of X' N' cd 23 rfl rfl) (c__law_plus.mono (by decide : 3 ≤ 3))
  have c__law_less : Fn G "_law_less" 4 ["one", "other"] f__law_less := ok__law_less (k := 3) T (at_of X' N' cd 24 rfl rfl) (c__law_minus.mono (by decide : 3 ≤ 3))
  have c__law_scaled : Fn G "_law_scaled" 4 ["length", "ratio"] f__law_scaled := ok__law_scaled (k := 3) T (at_of X' N' cd 25 rfl rfl) (c__law_times.mono (by decide : 3 ≤ 3))
  have c__law_is_ratio : Fn G "_law_is_ratio" 2 ["thing"] f__law_is_ratio := ok__law_is_ratio (k := 1) T (at_of X' N' cd 26 rfl rfl) (c__law_gcd.mono (by decide : 1 ≤ 1))
  have c__law_is_given : Fn G "_law_is_given" 3 ["thing"] f__law_is_given := ok__law_is_given (k := 2) T (at_of X' N' cd 27 rfl rfl) (c__law_is_ratio.mono (by decide : 2 ≤ 2)) (c__law_ratio.mono (by decide : 1 ≤ 2))
  have c__law_is_length : Fn G "_law_is_length" 4 ["roots", "thing"] f__law_is_length := ok__law_is_length (k := 3) T (at_of X' N' cd 28 rfl rfl) (c__law_is_given.mono (by decide : 3 ≤ 3))
  have c__law_nought : Fn G "_law_nought" 1 ["roots"] f__law_nought := ok__law_nought (k := 0) T (at_of X' N' cd 29 rfl rfl) 
  have c__law_is_root : Fn G "_law_is_root" 1 ["thing"] f__law_is_root := ok__law_is_root (k := 0) T (at_of X' N' cd 30 rfl rfl) 
  have c_is_root : Fn G "is_root" 2 ["thing"] f_is_root := ok_is_root (k := 1) T (at_of X' N' cd 31 rfl rfl) (c_is_number.mono (by decide : 1 ≤ 1))
  have c_need_units : Fn G "need_units" 1 ["units"] (f_need_units u) := ok_need_units (k := 0) T U (at_of X' N' cd 32 rfl rfl) 
  have c_is_length_of : Fn G "is_length_of" 4 ["units", "thing"] (f_is_length_of u) := ok_is_length_of (k := 3) T U (at_of X' N' cd 33 rfl rfl) (c_is_given_number.mono (by decide : 3 ≤ 3)) mm (by decide)
  have c_are_lengths : Fn G "are_lengths" 5 ["units", "thing"] (f_are_lengths u) := ok_are_lengths (k := 4) T U (at_of X' N' cd 34 rfl rfl) (c_is_length_of.mono (by decide : 4 ≤ 4))
  have c_nought_length : Fn G "nought_length" 3 ["units"] (f_nought_length u) := ok_nought_length (k := 2) T U (at_of X' N' cd 35 rfl rfl)  mm (by decide) NO
  have c_length_sum : Fn G "length_sum" 4 ["units", "lengths"] (f_length_sum u) := ok_length_sum (k := 3) T U (at_of X' N' cd 36 rfl rfl) (c_nought_length.mono (by decide : 3 ≤ 3)) (c_length_plus.mono (by decide : 3 ≤ 3))
  have c_need_length : Fn G "need_length" 5 ["units", "length"] (f_need_length u) := ok_need_length (k := 4) T U (at_of X' N' cd 37 rfl rfl) (c_need_units.mono (by decide : 1 ≤ 4)) (c_is_length_of.mono (by decide : 4 ≤ 4))
  have c_need_lengths : Fn G "need_lengths" 6 ["units", "lengths"] (f_need_lengths u) := ok_need_lengths (k := 5) T U (at_of X' N' cd 38 rfl rfl) (c_need_units.mono (by decide : 1 ≤ 5)) (c_are_lengths.mono (by decide : 5 ≤ 5))
  have c_need_two : Fn G "need_two" 5 ["units", "one", "other"] (f_need_two u) := ok_need_two (k := 4) T U (at_of X' N' cd 39 rfl rfl) (c_need_units.mono (by decide : 1 ≤ 4)) (c_is_length_of.mono (by decide : 4 ≤ 4))
  have d_is_given : FnD G "is_given" s_is_given 4 ["thing"] f_is_given := okd_is_given (k := 3) T (at_of X' N' cd 40 rfl rfl) (c_is_given_number.mono (by decide : 3 ≤ 3))
  have c_is_given : Fn G "is_given" 4 ["thing"] f_is_given := d_is_given.fn fun _ _ _ _ _ _ us hl => match us, hl with | [_], _ => rfl
  have d_is_length : FnD G "is_length" s_is_length 5 ["units", "thing"] (f_is_length u) := okd_is_length (k := 4) T U (at_of X' N' cd 41 rfl rfl) (c_need_units.mono (by decide : 1 ≤ 4)) (c_is_length_of.mono (by decide : 4 ≤ 4))
  have c_is_length : Fn G "is_length" 5 ["units", "thing"] (f_is_length u) := d_is_length.fn fun _ _ _ _ _ _ us hl => match us, hl with | [_, _], _ => rfl
  have d_plain : FnD G "plain" s_plain 6 ["units", "length"] (f_plain u) := okd_plain (k := 5) T U (at_of X' N' cd 42 rfl rfl) (c_need_length.mono (by decide : 5 ≤ 5)) (c_as_length.mono (by decide : 2 ≤ 5))
  have c_plain : Fn G "plain" 6 ["units", "length"] (f_plain u) := d_plain.fn fun _ _ _ _ _ _ us hl => match us, hl with | [_, _], _ => rfl
  have d_total : FnD G "total" s_total 7 ["units", "lengths"] (f_total u) := okd_total (k := 6) T U (at_of X' N' cd 43 rfl rfl) (c_need_lengths.mono (by decide : 6 ≤ 6)) (c_as_length.mono (by decide : 2 ≤ 6)) (c_length_sum.mono (by decide : 4 ≤ 6))
  have c_total : Fn G "total" 7 ["units", "lengths"] (f_total u) := d_total.fn fun _ _ _ _ _ _ us hl => match us, hl with | [_, _], _ => rfl
  have d_difference : FnD G "difference" s_difference 6 ["units", "one", "other"] (f_difference u) := okd_difference (k := 5) T U (at_of X' N' cd 44 rfl rfl) (c_need_two.mono (by decide : 5 ≤ 5)) (c_as_length.mono (by decide : 2 ≤ 5)) (c_length_minus.mono (by decide : 3 ≤ 5))
  have c_difference : Fn G "difference" 6 ["units", "one", "other"] (f_difference u) := d_difference.fn fun _ _ _ _ _ _ us hl => match us, hl with | [_, _, _], _ => rfl
  have d_multiple : FnD G "multiple" s_multiple 6 ["units", "length", "ratio"] (f_multiple u) := okd_multiple (k := 5) T U (at_of X' N' cd 45 rfl rfl) (c_need_length.mono (by decide : 5 ≤ 5)) (c_is_given_number.mono (by decide : 3 ≤ 5)) (c_as_length.mono (by decide : 2 ≤ 5)) (c_as_ratio.mono (by decide : 1 ≤ 5)) (c_length_times.mono (by decide : 3 ≤ 5))
  have c_multiple : Fn G "multiple" 6 ["units", "length", "ratio"] (f_multiple u) := d_multiple.fn fun _ _ _ _ _ _ us hl => match us, hl with | [_, _, _], _ => rfl
  have c__law_kinds : Fn G "_law_kinds" 1 ["thing"] f__law_kinds := ok__law_kinds (k := 0) T (at_of X' N' cd 46 rfl rfl) 
  have c__law_mixed : Fn G "_law_mixed" 1 ["draw"] f__law_mixed := ok__law_mixed (k := 0) T (at_of X' N' cd 47 rfl rfl) 
  have c__law_take : Fn G "_law_take" 2 ["draw", "amount"] f__law_take := ok__law_take (k := 1) T (at_of X' N' cd 48 rfl rfl) (c__law_mixed.mono (by decide : 1 ≤ 1))
  have c__law_pick : Fn G "_law_pick" 3 ["draw", "some"] f__law_pick := ok__law_pick (k := 2) T (at_of X' N' cd 49 rfl rfl) (c__law_take.mono (by decide : 2 ≤ 2))
  have c__law_says : Fn G "_law_says" 2 ["told", "due"] f__law_says := ok__law_says (k := 1) T (at_of X' N' cd 50 rfl rfl) (c__law_kinds.mono (by decide : 1 ≤ 1))
  have c__law_roots : Fn G "_law_roots" 4 ["draw"] f__law_roots := ok__law_roots (k := 3) T (at_of X' N' cd 51 rfl rfl) (c__law_pick.mono (by decide : 3 ≤ 3))
  have c__law_item : Fn G "_law_item" 4 ["draw"] f__law_item := ok__law_item (k := 3) T (at_of X' N' cd 52 rfl rfl) (c__law_pick.mono (by decide : 3 ≤ 3)) (c__law_take.mono (by decide : 2 ≤ 3)) (c__law_pair.mono (by decide : 2 ≤ 3))
  have c__law_given : Fn G "_law_given" 5 ["draw", "roots"] f__law_given := ok__law_given (k := 4) T (at_of X' N' cd 53 rfl rfl) (c__law_pick.mono (by decide : 3 ≤ 4)) (c__law_item.mono (by decide : 4 ≤ 4)) (c__law_take.mono (by decide : 2 ≤ 4))
  have c__law_near : Fn G "_law_near" 6 ["draw", "roots"] f__law_near := ok__law_near (k := 5) T (at_of X' N' cd 54 rfl rfl) (c__law_given.mono (by decide : 5 ≤ 5)) (c__law_take.mono (by decide : 2 ≤ 5)) (c__law_pick.mono (by decide : 3 ≤ 5))
  have c__law_odd : Fn G "_law_odd" 4 ["draw"] f__law_odd := ok__law_odd (k := 3) T (at_of X' N' cd 55 rfl rfl) (c__law_pick.mono (by decide : 3 ≤ 3))
  have UW : UnW G u 14 := ⟨ok_init (k := 13) T U (c_is_root.mono (by decide : 2 ≤ 13)), mr, mm, ok_meq (k := 12) T U (mr.mono (by decide))⟩
  obtain ⟨fcg, fcd, FC, hmc⟩ := at_of (G := G) X' N' cd 2 (x := "_law_caught") (st := s__law_caught) rfl rfl
  have CF : CauF G.K G.mg (ga K "PlateError") := ⟨⟨fcg, fcd, hmc, FC⟩, glo_ok X N (cd.fact 88 rfl)⟩
  obtain ⟨fu0, Fu0⟩ := cd.def_ 56 (d := dd "_law_units_right" s__law_units_right) rfl
  have LF0 : LamF G "_law_units_right" fu0 (cT K ("_law_units_right", none)).1 (cT K ("_law_units_right", none)).2 := ⟨code_at (x := "_law_units_right") (st := s__law_units_right) Fu0, TB _ (by simp [csOf]), by simp [G, TTof], fun p hp e => by
    have hp : p ∈ TTof K := hp
    simp only [TTof, List.mem_cons, List.mem_nil_iff, or_false] at hp
    rcases hp with rfl | rfl
    · rfl
    · exact absurd e.symm hne⟩
  obtain ⟨fu1, Fu1⟩ := cd.def_ 57 (d := dd "_law_sums_right" s__law_sums_right) rfl
  have LF1 : LamF G "_law_sums_right" fu1 (cT K ("_law_sums_right", none)).1 (cT K ("_law_sums_right", none)).2 := ⟨code_at (x := "_law_sums_right") (st := s__law_sums_right) Fu1, TB _ (by simp [csOf]), by simp [G, TTof], fun p hp e => by
    have hp : p ∈ TTof K := hp
    simp only [TTof, List.mem_cons, List.mem_nil_iff, or_false] at hp
    rcases hp with rfl | rfl
    · exact absurd e hne
    · rfl⟩
  have c_units : Fn G "_law_units_right" 19 ["draw"] (f__law_units_right u) := ok__law_units_right (k := 18) T U Fu0 (glo_ok X N (cd.fact 56 rfl)) LF0 CF (c__law_roots.mono (by decide : 4 ≤ 18)) (c__law_pick.mono (by decide : 3 ≤ 18)) (c__law_says.mono (by decide : 2 ≤ 18)) (c__law_is_root.mono (by decide : 1 ≤ 18)) (j := 14) UW (by decide) (xf_of X' cd e7 (x := "BadRoots") (by simp [exs]) 91 rfl)
  have c_sums : Fn G "_law_sums_right" 19 ["draw"] (f__law_sums_right u) := ok__law_sums_right (k := 18) T U Fu1 (glo_ok X N (cd.fact 57 rfl)) LF1 CF (j := 14) (by decide) (c__law_roots.mono (by decide : 4 ≤ 14)) (c__law_pick.mono (by decide : 3 ≤ 14)) (c__law_says.mono (by decide : 2 ≤ 14)) (c__law_length.mono (by decide : 2 ≤ 14)) (c__law_item.mono (by decide : 4 ≤ 14)) (c__law_less.mono (by decide : 4 ≤ 14)) (c__law_scaled.mono (by decide : 4 ≤ 14)) (c__law_ratio.mono (by decide : 1 ≤ 14)) (c__law_add.mono (by decide : 4 ≤ 14)) (c__law_nought.mono (by decide : 1 ≤ 14)) (c__law_near.mono (by decide : 6 ≤ 14)) (c__law_is_length.mono (by decide : 4 ≤ 14)) (c__law_is_given.mono (by decide : 3 ≤ 14)) (c__law_odd.mono (by decide : 4 ≤ 14)) (c_plain.mono (by decide : 6 ≤ 14)) (c_difference.mono (by decide : 6 ≤ 14)) (c_multiple.mono (by decide : 6 ≤ 14)) (c_total.mono (by decide : 7 ≤ 14)) (c_is_length.mono (by decide : 5 ≤ 14)) (c_is_given.mono (by decide : 4 ≤ 14)) (given2 (c__law_given.mono (by decide : 5 ≤ 14))) UW (d_plain.mono (by decide : 6 ≤ 14)) (d_difference.mono (by decide : 6 ≤ 14)) (d_multiple.mono (by decide : 6 ≤ 14)) (d_total.mono (by decide : 7 ≤ 14)) (d_is_length.mono (by decide : 5 ≤ 14)) (d_is_given.mono (by decide : 4 ≤ 14)) (xf_of X' cd e7 (x := "BadLength") (by simp [exs]) 97 rfl) (xf_of X' cd e7 (x := "BadLengths") (by simp [exs]) 100 rfl) (xf_of X' cd e7 (x := "BadOne") (by simp [exs]) 103 rfl) (xf_of X' cd e7 (x := "BadOther") (by simp [exs]) 106 rfl) (xf_of X' cd e7 (x := "BadRatio") (by simp [exs]) 109 rfl) (xf_of X' cd e7 (x := "BadUnits") (by simp [exs]) 94 rfl)
  obtain ⟨fb, FB⟩ := cd.def_ 1 (d := dd "_law_begun" s__law_begun) rfl
  exact ok_law (G := G) (u := u) (k := 19) T FL FB (glo_ok X N (cd.fact 1 rfl)) (ok_begun (G := G) (k := 18) T FB) c_units c_sums
--END
end KK
open PySem PySem.W PySem.Calls PyProof.Rows
theorem PySem.Challenge.cw_laidanew_k00_whole_units_and_lengths_holds : PySem.Challenge.rw_laidanew_k00_whole_units_and_lengths.Holds := by
  w_on; o_law
  refine HandSHeadRun.head_imp (r := OpenLaw.row PySem.Challenge.rw_laidanew_k00_whole_units_and_lengths) (q := view (OpenLaw.row PySem.Challenge.rw_laidanew_k00_whole_units_and_lengths).prog [77]) (H := KK.hk) (ob := KK.ob) (M := 6000) (loose := KK.looseN) (d := HandSHeadRun.topDef (OpenLaw.row PySem.Challenge.rw_laidanew_k00_whole_units_and_lengths).prog 77) (kwd := []) KK.ob_eq KK.run
    (by kernel_rfl) (by kernel_rfl) (by kernel_rfl) (by rfl) (by first | assumption | decide +kernel) (by decide +kernel) ⟨rfl, rfl, rfl, rfl, rfl, by decide +kernel⟩ ?hw ?hc
  case hw => w_witness2
  case hc =>
    refine LamX.walk_ofTsE (l := PySem.Challenge.rw_laidanew_k00_whole_units_and_lengths) (n := 63) (k := 20) (x := "script") (CX := fun w => L2.CX (PySem.Challenge.rw_laidanew_k00_whole_units_and_lengths).prog w) rfl (by decide) (by kernel_rfl) ⟨rfl, by decide, by decide⟩ ?F (fun w H s e s' z => by
      obtain ⟨_, _, _, _, _, _, _, _, _, _, _, _, z⟩ := z
      exact z)
    intro w mg fa h Y N hmg0
    obtain ⟨K, KX, c⟩ := Y
    have hmg : mg ("law" : PySem.Str) = some (.ref fa) := by
      have e : (HandSHeadRun.topDef (OpenLaw.row PySem.Challenge.rw_laidanew_k00_whole_units_and_lengths).prog 77).name = ("law" : PySem.Str) := by kernel_rfl
      rw [← e]
      exact hmg0
    have cd := c.x.t.d
    have e := hmg.symm.trans (He.glo_ok KX N (cd.fact 0 (f := .glo "law") rfl))
    cases e
    obtain ⟨fd, FL⟩ := cd.def_ 0 (d := KK.dd "law" KK.s_law) rfl
    have b := L2.FunD.bindsA (ps := ["script"]) FL fun _ _ _ _ _ _ us hl => match us, hl with | [_], _ => rfl
    refine ⟨K, KX, fd, KK.csOf K, KK.spLaw K (KK.TTof K), fun p hp => ?_, fun p hp => ?_, fun p hp => ?_, fun s v => b s [v] rfl, fun H a ns hn _ hT hS => ⟨a, ns, rfl, hS, hn, fun p hp => ?_, fun _ => rfl⟩, fun base _ _ TB => KK.law_fn KX N c TB FL⟩
    · have hp : p ∈ KK.tf.map (He.cT K) := hp
      obtain ⟨z, hz, rfl⟩ := List.mem_map.mp hp
      exact c.x.empty z hz
    · have hp : p ∈ KK.tf.map (He.cT K) := hp
      obtain ⟨z, hz, rfl⟩ := List.mem_map.mp hp
      exact c.x.out z hz
    · have hp : p ∈ KK.tf.map (He.cT K) := hp
      obtain ⟨z, hz, rfl⟩ := List.mem_map.mp hp
      exact PySem.W.codeHd_of_K KX (c.x.hd z hz)
    · simp only [KK.TTof, List.mem_cons, List.mem_nil_iff, or_false] at hp
      rcases hp with rfl | rfl
      · exact LamX.TabS.nil (hT _ (by simp [KK.csOf]))
      · exact LamX.TabS.nil (hT _ (by simp [KK.csOf]))
namespace KK
end KK
