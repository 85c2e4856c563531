import PyProof.Rows.All
import HandS.Words
import HandS.Defaults
import HandS.Head0
import HandS.Head1
import HandS.Head2
import HandS.HeadHook4
import Wide.All
import OpenK.AllK
import Wide.FinOn
import HandS.ForMost
import HandS.Exc
import HandS.Lambda
import HandS.Nested
import HandS.Style
import HandS.NoneIn
import HandS.More
import HandS.SetFor
import HandS.SetKeys
import HandS.TupAny
import HandS.StrMore
import HandS.Rev
import HandS.IsInst
import HandS.DictComp
import HandS.SortInts
import HandS.HeadEnd
import HandS.HeadHook1
import HandS.HeadHook2
import HandS.HeadHook3
import HandS.HeadWalk
import HandS.CallLocal
import HandS.Strs
import HandS.ListEq
import KE.KUnpackStar
import HandS.Conv
import HandS.ExcInit
import HandS.ExcIs
import HandS.ExcOwn
import HandS.ExcValue
import HandS.Set
import KE.SortData
import HandS.TupSets
import HandS.SetBool
import KE.SortKeyHeap
import HandS.SortKw
import PySem.Challenge.RW_websplit_k26_whole_searched_by_any_order
set_option Elab.async false
set_option linter.all false
set_option maxRecDepth 100000
set_option maxHeartbeats 0
/-! H0: what the head runs, ahead of all: it wants the most memory. -/
namespace Ws
open PySem PyProof.Rows PySem.Spec L2
def top (i : Nat) : Stmt := PySem.Challenge.pw_websplit_k26_whole_searched_by_any_order.main.body.getD i (.Pass ⟨0, 0, 0, 0⟩)
def meth (i : Nat) : Stmt := match top 17 with
  | .ClassDef _ _ _ b _ _ _ _ _ _ _ => b.getD i (.Pass ⟨0, 0, 0, 0⟩)
  | _ => .Pass ⟨0, 0, 0, 0⟩
def npI : Stmt := match top 3 with
  | .ClassDef _ _ _ b _ _ _ _ _ _ _ => b.getD 0 (.Pass ⟨0, 0, 0, 0⟩)
  | _ => .Pass ⟨0, 0, 0, 0⟩
abbrev aeMro : List Value := [.type "ArithmeticError", .type "Exception", .type "BaseException", .type "object"]
def dF (x : Str) (i : Nat) : He.DefD := ⟨(x, none), x, x, defArgs (top i), defBody (top i), defScope (top i), [], []⟩
def dM (m q : Str) (i : Nat) : He.DefD := ⟨("Web", some m), m, q, defArgs (meth i), defBody (meth i), defScope (meth i), [], []⟩
def defsA : List He.DefD := [dF "is_whole" 5, dF "unlike_ones" 9, dF "variables_of" 10, dF "variables_in" 11, dF "outer_rows" 12, dF "outer_variables" 13, dF "bound_in" 14, dF "alone_in" 15, dF "far_by_ties" 19, dF "near_by_ties" 20, dF "far_by_way" 21, dF "near_by_way" 22, dF "is_worth_so" 23, dF "holds_plain" 24, dF "holds_row" 25, dF "waiting_on" 26, dF "with_knot" 27, dF "bindings" 28, dF "all_bindings" 29, dF "shown_of" 30, dF "answer" 31]
def defsB : List He.DefD := [dF "wanted_by" 33, dF "is_ready" 34, dF "first_of" 35, dF "step_of" 36, dF "plan_of" 37, dF "plan" 38, dF "need_order" 39, dF "knots_of_kind" 40, dF "by_knots" 41, dF "by_ties" 42, dF "by_looks" 43, dF "answer_by" 45]
def defsC : List He.DefD := [dF "_law_pen" 47, dF "_law_draw" 48, dF "_law_pick" 49, dF "_law_names" 50, dF "_law_worth" 51, dF "_law_scene" 52, dF "_law_variable" 53, dF "_law_row" 54, dF "_law_question" 55, dF "_law_in_row" 56, dF "_law_number" 57, dF "_law_web" 58, dF "_law_parts" 59, dF "_law_made" 60, dF "_law_goes" 61, dF "_law_shuffled" 62, dF "_law_orders" 63, dF "_law_none" 64, dF "_law_told" 65, dF "_law_filled" 66, dF "law" 67]
def defsD : List He.DefD := [⟨("Web", some "__init__"), "__init__", "Web.__init__", defArgs (meth 0), defBody (meth 0), defScope (meth 0), [.adr (He.dflAt ("Web", some "__init__") 0), .adr (He.dflAt ("Web", some "__init__") 1)], []⟩, dM "knots" "Web.knots" 3, dM "point" "Web.point" 5, dM "kind" "Web.kind" 6, dM "worths" "Web.worths" 7, dM "outs" "Web.outs" 8, dM "ins" "Web.ins" 9, dM "tie" "Web.tie" 10,
  ⟨("NoPlan", some "__init__"), "__init__", "NoPlan.__init__", defArgs npI, defBody npI, defScope npI, [], []⟩]
def defs : List He.DefD := defsA ++ defsB ++ defsC ++ defsD
def glos (l : List He.DefD) : List He.Fa := (l.filter fun d => d.at_.2.isNone).map fun d => .glo d.at_.1
def facts0 : List He.Fa := [.free "len", .free "list", .free "isinstance", .free "sorted", .free "all", .free "any", .free "range", .free "tuple", .free "dict", .free "set", .free "int", .free "bool", .free "str", .free "abs", .free "min", .free "ArithmeticError",
  .glo "Web", .glo "NoPlan", .glo "BINDING", .glo "PLACES", .glo "STEPS", .cls "Web", .noat "Web" "points", .noat "Web" "links", .noat "Web" "going", .noat "Web" "coming",
  .meth "Web" "knots", .meth "Web" "point", .meth "Web" "kind", .meth "Web" "worths", .meth "Web" "outs", .meth "Web" "ins", .meth "Web" "tie", .mkr "Web", .exm "NoPlan" "NoPlan" true, .meth "NoPlan" "__init__"]
def fa : List He.Fa := facts0 ++ glos defs
def tabs : List He.Tab := [(fun K => He.ga K "PLACES", ["knot", "any", "holds", "tie", "way", "unlike"]), (fun K => He.ga K "STEPS", ["knot", "any", "tie", "way", "holds", "unlike", "no"])]
def tf : List He.Defn := [("Web", some "__init__"), ("step_of", none)]
/-! ### what else is looked at -/
def pAd (k : Str) (K : PySem.W.Frag) : Addr := match PySem.W.nsIn K (He.ga K "PLACES") k with
  | some (some (.ref a)) => a
  | _ => 0
def tupAt (K : PySem.W.Frag) (a : Addr) (vs : List V) : Bool := match K.lookup a with
  | some ⟨.type c, _, .seq its _, _⟩ => decide (c = "tuple") && (decide (its.size ≤ sizeLine) && He.relAll vs its.toList)
  | _ => false
def placesL : List (Str × List Int) := [("knot", [1]), ("any", [1]), ("holds", [1]), ("tie", [1, 3]), ("way", [1, 3]), ("unlike", [1, 2])]
def stepsL : List (Str × Str) := [("knot", "by_knots"), ("any", "by_knots"), ("tie", "by_ties"), ("way", "by_ties"), ("holds", "by_looks"), ("unlike", "by_looks"), ("no", "by_looks")]
def aeB (K : PySem.W.Frag) (C : Addr) : Bool := match K.lookup C with
  | some ⟨.type T, _, .cls cd, sl⟩ => decide (T = "type") && (match sl.toList with
    | [_, _, _, _, some (.builtin n), _] => decide (n = "ArithmeticError.__new__") && (decide (cd.mro = .ref C :: aeMro) && (cd.hasDict && !cd.hasDel))
    | _ => false)
  | _ => false
def excB (K : PySem.W.Frag) (D : Addr) : Bool :=
  decide (PySem.W.findIn K (.ref D) "__getattribute__" = some (some (.builtin "BaseException.__getattribute__"))) && (decide (PySem.W.findIn K (.ref D) "__getattr__" = some none) && (decide (PySem.W.subIn K (.ref D) (.type "BaseException") = some true) && (PySem.W.hasDictIn K D &&
  (decide (PySem.W.findIn K (.ref D) "__class__" = some (some (.builtin "object.__class__"))) && (decide (PySem.W.specialIn K (.builtin "object.__class__") "__get__" = some (some (.builtin "getset_descriptor.__get__"))) && (decide (PySem.W.takesIn K (.builtin "object.__class__") = some true) && decide (PySem.W.mroIn K D (.type "object") = some true)))))))
def aiB (K : PySem.W.Frag) : Bool := match PySem.W.findCls K (.type "ArithmeticError") (.type "type") "__init__" with
  | some (.val (.builtin n)) => decide (n = "ArithmeticError.__init__")
  | _ => false
def NPa (K : PySem.W.Frag) : Addr := He.ga K "NoPlan"
def ex (K : PySem.W.Frag) : Bool := He.tupB K "BINDING" [.str "knot", .str "any", .str "tie", .str "way"] && (He.valsB K (He.ga K "PLACES") (placesL.map fun p => (p.1, .adr (pAd p.1))) && ((placesL.all fun p => tupAt K (pAd p.1 K) (p.2.map V.int)) &&
  (He.valsB K (He.ga K "STEPS") (stepsL.map fun p => (p.1, .glo p.2)) && (aeB K (NPa K) && (excB K (NPa K) && (decide (PySem.W.typeIn K (.ref (NPa K)) = some (.type "type")) && (PySem.W.keepIn K (.ref (NPa K)) &&
  (aiB K && (decide (PySem.W.kitOne K (.ref (NPa K)) (.type "ArithmeticError") = some true) && decide ((He.cT K ("Web", some "__init__")).2 ≠ (He.cT K ("step_of", none)).2))))))))))
abbrev Rw : PySem.W.OpenRow := PySem.W.OpenLaw.row PySem.Challenge.rw_websplit_k26_whole_searched_by_any_order
abbrev hk : PySem.W.Hook := He.hookX 5 fa defs tabs tf ex
def ob (s : PySem.W.SharedT) : He.AlX := He.obsX 5 fa defs tabs tf ex (HandSHeadRun.getT s)
theorem ob_eq (s : PySem.W.SharedT) : ob s = hk.obs s.abs := He.obsX_eq (HandSHeadRun.getT_eq s)
def looseA : List PySem.Str := ["NoKnot", "NoTie", "NoPlan", "BINDING", "PLACES", "Web", "STEPS"]
def loose : List PySem.Str := looseA ++ defsA.map (·.name) ++ defsB.map (·.name) ++ (defsC.map (·.name)).dropLast
theorem run_1 (w : World) : HandSHeadRun.RunEq Rw (PySem.W.view Rw.prog [67]) hk ob 20000 loose (w.withFollow "special-get-raises" false) := by intro os; kernel_rfl
theorem run_2 (w : World) : HandSHeadRun.RunEq Rw (PySem.W.view Rw.prog [67]) hk ob 20000 loose (w.withFollow "special-get-raises" true) := by intro os; kernel_rfl
theorem run (w : World) : HandSHeadRun.RunEq Rw (PySem.W.view Rw.prog [67]) hk ob 20000 loose w :=
  PySem.W.byRow2 "special-get-raises" (P := fun w => HandSHeadRun.RunEq Rw (PySem.W.view Rw.prog [67]) hk ob 20000 loose w) run_1 run_2 w
end Ws
/-! WS, part A: data, what stands for them in the heap, the state, weakest readings over data. -/
namespace Ws
open PySem PyProof.Rows PySem.Spec L2

/-! ### data -/
/-- a lambda: its words, the cells that it captured, its code object -/
structure LamI where
  params : Arguments
  body : Expr
  scope : Scope
  cl : List (Str × Addr)
  qual : Str
  c : Addr
/-- the object at f is that lambda -/
def LamO (f : Addr) (L : LamI) : HO := .ext fun h => ∃ (od : Option Addr) (sl : Array (Option Value)) (pm ctv : Value), h.get? f = some (⟨.type "function", od, .func (PySem.W.kla_fn "<lambda>" L.qual L.params L.body L.scope L.cl pm (.ref L.c) ctv), sl⟩ : Obj)
inductive D where
  | non | bl (b : Bool) | int (i : Int) | str (x : Str)
  | lst (xs : List D) | tup (xs : List D) | dic (kvs : List (Key × D)) | ref (a : Addr) | ty (n : String) | lam (L : LamI) | lamC (L : LamI) (fr : List Str) (caps : List D) (h0 : Heap) (H0 : Hp) (fs : List Addr)

mutual
inductive Rep (K : PySem.W.Frag) (F : Hp) : D → V → Prop
  | non : Rep K F .non .non
  | bl (b : Bool) : Rep K F (.bl b) (.bl b)
  | int (i : Int) : Rep K F (.int i) (.int i)
  | str (x : Str) : Rep K F (.str x) (.str x)
  | lst {a : Addr} {vs : List V} {ds : List D} (h : F a = some (.lst vs)) (r : Reps K F ds vs) : Rep K F (.lst ds) (.ref a)
  | tup {a : Addr} {vs : List V} {ds : List D} (h : SqT K F a vs) (r : Reps K F ds vs) : Rep K F (.tup ds) (.ref a)
  | dic {a : Addr} {ps : List (Key × V)} {kvs : List (Key × D)} {od : Obj} (h : F a = some (.frz od (.dK ps))) (r : RepK K F kvs ps) : Rep K F (.dic kvs) (.ref a)
  | ref (a : Addr) : Rep K F (.ref a) (.ref a)
  | ty (n : String) : Rep K F (.ty n) (.ty n)
  | lam {f : Addr} {L : LamI} (h : F f = some (LamO f L)) (hc : F L.c = some (LamX.CodeO L.c L.qual)) : Rep K F (.lam L) (.ref f)
  | lamC {f : Addr} {L : LamI} {fr : List Str} {caps : List D} {ws : List V} {h0 : Heap} {H0 : Hp} {fs : List Addr} (hn : ∀ y c, L.cl.lookup y = some c → c ∉ fs) (h : F f = some (LamO f L)) (hc : F L.c = some (LamX.CodeO L.c L.qual)) (hk : NdefX.CellsAt L.cl fr (ws.map some) h0 H0) (r : Reps K F caps ws) : Rep K F (.lamC L fr caps h0 H0 fs) (.ref f)
inductive Reps (K : PySem.W.Frag) (F : Hp) : List D → List V → Prop
  | nil : Reps K F [] []
  | cons {d : D} {v : V} {ds : List D} {vs : List V} (h : Rep K F d v) (t : Reps K F ds vs) : Reps K F (d :: ds) (v :: vs)
inductive RepK (K : PySem.W.Frag) (F : Hp) : List (Key × D) → List (Key × V) → Prop
  | nil : RepK K F [] []
  | cons {k : Key} {d : D} {v : V} {ds : List (Key × D)} {vs : List (Key × V)} (h : Rep K F d v) (t : RepK K F ds vs) : RepK K F ((k, d) :: ds) ((k, v) :: vs)
end

section
variable {K : PySem.W.Frag} {F F' : Hp}
theorem Same.seqT {H H' : Hp} {a : Addr} {xs : List V} (e : Same H H') (h : SqT K H a xs) : SqT K H' a xs := by
  rcases h with (h | ⟨o, h⟩) | h
  · exact .inl (.inl (e _ _ h))
  · exact .inl (.inr ⟨o, e _ _ h⟩)
  · exact .inr h
mutual
theorem Rep.mono (e : Same F F') : ∀ {d : D} {v : V}, Rep K F d v → Rep K F' d v
  | _, _, .non => .non
  | _, _, .bl b => .bl b
  | _, _, .int i => .int i
  | _, _, .str x => .str x
  | _, _, .lst h r => .lst (e _ _ h) (Reps.mono e r)
  | _, _, .tup h r => .tup (Same.seqT e h) (Reps.mono e r)
  | _, _, .dic h r => .dic (e _ _ h) (RepK.mono e r)
  | _, _, .ref a => .ref a
  | _, _, .ty n => .ty n
  | _, _, .lam h hc => .lam (e _ _ h) (e _ _ hc)
  | _, _, .lamC hn h hc hk r => .lamC hn (e _ _ h) (e _ _ hc) hk (Reps.mono e r)
theorem Reps.mono (e : Same F F') : ∀ {ds : List D} {vs : List V}, Reps K F ds vs → Reps K F' ds vs
  | _, _, .nil => .nil
  | _, _, .cons h t => .cons (Rep.mono e h) (Reps.mono e t)
theorem RepK.mono (e : Same F F') : ∀ {ds : List (Key × D)} {vs : List (Key × V)}, RepK K F ds vs → RepK K F' ds vs
  | _, _, .nil => .nil
  | _, _, .cons h t => .cons (Rep.mono e h) (RepK.mono e t)
end
theorem Reps.length : ∀ {ds : List D} {vs : List V}, Reps K F ds vs → ds.length = vs.length
  | _, _, .nil => rfl
  | _, _, .cons _ t => congrArg Nat.succ t.length
theorem Reps.append : ∀ {ds es : List D} {vs ws : List V}, Reps K F ds vs → Reps K F es ws → Reps K F (ds ++ es) (vs ++ ws)
  | _, _, _, _, .nil, s => s
  | _, _, _, _, .cons h t, s => .cons h (t.append s)
theorem Reps.get : ∀ {ds : List D} {vs : List V} {i : Nat} {d : D}, Reps K F ds vs → ds[i]? = some d → ∃ v, vs[i]? = some v ∧ Rep K F d v
  | _, _, _, _, .nil, e => by simp at e
  | _, _, 0, _, .cons h _, e => by simp at e; subst e; exact ⟨_, rfl, h⟩
  | _, _, i + 1, d, .cons _ t, e => by
    obtain ⟨v, h1, h2⟩ := t.get (i := i) (d := d) (by simpa using e)
    exact ⟨v, by simpa using h1, h2⟩
theorem Reps.get' : ∀ {ds : List D} {vs : List V} {i : Nat} {v : V}, Reps K F ds vs → vs[i]? = some v → ∃ d, ds[i]? = some d ∧ Rep K F d v
  | _, _, _, _, .nil, e => by simp at e
  | _, _, 0, _, .cons h _, e => by simp at e; subst e; exact ⟨_, rfl, h⟩
  | _, _, i + 1, d, .cons _ t, e => by
    obtain ⟨v, h1, h2⟩ := t.get' (i := i) (v := d) (by simpa using e)
    exact ⟨v, by simpa using h1, h2⟩
theorem Reps.take : ∀ {ds : List D} {vs : List V} (n : Nat), Reps K F ds vs → Reps K F (ds.take n) (vs.take n)
  | _, _, 0, _ => .nil
  | _, _, _ + 1, .nil => .nil
  | _, _, n + 1, .cons h t => .cons h (t.take n)
theorem Reps.drop : ∀ {ds : List D} {vs : List V} (n : Nat), Reps K F ds vs → Reps K F (ds.drop n) (vs.drop n)
  | _, _, 0, r => r
  | _, _, _ + 1, .nil => .nil
  | _, _, n + 1, .cons _ t => t.drop n
theorem Reps.set {d : D} {v : V} (r : Rep K F d v) : ∀ {ds : List D} {vs : List V} (i : Nat), Reps K F ds vs → Reps K F (ds.set i d) (vs.set i v)
  | _, _, _, .nil => .nil
  | _, _, 0, .cons _ t => .cons r t
  | _, _, i + 1, .cons q t => .cons q (t.set r i)
theorem Reps.reverse {ds : List D} {vs : List V} (r : Reps K F ds vs) : Reps K F ds.reverse vs.reverse := by
  induction r using Reps.rec (motive_1 := fun _ _ _ => True) (motive_3 := fun _ _ _ => True) with
  | nil => exact .nil
  | cons h t _ ih => rw [List.reverse_cons, List.reverse_cons]; exact ih.append (.cons h .nil)
  | _ => trivial
theorem Reps.eraseIdx : ∀ {ds : List D} {vs : List V} (i : Nat), Reps K F ds vs → Reps K F (ds.eraseIdx i) (vs.eraseIdx i)
  | _, _, _, .nil => .nil
  | _, _, 0, .cons _ t => t
  | _, _, i + 1, .cons q t => .cons q (t.eraseIdx i)
theorem Reps.dropLast {ds : List D} {vs : List V} (r : Reps K F ds vs) : Reps K F ds.dropLast vs.dropLast := by
  rw [List.dropLast_eq_take, List.dropLast_eq_take, r.length]; exact r.take _
theorem Reps.ints : ∀ {ns : List Int} {vs : List V}, Reps K F (ns.map D.int) vs → vs = ns.map V.int
  | [], _, h => by cases h; rfl
  | n :: ns, _, h => by cases h with | cons h t => cases h; rw [t.ints]; rfl
theorem Reps.ofInts : ∀ (ns : List Int), Reps K F (ns.map D.int) (ns.map V.int)
  | [] => .nil
  | n :: ns => .cons (.int n) (Reps.ofInts ns)
theorem Reps.strs : ∀ {ns : List Str} {vs : List V}, Reps K F (ns.map D.str) vs → vs = ns.map V.str
  | [], _, h => by cases h; rfl
  | n :: ns, _, h => by cases h with | cons h t => cases h; rw [t.strs]; rfl
theorem Reps.ofStrs : ∀ (ns : List Str), Reps K F (ns.map D.str) (ns.map V.str)
  | [] => .nil
  | n :: ns => .cons (.str n) (Reps.ofStrs ns)
theorem Reps.bls : ∀ {ns : List Bool} {vs : List V}, Reps K F (ns.map D.bl) vs → vs = ns.map V.bl
  | [], _, h => by cases h; rfl
  | n :: ns, _, h => by cases h with | cons h t => cases h; rw [t.bls]; rfl
theorem RepK.length : ∀ {ds : List (Key × D)} {vs : List (Key × V)}, RepK K F ds vs → ds.length = vs.length
  | _, _, .nil => rfl
  | _, _, .cons _ t => congrArg Nat.succ t.length
theorem RepK.keys : ∀ {ds : List (Key × D)} {vs : List (Key × V)}, RepK K F ds vs → vs.map (·.1) = ds.map (·.1)
  | _, _, .nil => rfl
  | _, _, .cons _ t => by rw [List.map_cons, List.map_cons, t.keys]
end

/-! ### lookups over data -/
def valD (kvs : List (Key × D)) (k : Key) : Option D := (kvs.find? fun kv => decide (kv.1 = k)).map (·.2)
def putD (kvs : List (Key × D)) (k : Key) (v : D) : List (Key × D) :=
  if (kvs.any fun kv => decide (kv.1 = k)) = true then kvs.map fun kv => if kv.1 = k then (kv.1, v) else kv else kvs ++ [(k, v)]
end Ws
/-! WS, part B: the state over data, weakest readings. -/
namespace Ws
open PySem PyProof.Rows PySem.Spec L2

/-! ### what changes -/
inductive MO where
  | ml (xs : List D) | md (kvs : List (Key × D)) | mi (C dx : Addr) (fs : List (Str × D))
abbrev Mu := Addr → Option MO
def mset (μ : Mu) (a : Addr) (o : MO) : Mu := fun b => if b = a then some o else μ b
def mdel (μ : Mu) (a : Addr) : Mu := fun b => if b = a then none else μ b
theorem mset_same {μ : Mu} {a : Addr} {o : MO} : mset μ a o a = some o := if_pos rfl
theorem mset_ne {μ : Mu} {a b : Addr} {o : MO} (h : b ≠ a) : mset μ a o b = μ b := if_neg h
theorem mset_mset {μ : Mu} {a : Addr} {o u : MO} : mset (mset μ a o) a u = mset μ a u := by
  funext b; unfold mset; split <;> rfl
theorem mset_comm {μ : Mu} {a b : Addr} {o u : MO} (h : a ≠ b) : mset (mset μ a o) b u = mset (mset μ b u) a o := by
  funext c; unfold mset; by_cases h1 : c = a
  · subst h1; simp [h]
  · by_cases h2 : c = b
    · subst h2; simp [h1]
    · simp [h1, h2]
theorem mdel_same {μ : Mu} {a : Addr} : mdel μ a a = none := if_pos rfl
theorem mdel_ne {μ : Mu} {a b : Addr} (h : b ≠ a) : mdel μ a b = μ b := if_neg h
theorem mset_self {μ : Mu} {a : Addr} {o : MO} (h : μ a = some o) : mset μ a o = μ := by
  funext b; unfold mset; split
  · rename_i e; rw [e, h]
  · rfl
/-- all of the one stands in the other -/
def MSame (μ ν : Mu) : Prop := ∀ a o, μ a = some o → ν a = some o
theorem MSame.refl (μ : Mu) : MSame μ μ := fun _ _ h => h
theorem MSame.trans {a b c : Mu} (h : MSame a b) (k : MSame b c) : MSame a c := fun x o e => k x o (h x o e)
theorem MSame.new {μ ν : Mu} {a : Addr} {o : MO} (h : MSame μ ν) (n : μ a = none) : MSame μ (mset ν a o) := fun x u e => by
  rw [mset_ne (by rintro rfl; rw [n] at e; cases e)]; exact h x u e
theorem MSame.del {μ ν : Mu} {a : Addr} (h : MSame μ ν) (n : μ a = none) : MSame μ (mdel ν a) := fun x u e => by
  rw [mdel_ne (by rintro rfl; rw [n] at e; cases e)]; exact h x u e
theorem MSame.none {μ ν : Mu} {a : Addr} (h : MSame μ ν) (n : ν a = none) : μ a = none := by
  cases e : μ a with
  | none => rfl
  | some o => rw [h a o e] at n; cases n

inductive RepF (K : PySem.W.Frag) (F : Hp) : List (Str × D) → List (Str × V) → Prop
  | nil : RepF K F [] []
  | cons {k : Str} {d : D} {v : V} {ds : List (Str × D)} {vs : List (Str × V)} (h : Rep K F d v) (t : RepF K F ds vs) : RepF K F ((k, d) :: ds) ((k, v) :: vs)
inductive MRep (K : PySem.W.Frag) (F : Hp) : MO → HO → Prop
  | ml {ds : List D} {vs : List V} (r : Reps K F ds vs) : MRep K F (.ml ds) (.lst vs)
  | md {kvs : List (Key × D)} {ps : List (Key × V)} (r : RepK K F kvs ps) : MRep K F (.md kvs) (.dK ps)
  | mi {C dx : Addr} {fs : List (Str × D)} {gs : List (Str × V)} (r : RepF K F fs gs) : MRep K F (.mi C dx fs) (.ins C dx gs)
section
variable {K : PySem.W.Frag} {F F' : Hp}
theorem RepF.mono (e : Same F F') : ∀ {ds : List (Str × D)} {vs : List (Str × V)}, RepF K F ds vs → RepF K F' ds vs
  | _, _, .nil => .nil
  | _, _, .cons h t => .cons (h.mono e) (RepF.mono e t)
theorem MRep.mono (e : Same F F') {m : MO} {o : HO} (h : MRep K F m o) : MRep K F' m o := by
  cases h with
  | ml r => exact .ml (r.mono e)
  | md r => exact .md (r.mono e)
  | mi r => exact .mi (r.mono e)
theorem MRep.noTbl {m : MO} {o : HO} (h : MRep K F m o) (ps : Array Value) : o ≠ .tbl ps := by
  cases h <;> exact fun z => by cases z
theorem MRep.mut {m : MO} {o : HO} (h : MRep K F m o) : Mut (some o) := by
  cases h <;> trivial
end

/-! ### the state -/
abbrev TabS := List (Addr × Str)
/-- the tables, and what was fixed when the def began -/
structure TabL where
  l : TabS
  lb : Hp
  rb : Hp
def tab0 (l : TabS) : TabL := ⟨l, fun _ => none, fun _ => none⟩
/-- H bears: F (fixed data), what changes by μ, R (of others), the tables -/
structure Hs (K : PySem.W.Frag) (T : TabL) (F : Hp) (μ : Mu) (R H : Hp) : Prop where
  f : ∀ a o, F a = some o → H a = some o
  m : ∀ a o, μ a = some o → ∃ h, H a = some h ∧ MRep K F o h
  r : ∀ a o, R a = some o → H a = some o
  fm : ∀ a, F a = none ∨ μ a = none
  fr : ∀ a, F a = none ∨ R a = none
  mr : ∀ a, μ a = none ∨ R a = none
  tb : LamX.Tabs T.l H
  ntF : ∀ a o, F a = some o → ∀ ps, o ≠ .tbl ps
  ntR : ∀ a o, R a = some o → (∀ ps, o ≠ .tbl ps) ∧ ∀ c q, o ≠ LamX.CodeO c q
  lb : Same T.lb F
  rb : Same T.rb R
section
variable {K : PySem.W.Frag} {T : TabL} {F F' : Hp} {μ : Mu} {R H : Hp} {p a : Addr} {o : HO}
theorem Hs.noF (h : Hs K T F μ R H) (n : H p = none) : F p = none := by
  cases e : F p with
  | none => rfl
  | some u => have q := h.f p u e; rw [n] at q; cases q
theorem Hs.noM (h : Hs K T F μ R H) (n : H p = none) : μ p = none := by
  cases e : μ p with
  | none => rfl
  | some u => obtain ⟨_, q, _⟩ := h.m p u e; rw [n] at q; cases q
theorem Hs.noR (h : Hs K T F μ R H) (n : H p = none) : R p = none := by
  cases e : R p with
  | none => rfl
  | some u => have q := h.r p u e; rw [n] at q; cases q
theorem same_upd {H : Hp} {p : Addr} {o : HO} (n : H p = none) : Same H (upd H p o) := fun b u e => by
  rw [upd_ne (ne_of_none e n)]; exact e
/-- more is tracked -/
theorem Hs.more {H' : Hp} (h : Hs K T F μ R H) (e : Same H H') : Hs K T F μ R H' :=
  ⟨fun a o q => e _ _ (h.f a o q), fun a o q => let ⟨u, z, r⟩ := h.m a o q; ⟨u, e _ _ z, r⟩, fun a o q => e _ _ (h.r a o q), h.fm, h.fr, h.mr, h.tb.ext e, h.ntF, h.ntR, h.lb, h.rb⟩
/-- a new fixed thing -/
theorem Hs.new (h : Hs K T F μ R H) (n : H p = none) (hn : ∀ ps, o ≠ .tbl ps := by intro _ z; cases z) : Hs K T (upd F p o) μ R (upd H p o) where
  f := fun b u q => by
    by_cases hb : b = p
    · subst hb; rw [upd_same] at q; cases q; exact upd_same
    · rw [upd_ne hb] at q; exact same_upd n _ _ (h.f b u q)
  m := fun b u q => let ⟨z, e, r⟩ := h.m b u q; ⟨z, same_upd n _ _ e, r.mono (same_upd (h.noF n))⟩
  r := fun b u q => same_upd n _ _ (h.r b u q)
  fm := fun b => by
    by_cases hb : b = p
    · subst hb; exact .inr (h.noM n)
    · rw [upd_ne hb]; exact h.fm b
  fr := fun b => by
    by_cases hb : b = p
    · subst hb; exact .inr (h.noR n)
    · rw [upd_ne hb]; exact h.fr b
  mr := h.mr
  tb := h.tb.ext (same_upd n)
  ntF := fun b u q => by
    by_cases hb : b = p
    · subst hb; rw [upd_same] at q; cases q; exact hn
    · rw [upd_ne hb] at q; exact h.ntF b u q
  ntR := h.ntR
  lb := h.lb.trans (same_upd (h.noF n))
  rb := h.rb
/-- a new thing that changes -/
theorem Hs.newM {mo : MO} (h : Hs K T F μ R H) (n : H p = none) (r : MRep K F mo o) : Hs K T F (mset μ p mo) R (upd H p o) where
  f := fun b u q => same_upd n _ _ (h.f b u q)
  m := fun b u q => by
    by_cases hb : b = p
    · subst hb; rw [mset_same] at q; cases q; exact ⟨o, upd_same, r⟩
    · rw [mset_ne hb] at q
      obtain ⟨z, e, r⟩ := h.m b u q
      exact ⟨z, same_upd n _ _ e, r⟩
  r := fun b u q => same_upd n _ _ (h.r b u q)
  fm := fun b => by
    by_cases hb : b = p
    · subst hb; exact .inl (h.noF n)
    · rw [mset_ne hb]; exact h.fm b
  fr := h.fr
  mr := fun b => by
    by_cases hb : b = p
    · subst hb; exact .inr (h.noR n)
    · rw [mset_ne hb]; exact h.mr b
  tb := h.tb.ext (same_upd n)
  ntF := h.ntF
  ntR := h.ntR
  lb := h.lb
  rb := h.rb
theorem tabs_upd {T : TabS} {o' : HO} (t : LamX.Tabs T H) (h : H a = some o) (n : ∀ ps, o ≠ .tbl ps) (nc : ∀ c q, o ≠ LamX.CodeO c q) : LamX.Tabs T (upd H a o') := fun p hp => by
  obtain ⟨ps, h1, h2, h3⟩ := t p hp
  have ne : ∀ {b u}, H b = some u → (u ≠ o) → b ≠ a := fun {b u} e z q => by subst q; rw [h] at e; exact z (Option.some.inj e).symm
  refine ⟨ps, by rw [upd_ne (ne h1 (n ps).symm)]; exact h1, h2, fun pos cv hc => ?_⟩
  obtain ⟨c, e1, e2⟩ := h3 pos cv hc
  exact ⟨c, e1, by rw [upd_ne (ne e2 (nc c p.2).symm)]; exact e2⟩
theorem MRep.noCode {mo : MO} (h : MRep K F mo o) (c : Addr) (q : Str) : o ≠ LamX.CodeO c q := by
  cases h <;> (intro z; unfold LamX.CodeO at z; cases z)
/-- a thing that changes is written -/
theorem Hs.write {mo mo' : MO} {o' : HO} (h : Hs K T F μ R H) (n : μ a = some mo) (r : MRep K F mo' o') : Hs K T F (mset μ a mo') R (upd H a o') := by
  have nF : F a = none := (h.fm a).resolve_right (by rw [n]; simp)
  have nR : R a = none := (h.mr a).resolve_left (by rw [n]; simp)
  obtain ⟨u, hu, ru⟩ := h.m a mo n
  refine ⟨fun b v q => ?_, fun b v q => ?_, fun b v q => ?_, fun b => ?_, h.fr, fun b => ?_, ?_, h.ntF, h.ntR, h.lb, h.rb⟩
  · have hb : b ≠ a := by rintro rfl; rw [nF] at q; cases q
    rw [upd_ne hb]; exact h.f b v q
  · by_cases hb : b = a
    · subst hb; rw [mset_same] at q; cases q; exact ⟨o', upd_same, r⟩
    · rw [mset_ne hb] at q
      obtain ⟨z, e, r⟩ := h.m b v q
      exact ⟨z, by rw [upd_ne hb]; exact e, r⟩
  · have hb : b ≠ a := by rintro rfl; rw [nR] at q; cases q
    rw [upd_ne hb]; exact h.r b v q
  · by_cases hb : b = a
    · subst hb; exact .inl nF
    · rw [mset_ne hb]; exact h.fm b
  · by_cases hb : b = a
    · subst hb; exact .inr nR
    · rw [mset_ne hb]; exact h.mr b
  · exact tabs_upd h.tb hu ru.noTbl ru.noCode
/-- what changed is fixed from now on -/
theorem Hs.freeze {mo : MO} (h : Hs K T F μ R H) (n : μ a = some mo) : ∃ o, H a = some o ∧ MRep K F mo o ∧ F a = none ∧ Hs K T (upd F a o) (mdel μ a) R H := by
  have nF : F a = none := (h.fm a).resolve_right (by rw [n]; simp)
  have nR : R a = none := (h.mr a).resolve_left (by rw [n]; simp)
  obtain ⟨u, hu, ru⟩ := h.m a mo n
  refine ⟨u, hu, ru, nF, ⟨fun b v q => ?_, fun b v q => ?_, h.r, fun b => ?_, fun b => ?_, fun b => ?_, h.tb, fun b v q => (by
    by_cases hb : b = a
    · subst hb; rw [upd_same] at q; cases q; exact ru.noTbl
    · rw [upd_ne hb] at q; exact h.ntF b v q), h.ntR, h.lb.trans (same_upd nF), h.rb⟩⟩
  · by_cases hb : b = a
    · subst hb; rw [upd_same] at q; cases q; exact hu
    · rw [upd_ne hb] at q; exact h.f b v q
  · have hb : b ≠ a := by rintro rfl; rw [mdel_same] at q; cases q
    rw [mdel_ne hb] at q
    obtain ⟨z, e, r⟩ := h.m b v q
    exact ⟨z, e, r.mono (same_upd nF)⟩
  · by_cases hb : b = a
    · subst hb; exact .inr mdel_same
    · rw [upd_ne hb, mdel_ne hb]; exact h.fm b
  · by_cases hb : b = a
    · subst hb; exact .inr nR
    · rw [upd_ne hb]; exact h.fr b
  · by_cases hb : b = a
    · subst hb; exact .inl mdel_same
    · rw [mdel_ne hb]; exact h.mr b
/-- the same of a dict: it is locked -/
theorem Hs.freezeD {kvs : List (Key × D)} {ps : List (Key × V)} {od : Obj} (h : Hs K T F μ R H) (n : μ a = some (.md kvs)) (hu : H a = some (.dK ps)) (rr : RepK K F kvs ps) : F a = none ∧ Hs K T (upd F a (.frz od (.dK ps))) (mdel μ a) R (upd H a (.frz od (.dK ps))) := by
  have nF : F a = none := (h.fm a).resolve_right (by rw [n]; simp)
  have nR : R a = none := (h.mr a).resolve_left (by rw [n]; simp)
  refine ⟨nF, ⟨fun b v q => ?_, fun b v q => ?_, fun b v q => ?_, fun b => ?_, fun b => ?_, fun b => ?_, tabs_upd h.tb hu (fun _ z => by cases z) (fun _ _ z => by unfold LamX.CodeO at z; cases z), fun b v q => (by
    by_cases hb : b = a
    · subst hb; rw [upd_same] at q; cases q; exact fun _ z => by cases z
    · rw [upd_ne hb] at q; exact h.ntF b v q), h.ntR, h.lb.trans (same_upd nF), h.rb⟩⟩
  · by_cases hb : b = a
    · subst hb; rw [upd_same] at q ⊢; exact q
    · rw [upd_ne hb] at q ⊢; exact h.f b v q
  · by_cases hb : b = a
    · subst hb; rw [mdel_same] at q; cases q
    rw [mdel_ne hb] at q
    obtain ⟨z, e, r⟩ := h.m b v q
    exact ⟨z, by rw [upd_ne hb]; exact e, r.mono (same_upd nF)⟩
  · have hb : b ≠ a := by rintro rfl; rw [nR] at q; cases q
    rw [upd_ne hb]; exact h.r b v q
  · by_cases hb : b = a
    · subst hb; exact .inr mdel_same
    · rw [upd_ne hb, mdel_ne hb]; exact h.fm b
  · by_cases hb : b = a
    · subst hb; exact .inr nR
    · rw [upd_ne hb]; exact h.fr b
  · by_cases hb : b = a
    · subst hb; exact .inl mdel_same
    · rw [mdel_ne hb]; exact h.mr b
theorem Hs.base (h : Hs K T F μ R H) : Hs K (tab0 T.l) F μ R H := ⟨h.f, h.m, h.r, h.fm, h.fr, h.mr, h.tb, h.ntF, h.ntR, fun _ _ z => (by cases z), fun _ _ z => (by cases z)⟩
theorem Hs.up (h : Hs K (tab0 T.l) F μ R H) (e : Same T.lb F) (e2 : Same T.rb R) : Hs K T F μ R H := ⟨h.f, h.m, h.r, h.fm, h.fr, h.mr, h.tb, h.ntF, h.ntR, e, e2⟩
/-- of the others, less is told -/
theorem Hs.lessR {R0 : Hp} (h : Hs K T F μ R H) (e : Same R0 R) (l : TabS) (hl : T.l = l) : Hs K (tab0 l) F μ R0 H := by
  subst hl
  refine ⟨h.f, h.m, fun a o z => h.r a o (e a o z), h.fm, fun a => ?_, fun a => ?_, h.tb, h.ntF, fun a o z => h.ntR a o (e a o z), fun _ _ z => (by cases z), fun _ _ z => (by cases z)⟩
  · rcases h.fr a with z | z
    · exact .inl z
    · refine .inr ?_
      cases q : R0 a with
      | none => rfl
      | some u => rw [e a u q] at z; cases z
  · rcases h.mr a with z | z
    · exact .inl z
    · refine .inr ?_
      cases q : R0 a with
      | none => rfl
      | some u => rw [e a u q] at z; cases z
/-- fewer changeable things are told -/
theorem Hs.less {ν : Mu} (h : Hs K T F μ R H) (e : MSame ν μ) : Hs K T F ν R H :=
  ⟨h.f, fun a o q => h.m a o (e a o q), h.r, fun a => by
    rcases h.fm a with z | z
    · exact .inl z
    · exact .inr (e.none z), h.fr, fun a => by
    rcases h.mr a with z | z
    · exact .inl (e.none z)
    · exact .inr z, h.tb, h.ntF, h.ntR, h.lb, h.rb⟩
end

section
variable {K : PySem.W.Frag} {T : TabL} {F : Hp} {μ : Mu} {R H : Hp} {a : Addr}
theorem Hs.lstF (h : Hs K T F μ R H) {vs : List V} (e : F a = some (.lst vs)) : H a = some (.lst vs) := h.f _ _ e
theorem Hs.insF (h : Hs K T F μ R H) {C dx : Addr} {fs : List (Str × V)} (e : F a = some (.ins C dx fs)) : H a = some (.ins C dx fs) := h.f _ _ e
theorem Hs.tupF (h : Hs K T F μ R H) {vs : List V} (e : SqT K F a vs) : SqT K H a vs := Same.seqT h.f e
theorem Hs.dicF (h : Hs K T F μ R H) {ps : List (Key × V)} {od : Obj} (e : F a = some (.frz od (.dK ps))) : Rd H a (.dK ps) := .inr ⟨od, h.f _ _ e⟩
theorem Hs.ml (h : Hs K T F μ R H) {ds : List D} (e : μ a = some (.ml ds)) : ∃ vs, H a = some (.lst vs) ∧ Reps K F ds vs := by
  obtain ⟨o, e1, r⟩ := h.m a _ e
  cases r with | ml r => exact ⟨_, e1, r⟩
theorem Hs.md (h : Hs K T F μ R H) {ds : List (Key × D)} (e : μ a = some (.md ds)) : ∃ vs, H a = some (.dK vs) ∧ RepK K F ds vs := by
  obtain ⟨o, e1, r⟩ := h.m a _ e
  cases r with | md r => exact ⟨_, e1, r⟩
theorem Hs.mi (h : Hs K T F μ R H) {C dx : Addr} {ds : List (Str × D)} (e : μ a = some (.mi C dx ds)) : ∃ vs, H a = some (.ins C dx vs) ∧ RepF K F ds vs := by
  obtain ⟨o, e1, r⟩ := h.m a _ e
  cases r with | mi r => exact ⟨_, e1, r⟩
end

abbrev GE := List (Option D)
def EnvR (K : PySem.W.Frag) (F : Hp) (G : GE) (σ : L2.St) : Prop := ∀ (i : Nat) (d : D), G[i]? = some (some d) → ∃ v, σ[i]? = some (some v) ∧ Rep K F d v
theorem EnvR.mono {K : PySem.W.Frag} {F F' : Hp} {G : GE} {σ : L2.St} (h : EnvR K F G σ) (e : Same F F') : EnvR K F' G σ := fun i d q =>
  let ⟨v, a, b⟩ := h i d q; ⟨v, a, b.mono e⟩
theorem EnvR.set {K : PySem.W.Frag} {F : Hp} {G : GE} {σ : L2.St} {i : Nat} {d : D} {v : V} (h : EnvR K F G σ) (hi : i < σ.length) (r : Rep K F d v) : EnvR K F (G.set i (some d)) (σ.set i (some v)) := fun j e q => by
  by_cases hj : i = j
  · subst hj
    by_cases hl : i < G.length
    · rw [List.getElem?_set_self hl] at q; cases q
      exact ⟨v, List.getElem?_set_self hi, r⟩
    · rw [List.getElem?_eq_none (by simpa using hl)] at q; cases q
  · rw [List.getElem?_set_ne hj] at q ⊢; exact h j e q

/-! ### readings without a rule -/
section
variable {X : Cx}
structure wE (X : Cx) (e : Expr) (σ : L2.St) (H : Hp) (Q : VK) : Prop where
  run : ∀ (pins : List (Addr × Obj)) (s : Shared), Inv X pins σ H s → wpAny (model X.prog X.w) X.A (eval e X.env) (EP X pins σ Q) X.xe s
structure wT (X : Cx) (e : Expr) (σ : L2.St) (H : Hp) (Q : Bool → Hp → Prop) : Prop where
  run : ∀ (pins : List (Addr × Obj)) (s : Shared), Inv X pins σ H s → wpAny (model X.prog X.w) X.A (isTrue e X.env (eval e X.env)) (TP X pins σ Q) X.xe s
structure wTw (X : Cx) (e : Expr) (σ : L2.St) (H : Hp) (Q : Bool → Hp → Prop) : Prop where
  run : ∀ (whole : Sem Value) (pins : List (Addr × Obj)) (s : Shared), Inv X pins σ H s → wpAny (model X.prog X.w) X.A (isTrue e X.env whole) (TP X pins σ Q) X.xe s
structure wA (X : Cx) (es : List Expr) (σ : L2.St) (H : Hp) (Q : List V → Hp → Prop) : Prop where
  run : ∀ (pos : Pos) (pins : List (Addr × Obj)) (s : Shared), Inv X pins σ H s → wpAny (model X.prog X.w) X.A (spliced (backTo pos (starEach es X.env))) (AP X pins σ Q) X.xe s
structure wS (X : Cx) (st : Stmt) (D : Ends) (σ : L2.St) (H : Hp) : Prop where
  run : ∀ (pins : List (Addr × Obj)) (s : Shared), Inv X pins σ H s → wpAny (model X.prog X.w) X.A (exec st X.env) (SP X pins D) X.xe s
structure wSs (X : Cx) (st : List Stmt) (D : Ends) (σ : L2.St) (H : Hp) : Prop where
  run : ∀ (pins : List (Addr × Obj)) (s : Shared), Inv X pins σ H s → wpAny (model X.prog X.w) X.A (execs st X.env) (SP X pins D) X.xe s
structure wG (X : Cx) (tg : Expr) (v : V) (σ : L2.St) (H : Hp) (Q : L2.St → Hp → Prop) : Prop where
  run : ∀ (pins : List (Addr × Obj)) (s : Shared) (u : Value), Inv X pins σ H s → RelV v u →
    wpAny (model X.prog X.w) X.A (assign tg X.env u) (fun _ s' => ∃ σ' H', Inv X pins σ' H' s' ∧ Q σ' H') X.xe s
theorem peW (e : Expr) : PE X e (wE X e) := ⟨fun pins s σ H Q I h => h.run pins s I⟩
theorem ptW (e : Expr) : PT X e (wT X e) := ⟨fun pins s σ H Q I h => h.run pins s I⟩
theorem pwW (e : Expr) : PW X e (wTw X e) := ⟨fun whole pins s σ H Q I h => h.run whole pins s I⟩
theorem paW (es : List Expr) : PA X es (wA X es) := ⟨fun pos pins s σ H Q I h => h.run pos pins s I⟩
theorem psW (st : Stmt) : PS X st (wS X st) := ⟨fun pins s σ H D I h => h.run pins s I⟩
theorem pssW (st : List Stmt) : PSs X st (wSs X st) := ⟨fun pins s σ H D I h => h.run pins s I⟩
theorem pgW (tg : Expr) : PG X tg (wG X tg) := ⟨fun pins s σ H v u Q I r h => h.run pins s u I r⟩
theorem wE_of {e : Expr} {t : TE} (p : PE X e t) {σ : L2.St} {H : Hp} {Q : VK} (h : t σ H Q) : wE X e σ H Q := ⟨fun pins s I => p.run pins s σ H Q I h⟩
theorem wT_of {e : Expr} {t : TT} (p : PT X e t) {σ : L2.St} {H : Hp} {Q : Bool → Hp → Prop} (h : t σ H Q) : wT X e σ H Q := ⟨fun pins s I => p.run pins s σ H Q I h⟩
theorem wTw_of {e : Expr} {t : TT} (p : PW X e t) {σ : L2.St} {H : Hp} {Q : Bool → Hp → Prop} (h : t σ H Q) : wTw X e σ H Q := ⟨fun wh pins s I => p.run wh pins s σ H Q I h⟩
theorem wA_of {es : List Expr} {t : TA} (p : PA X es t) {σ : L2.St} {H : Hp} {Q : List V → Hp → Prop} (h : t σ H Q) : wA X es σ H Q := ⟨fun pos pins s I => p.run pos pins s σ H Q I h⟩
theorem wS_of {st : Stmt} {t : TS} (p : PS X st t) {σ : L2.St} {H : Hp} {D : Ends} (h : t D σ H) : wS X st D σ H := ⟨fun pins s I => p.run pins s σ H D I h⟩
theorem wSs_of {st : List Stmt} {t : TS} (p : PSs X st t) {σ : L2.St} {H : Hp} {D : Ends} (h : t D σ H) : wSs X st D σ H := ⟨fun pins s I => p.run pins s σ H D I h⟩
theorem wE_mono {e : Expr} {σ : L2.St} {H : Hp} {Q Q' : VK} (h : wE X e σ H Q) (m : ∀ v H', Q v H' → Q' v H') : wE X e σ H Q' := ⟨fun pins s I =>
  thn (h.run pins s I) fun u s' ⟨v, H', J, r, q⟩ => ⟨v, H', J, r, m v H' q⟩⟩
theorem wT_mono {e : Expr} {σ : L2.St} {H : Hp} {Q Q' : Bool → Hp → Prop} (h : wT X e σ H Q) (m : ∀ v H', Q v H' → Q' v H') : wT X e σ H Q' := ⟨fun pins s I =>
  thn (h.run pins s I) fun u s' ⟨H', J, q⟩ => ⟨H', J, m u H' q⟩⟩
theorem wTw_mono {e : Expr} {σ : L2.St} {H : Hp} {Q Q' : Bool → Hp → Prop} (h : wTw X e σ H Q) (m : ∀ v H', Q v H' → Q' v H') : wTw X e σ H Q' := ⟨fun wh pins s I =>
  thn (h.run wh pins s I) fun u s' ⟨H', J, q⟩ => ⟨H', J, m u H' q⟩⟩
theorem wA_mono {es : List Expr} {σ : L2.St} {H : Hp} {Q Q' : List V → Hp → Prop} (h : wA X es σ H Q) (m : ∀ v H', Q v H' → Q' v H') : wA X es σ H Q' := ⟨fun pos pins s I =>
  thn (h.run pos pins s I) fun u s' ⟨v, H', J, r, q⟩ => ⟨v, H', J, r, m v H' q⟩⟩
theorem wG_mono {tg : Expr} {v : V} {σ : L2.St} {H : Hp} {Q Q' : L2.St → Hp → Prop} (h : wG X tg v σ H Q) (m : ∀ σ' H', Q σ' H' → Q' σ' H') : wG X tg v σ H Q' := ⟨fun pins s u I r =>
  thn (h.run pins s u I r) fun _ s' ⟨σ', H', J, q⟩ => ⟨σ', H', J, m σ' H' q⟩⟩
structure EndsLe (D D' : Ends) : Prop where
  nx : ∀ σ H, D.nx σ H → D'.nx σ H
  rt : ∀ v H, D.rt v H → D'.rt v H
  bk : ∀ σ H, D.bk σ H → D'.bk σ H
  ct : ∀ σ H, D.ct σ H → D'.ct σ H
theorem SP_mono {pins : List (Addr × Obj)} {D D' : Ends} (m : EndsLe D D') {f : Flow} {s' : Shared} (h : SP X pins D f s') : SP X pins D' f s' := by
  cases f with
  | next => obtain ⟨σ', H', J, q⟩ := h; exact ⟨σ', H', J, m.nx _ _ q⟩
  | brk => obtain ⟨σ', H', J, q⟩ := h; exact ⟨σ', H', J, m.bk _ _ q⟩
  | cont => obtain ⟨σ', H', J, q⟩ := h; exact ⟨σ', H', J, m.ct _ _ q⟩
  | ret u => obtain ⟨v, σ', H', J, r, q⟩ := h; exact ⟨v, σ', H', J, r, m.rt _ _ q⟩
theorem wS_mono {st : Stmt} {σ : L2.St} {H : Hp} {D D' : Ends} (h : wS X st D σ H) (m : EndsLe D D') : wS X st D' σ H := ⟨fun pins s I => thn (h.run pins s I) fun f s' q => SP_mono m q⟩
theorem wSs_mono {st : List Stmt} {σ : L2.St} {H : Hp} {D D' : Ends} (h : wSs X st D σ H) (m : EndsLe D D') : wSs X st D' σ H := ⟨fun pins s I => thn (h.run pins s I) fun f s' q => SP_mono m q⟩
end

/-! ### readings over data -/
def Fin (K : PySem.W.Frag) (T : TabL) (F R : Hp) (Q : D → Mu → Prop) : VK := fun v H' => ∃ F' d μ', Hs K T F' μ' R H' ∧ Same F F' ∧ Rep K F' d v ∧ Q d μ'
def FinT (K : PySem.W.Frag) (T : TabL) (F R : Hp) (Q : Bool → Mu → Prop) : Bool → Hp → Prop := fun b H' => ∃ F' μ', Hs K T F' μ' R H' ∧ Same F F' ∧ Q b μ'
def FinA (K : PySem.W.Frag) (T : TabL) (F R : Hp) (Q : List D → Mu → Prop) : List V → Hp → Prop := fun vs H' => ∃ F' ds μ', Hs K T F' μ' R H' ∧ Same F F' ∧ Reps K F' ds vs ∧ Q ds μ'
structure DE where
  nx : GE → Mu → Prop
  rt : D → Mu → Prop
  bk : GE → Mu → Prop := fun _ _ => False
  ct : GE → Mu → Prop := fun _ _ => False
def FinS (K : PySem.W.Frag) (T : TabL) (F R : Hp) (Q : GE → Mu → Prop) : L2.St → Hp → Prop := fun σ' H' => ∃ F' G' μ', Hs K T F' μ' R H' ∧ Same F F' ∧ EnvR K F' G' σ' ∧ Q G' μ'
def endsD (K : PySem.W.Frag) (T : TabL) (F R : Hp) (E : DE) : Ends := ⟨FinS K T F R E.nx, Fin K T F R E.rt, FinS K T F R E.bk, FinS K T F R E.ct⟩

def WE (X : Cx) (T : TabL) (G : GE) (μ : Mu) (e : Expr) (Q : D → Mu → Prop) : Prop := ∀ F R H σ, Hs X.K T F μ R H → EnvR X.K F G σ → wE X e σ H (Fin X.K T F R Q)
def WT (X : Cx) (T : TabL) (G : GE) (μ : Mu) (e : Expr) (Q : Bool → Mu → Prop) : Prop := ∀ F R H σ, Hs X.K T F μ R H → EnvR X.K F G σ → wT X e σ H (FinT X.K T F R Q)
def WTw (X : Cx) (T : TabL) (G : GE) (μ : Mu) (e : Expr) (Q : Bool → Mu → Prop) : Prop := ∀ F R H σ, Hs X.K T F μ R H → EnvR X.K F G σ → wTw X e σ H (FinT X.K T F R Q)
def WA (X : Cx) (T : TabL) (G : GE) (μ : Mu) (es : List Expr) (Q : List D → Mu → Prop) : Prop := ∀ F R H σ, Hs X.K T F μ R H → EnvR X.K F G σ → wA X es σ H (FinA X.K T F R Q)
def WS (X : Cx) (T : TabL) (G : GE) (μ : Mu) (st : Stmt) (E : DE) : Prop := ∀ F R H σ, Hs X.K T F μ R H → EnvR X.K F G σ → wS X st (endsD X.K T F R E) σ H
def WSs (X : Cx) (T : TabL) (G : GE) (μ : Mu) (st : List Stmt) (E : DE) : Prop := ∀ F R H σ, Hs X.K T F μ R H → EnvR X.K F G σ → wSs X st (endsD X.K T F R E) σ H
/-- the slots but vs are as they were -/
def SameOff (vs : List Nat) (σ σ' : L2.St) : Prop := σ'.length = σ.length ∧ ∀ j, j ∉ vs → σ'[j]? = σ[j]?
theorem SameOff.refl (vs : List Nat) (σ : L2.St) : SameOff vs σ σ := ⟨rfl, fun _ _ => rfl⟩
theorem SameOff.trans {vs : List Nat} {σ σ1 σ2 : L2.St} (a : SameOff vs σ σ1) (b : SameOff vs σ1 σ2) : SameOff vs σ σ2 := ⟨b.1.trans a.1, fun j h => (b.2 j h).trans (a.2 j h)⟩
theorem SameOff.set {vs : List Nat} {σ : L2.St} {i : Nat} {x : Option V} (h : i ∈ vs) : SameOff vs σ (σ.set i x) := ⟨List.length_set, fun j hj => List.getElem?_set_ne (fun e => hj (by rw [← e]; exact h))⟩
def WG (X : Cx) (T : TabL) (G : GE) (μ : Mu) (tg : Expr) (vs : List Nat) (d : D) (Q : GE → Mu → Prop) : Prop := ∀ F R H σ v, Hs X.K T F μ R H → EnvR X.K F G σ → Rep X.K F d v → wG X tg v σ H (fun σ' H' => SameOff vs σ σ' ∧ FinS X.K T F R Q σ' H')

section
variable {K : PySem.W.Frag} {T : TabL} {F F' R : Hp}
theorem Fin.back {Q : D → Mu → Prop} (e : Same F F') {v : V} {H : Hp} (h : Fin K T F' R Q v H) : Fin K T F R Q v H := let ⟨A, d, μ, a, b, c, q⟩ := h; ⟨A, d, μ, a, e.trans b, c, q⟩
theorem Fin.up {Q : D → Mu → Prop} {v : V} {H : Hp} (h : Fin K (tab0 T.l) F R Q v H) (e : Same T.lb F) (e2 : Same T.rb R) : Fin K T F R Q v H := let ⟨A, d, μ, a, b, c, q⟩ := h; ⟨A, d, μ, a.up (e.trans b) e2, b, c, q⟩
theorem FinT.back {Q : Bool → Mu → Prop} (e : Same F F') {v : Bool} {H : Hp} (h : FinT K T F' R Q v H) : FinT K T F R Q v H := let ⟨A, μ, a, b, q⟩ := h; ⟨A, μ, a, e.trans b, q⟩
theorem FinA.back {Q : List D → Mu → Prop} (e : Same F F') {v : List V} {H : Hp} (h : FinA K T F' R Q v H) : FinA K T F R Q v H := let ⟨A, d, μ, a, b, c, q⟩ := h; ⟨A, d, μ, a, e.trans b, c, q⟩
theorem FinS.back {Q : GE → Mu → Prop} (e : Same F F') {v : L2.St} {H : Hp} (h : FinS K T F' R Q v H) : FinS K T F R Q v H := let ⟨A, d, μ, a, b, c, q⟩ := h; ⟨A, d, μ, a, e.trans b, c, q⟩
theorem endsD.back {E : DE} (e : Same F F') : EndsLe (endsD K T F' R E) (endsD K T F R E) := ⟨fun _ _ => FinS.back e, fun _ _ => Fin.back e, fun _ _ => FinS.back e, fun _ _ => FinS.back e⟩
theorem Fin.mono {Q Q' : D → Mu → Prop} (m : ∀ d μ, Q d μ → Q' d μ) {v : V} {H : Hp} (h : Fin K T F R Q v H) : Fin K T F R Q' v H := let ⟨A, d, μ, a, b, c, q⟩ := h; ⟨A, d, μ, a, b, c, m _ _ q⟩
theorem FinT.mono {Q Q' : Bool → Mu → Prop} (m : ∀ d μ, Q d μ → Q' d μ) {v : Bool} {H : Hp} (h : FinT K T F R Q v H) : FinT K T F R Q' v H := let ⟨A, μ, a, b, q⟩ := h; ⟨A, μ, a, b, m _ _ q⟩
theorem FinS.mono {Q Q' : GE → Mu → Prop} (m : ∀ d μ, Q d μ → Q' d μ) {v : L2.St} {H : Hp} (h : FinS K T F R Q v H) : FinS K T F R Q' v H := let ⟨A, d, μ, a, b, c, q⟩ := h; ⟨A, d, μ, a, b, c, m _ _ q⟩
end
section
variable {X : Cx} {T : TabL} {G : GE} {μ : Mu}
theorem WE.mono {e : Expr} {Q Q' : D → Mu → Prop} (h : WE X T G μ e Q) (m : ∀ d μ, Q d μ → Q' d μ) : WE X T G μ e Q' := fun F R H σ a b => wE_mono (h F R H σ a b) fun _ _ => Fin.mono m
theorem WT.mono {e : Expr} {Q Q' : Bool → Mu → Prop} (h : WT X T G μ e Q) (m : ∀ d μ, Q d μ → Q' d μ) : WT X T G μ e Q' := fun F R H σ a b => wT_mono (h F R H σ a b) fun _ _ => FinT.mono m
theorem WTw.mono {e : Expr} {Q Q' : Bool → Mu → Prop} (h : WTw X T G μ e Q) (m : ∀ d μ, Q d μ → Q' d μ) : WTw X T G μ e Q' := fun F R H σ a b => wTw_mono (h F R H σ a b) fun _ _ => FinT.mono m
theorem WA.mono {es : List Expr} {Q Q' : List D → Mu → Prop} (h : WA X T G μ es Q) (m : ∀ d μ, Q d μ → Q' d μ) : WA X T G μ es Q' := fun F R H σ a b => wA_mono (h F R H σ a b) fun _ _ ⟨A, d, μ, a, b, c, q⟩ => ⟨A, d, μ, a, b, c, m _ _ q⟩
structure DELe (E E' : DE) : Prop where
  nx : ∀ G μ, E.nx G μ → E'.nx G μ
  rt : ∀ d μ, E.rt d μ → E'.rt d μ
  bk : ∀ G μ, E.bk G μ → E'.bk G μ
  ct : ∀ G μ, E.ct G μ → E'.ct G μ
theorem endsD.mono {K : PySem.W.Frag} {F R : Hp} {E E' : DE} (m : DELe E E') : EndsLe (endsD K T F R E) (endsD K T F R E') := ⟨fun _ _ => FinS.mono m.nx, fun _ _ => Fin.mono m.rt, fun _ _ => FinS.mono m.bk, fun _ _ => FinS.mono m.ct⟩
theorem WS.mono {st : Stmt} {E E' : DE} (h : WS X T G μ st E) (m : DELe E E') : WS X T G μ st E' := fun F R H σ a b => wS_mono (h F R H σ a b) (endsD.mono m)
theorem WSs.mono {st : List Stmt} {E E' : DE} (h : WSs X T G μ st E) (m : DELe E E') : WSs X T G μ st E' := fun F R H σ a b => wSs_mono (h F R H σ a b) (endsD.mono m)

/-- from the layer's rule -/
theorem WE.of {e : Expr} {t : TE} {Q : D → Mu → Prop} (p : PE X e t) (h : ∀ F R H σ, Hs X.K T F μ R H → EnvR X.K F G σ → t σ H (Fin X.K T F R Q)) : WE X T G μ e Q := fun F R H σ a b => wE_of p (h F R H σ a b)
theorem WT.of {e : Expr} {t : TT} {Q : Bool → Mu → Prop} (p : PT X e t) (h : ∀ F R H σ, Hs X.K T F μ R H → EnvR X.K F G σ → t σ H (FinT X.K T F R Q)) : WT X T G μ e Q := fun F R H σ a b => wT_of p (h F R H σ a b)
theorem WTw.of {e : Expr} {t : TT} {Q : Bool → Mu → Prop} (p : PW X e t) (h : ∀ F R H σ, Hs X.K T F μ R H → EnvR X.K F G σ → t σ H (FinT X.K T F R Q)) : WTw X T G μ e Q := fun F R H σ a b => wTw_of p (h F R H σ a b)
theorem WA.of {es : List Expr} {t : TA} {Q : List D → Mu → Prop} (p : PA X es t) (h : ∀ F R H σ, Hs X.K T F μ R H → EnvR X.K F G σ → t σ H (FinA X.K T F R Q)) : WA X T G μ es Q := fun F R H σ a b => wA_of p (h F R H σ a b)
theorem WS.of {st : Stmt} {t : TS} {E : DE} (p : PS X st t) (h : ∀ F R H σ, Hs X.K T F μ R H → EnvR X.K F G σ → t (endsD X.K T F R E) σ H) : WS X T G μ st E := fun F R H σ a b => wS_of p (h F R H σ a b)
theorem WSs.of {st : List Stmt} {t : TS} {E : DE} (p : PSs X st t) (h : ∀ F R H σ, Hs X.K T F μ R H → EnvR X.K F G σ → t (endsD X.K T F R E) σ H) : WSs X T G μ st E := fun F R H σ a b => wSs_of p (h F R H σ a b)

/-- a value at hand -/
theorem fin_now {K : PySem.W.Frag} {F R H : Hp} {Q : D → Mu → Prop} {d : D} {v : V} (hs : Hs K T F μ R H) (r : Rep K F d v) (q : Q d μ) : Fin K T F R Q v H := ⟨F, d, μ, hs, Same.refl _, r, q⟩
/-- a new fixed list, tuple, dict -/
theorem fin_lst {K : PySem.W.Frag} {F R H : Hp} {Q : D → Mu → Prop} {ds : List D} {vs : List V} {p : Addr} (hs : Hs K T F μ R H) (n : H p = none) (r : Reps K F ds vs) (q : Q (.lst ds) μ) : Fin K T F R Q (.ref p) (upd H p (.lst vs)) :=
  ⟨_, .lst ds, μ, hs.new n, same_upd (hs.noF n), .lst upd_same (r.mono (same_upd (hs.noF n))), q⟩
theorem fin_tup {K : PySem.W.Frag} {F R H : Hp} {Q : D → Mu → Prop} {ds : List D} {vs : List V} {p : Addr} (hs : Hs K T F μ R H) (n : H p = none) (r : Reps K F ds vs) (q : Q (.tup ds) μ) : Fin K T F R Q (.ref p) (upd H p (.tup vs)) :=
  ⟨_, .tup ds, μ, hs.new n, same_upd (hs.noF n), .tup (.of upd_same) (r.mono (same_upd (hs.noF n))), q⟩
/-- a new changeable thing -/
theorem fin_new {K : PySem.W.Frag} {F R H : Hp} {Q : D → Mu → Prop} {mo : MO} {o : HO} {p : Addr} (hs : Hs K T F μ R H) (n : H p = none) (r : MRep K F mo o) (q : Q (.ref p) (mset μ p mo)) : Fin K T F R Q (.ref p) (upd H p o) :=
  ⟨F, .ref p, _, hs.newM n r, Same.refl _, .ref p, q⟩
end
end Ws
/-! WS, part C: rules for expressions, tests, statements. -/
namespace Ws
open PySem PyProof.Rows PySem.Spec L2

/-- d is a sequence of ds: a fixed list or tuple, or a list that changes -/
inductive Sq (μ : Mu) : D → List D → Prop
  | lst {ds : List D} : Sq μ (.lst ds) ds
  | tup {ds : List D} : Sq μ (.tup ds) ds
  | ml {a : Addr} {ds : List D} (h : μ a = some (.ml ds)) : Sq μ (.ref a) ds
inductive SqLi (μ : Mu) : D → List D → Prop
  | lst {ds : List D} : SqLi μ (.lst ds) ds
  | ml {a : Addr} {ds : List D} (h : μ a = some (.ml ds)) : SqLi μ (.ref a) ds
theorem SqLi.sq {μ : Mu} {d : D} {ds : List D} (h : SqLi μ d ds) : Sq μ d ds := by
  cases h with
  | lst => exact .lst
  | ml h => exact .ml h
/-- d is a dict of kvs -/
inductive Dc (μ : Mu) : D → List (Key × D) → Prop
  | dic {ds : List (Key × D)} : Dc μ (.dic ds) ds
  | md {a : Addr} {ds : List (Key × D)} (h : μ a = some (.md ds)) : Dc μ (.ref a) ds
section
variable {K : PySem.W.Frag} {T : TabL} {F : Hp} {μ : Mu} {R H : Hp}
theorem Sq.at {d : D} {ds : List D} {v : V} (q : Sq μ d ds) (hs : Hs K T F μ R H) (r : Rep K F d v) : ∃ a vs, v = .ref a ∧ (SqL K H a vs ∨ SqT K H a vs) ∧ Reps K F ds vs := by
  cases q with
  | lst => cases r with | lst h r => exact ⟨_, _, rfl, .inl (.of (hs.lstF h)), r⟩
  | tup => cases r with | tup h r => exact ⟨_, _, rfl, .inr (hs.tupF h), r⟩
  | ml h =>
    cases r
    obtain ⟨vs, e, r⟩ := hs.ml h
    exact ⟨_, vs, rfl, .inl (.of e), r⟩
theorem SqLi.at {d : D} {ds : List D} {v : V} (q : SqLi μ d ds) (hs : Hs K T F μ R H) (r : Rep K F d v) : ∃ a vs, v = .ref a ∧ H a = some (.lst vs) ∧ Reps K F ds vs := by
  cases q with
  | lst => cases r with | lst h r => exact ⟨_, _, rfl, hs.lstF h, r⟩
  | ml h =>
    cases r
    obtain ⟨vs, e, r⟩ := hs.ml h
    exact ⟨_, vs, rfl, e, r⟩
theorem Dc.at {d : D} {ds : List (Key × D)} {v : V} (q : Dc μ d ds) (hs : Hs K T F μ R H) (r : Rep K F d v) : ∃ a ps, v = .ref a ∧ Rd H a (.dK ps) ∧ RepK K F ds ps := by
  cases q with
  | dic => cases r with | dic h r => exact ⟨_, _, rfl, hs.dicF h, r⟩
  | md h =>
    cases r
    obtain ⟨vs, e, r⟩ := hs.md h
    exact ⟨_, vs, rfl, .inl e, r⟩
theorem RepK.val : ∀ {ds : List (Key × D)} {ps : List (Key × V)} (k : Key), RepK K F ds ps → (valD ds k = none ∧ valV ps k = none) ∨ ∃ d v, valD ds k = some d ∧ valV ps k = some v ∧ Rep K F d v
  | _, _, k, .nil => .inl ⟨rfl, rfl⟩
  | (j, d) :: ds, (_, v) :: ps, k, .cons h t => by
    by_cases e : j = k
    · subst e
      exact .inr ⟨d, v, by simp [valD, List.find?_cons], by simp [valV, List.find?_cons], h⟩
    · have e1 : valD ((j, d) :: ds) k = valD ds k := by simp [valD, List.find?_cons, e]
      have e2 : valV ((j, v) :: ps) k = valV ps k := by simp [valV, List.find?_cons, e]
      rw [e1, e2]; exact t.val k
theorem RepK.any : ∀ {ds : List (Key × D)} {ps : List (Key × V)} (k : Key), RepK K F ds ps → (ps.any fun kv => decide (kv.1 = k)) = ds.any fun kv => decide (kv.1 = k)
  | _, _, k, .nil => rfl
  | _, _, k, .cons h t => by rw [List.any_cons, List.any_cons, t.any k]
theorem RepK.repl {d : D} {v : V} (r : Rep K F d v) (k : Key) : ∀ {ds : List (Key × D)} {ps : List (Key × V)}, RepK K F ds ps → RepK K F (ds.map fun kv => if kv.1 = k then (kv.1, d) else kv) (ps.map fun kv => if kv.1 = k then (kv.1, v) else kv)
  | _, _, .nil => .nil
  | (j, _) :: _, _, .cons h t => by
    rw [List.map_cons, List.map_cons]
    by_cases e : j = k
    · rw [if_pos e, if_pos e]; exact .cons r (t.repl r k)
    · rw [if_neg e, if_neg e]; exact .cons h (t.repl r k)
theorem RepK.append : ∀ {ds es : List (Key × D)} {ps qs : List (Key × V)}, RepK K F ds ps → RepK K F es qs → RepK K F (ds ++ es) (ps ++ qs)
  | _, _, _, _, .nil, s => s
  | _, _, _, _, .cons h t, s => .cons h (t.append s)
theorem RepK.put {d : D} {v : V} (r : Rep K F d v) (k : Key) {ds : List (Key × D)} {ps : List (Key × V)} (h : RepK K F ds ps) : RepK K F (putD ds k d) (putK ps k v) := by
  unfold putD putK
  rw [h.any k]
  split
  · exact h.repl r k
  · exact h.append (.cons r .nil)
def kD : Key → D
  | .inl i => .int i
  | .inr x => .str x
theorem rep_key {k : Key} {v : V} (r : Rep K F (kD k) v) : v = kV k := by
  cases k <;> (cases r; rfl)
theorem key_rep (k : Key) : Rep K F (kD k) (kV k) := by
  cases k with
  | inl i => exact .int i
  | inr x => exact .str x
end

section
variable {X : Cx} {T : TabL} {G : GE} {μ : Mu} {pos : Pos} {a b c e : Expr} {es : List Expr} {Q : D → Mu → Prop} {P : Bool → Mu → Prop} {L : List D → Mu → Prop}

/-! ### names, constants -/
theorem we_var (i : Nat) {x : Str} {d : D} (hG : G[i]? = some (some d)) (q : Q d μ) (hN : X.N[i]? = some x := by rfl) (hv : Vis X.env.scope x := by first | exact Or.inl rfl | exact Or.inr (Or.inl rfl) | exact Or.inr (Or.inr rfl))
    (hd : (x == ("__debug__" : Str)) = false := by decide) (hcd : (x == ("__classdict__" : Str)) = false := by decide) : WE X T G μ (.Name x pos) Q :=
  WE.of (pe_var hN hv hd hcd) fun F R H σ hs he => let ⟨v, e, r⟩ := he i d hG; ⟨v, e, fin_now hs r q⟩
theorem we_int {i : Int} {j : Nat} (q : Q (.int i) μ) : WE X T G μ (.Constant (.int i) j pos) Q := WE.of pe_int fun F R H σ hs _ => fin_now hs (.int i) q
theorem we_str {x : Str} {j : Nat} (q : Q (.str x) μ) : WE X T G μ (.Constant (.str x) j pos) Q := WE.of pe_str fun F R H σ hs _ => fin_now hs (.str x) q
theorem we_bl {x : Bool} {j : Nat} (q : Q (.bl x) μ) : WE X T G μ (.Constant (.bool x) j pos) Q := WE.of pe_bl fun F R H σ hs _ => fin_now hs (.bl x) q
theorem we_non {j : Nat} (q : Q .non μ) : WE X T G μ (.Constant .none j pos) Q := WE.of pe_non fun F R H σ hs _ => fin_now hs .non q
theorem we_glob {x : Str} {d : D} {v : V} {u : Value} (hm : X.mg x = some u) (r : RelV v u) (rd : ∀ F, Rep X.K F d v) (q : Q d μ) (hg : Gl X x := by rfl) (hd : (x == ("__debug__" : Str)) = false := by decide) : WE X T G μ (.Name x pos) Q :=
  WE.of (pe_glob hg hm r hd) fun F R H σ hs _ => fin_now hs (rd F) q
theorem we_bltn {x : Str} {n : String} (hm : X.mg x = none) (hv : bootBuiltins x = some (.type n)) (q : ∀ F R H F0, Same F0 F → Hs X.K T F μ R H → Fin X.K T F0 R Q (.ty n) H) (hg : Gl X x := by rfl) (hn : x ≠ "__name__" := by decide) (hd : (x == ("__debug__" : Str)) = false := by decide) : WE X T G μ (.Name x pos) Q :=
  WE.of (pe_bltn hg hm hv (v := .ty n) rfl hn hd) fun F R H σ hs _ => q F R H F (Same.refl _) hs

/-! ### two places -/
theorem we_op {op : Operator} {r : R2} (ho : OpR X (binaryOp op) r) (h : WE X T G μ a fun d1 μ1 => WE X T G μ1 b fun d2 μ2 => ∀ F0 F R H x y, Same F0 F → Hs X.K T F μ2 R H → Rep X.K F d1 x → Rep X.K F d2 y → r x y H (Fin X.K T F0 R Q)) :
    WE X T G μ (.BinOp a op b pos) Q := WE.of (pe_op ho (peW a) (peW b)) fun F R H σ hs he =>
  wE_mono (h F R H σ hs he) fun x H1 ⟨F1, d1, μ1, hs1, s1, r1, h1⟩ => wE_mono (h1 F1 R H1 σ hs1 (he.mono s1)) fun y H2 ⟨F2, d2, μ2, hs2, s2, r2, h2⟩ => h2 F F2 R H2 x y (s1.trans s2) hs2 (r1.mono s2) r2
theorem we_cmp {op : CmpOp} {r : R2} (ho : OpR X (compareOp op) r) (hm : behindInMarks op b = false) (h : WE X T G μ a fun d1 μ1 => WE X T G μ1 b fun d2 μ2 => ∀ F0 F R H x y, Same F0 F → Hs X.K T F μ2 R H → Rep X.K F d1 x → Rep X.K F d2 y → r x y H (Fin X.K T F0 R Q)) :
    WE X T G μ (.Compare a [op] [b] pos) Q := WE.of (pe_cmpR ho (peW a) (peW b) hm) fun F R H σ hs he =>
  wE_mono (h F R H σ hs he) fun x H1 ⟨F1, d1, μ1, hs1, s1, r1, h1⟩ => wE_mono (h1 F1 R H1 σ hs1 (he.mono s1)) fun y H2 ⟨F2, d2, μ2, hs2, s2, r2, h2⟩ => h2 F F2 R H2 x y (s1.trans s2) hs2 (r1.mono s2) r2
/-- a comparison as a test, from its rule as a value -/
theorem finB {K : PySem.W.Frag} {F R : Hp} {z : V} {H : Hp} (h : Fin K T F R (fun d μ => ∃ k, d = .bl k ∧ P k μ) z H) : ∃ k, z = .bl k ∧ FinT K T F R P k H := by
  obtain ⟨F', d, μ', a, b, r, k, rfl, q⟩ := h
  cases r
  exact ⟨k, rfl, F', μ', a, b, q⟩
theorem wt_cmp {op : CmpOp} {r : R2} (ho : OpR X (compareOp op) r) (hm : behindInMarks op b = false) (mono : ∀ x y H Q Q', (∀ z H', Q z H' → Q' z H') → r x y H Q → r x y H Q')
    (h : WE X T G μ a fun d1 μ1 => WE X T G μ1 b fun d2 μ2 => ∀ F0 F R H x y, Same F0 F → Hs X.K T F μ2 R H → Rep X.K F d1 x → Rep X.K F d2 y → r x y H (Fin X.K T F0 R fun d μ => ∃ k, d = .bl k ∧ P k μ)) :
    WT X T G μ (.Compare a [op] [b] pos) P := WT.of (pt_cmpR ho (peW a) (peW b) hm) fun F R H σ hs he =>
  wE_mono (h F R H σ hs he) fun x H1 ⟨F1, d1, μ1, hs1, s1, r1, h1⟩ => wE_mono (h1 F1 R H1 σ hs1 (he.mono s1)) fun y H2 ⟨F2, d2, μ2, hs2, s2, r2, h2⟩ =>
    mono _ _ _ _ _ (fun _ _ => finB) (h2 F F2 R H2 x y (s1.trans s2) hs2 (r1.mono s2) r2)

/-- tests: a value that is a bool -/
theorem wt_val (h : WE X T G μ e fun d μ => ∃ k, d = .bl k ∧ P k μ) (he : ∀ whole, isTrue e X.env whole = (do let v ← whole; standAt e.pos; holding [v] (truthy v)) := by intro _; rfl) : WT X T G μ e P :=
  WT.of (pt_val (peW e) he) fun F R H σ hs hv => wE_mono (h F R H σ hs hv) fun _ _ => finB
theorem wt_w (h : WTw X T G μ e P) : WT X T G μ e P := WT.of (PW.pt (pwW e)) fun F R H σ hs hv => h F R H σ hs hv
theorem wtw_and1 (h : WT X T G μ a P) : WTw X T G μ (.BoolOp .And [a] pos) P := WTw.of (pw_and1 (ptW a)) fun F R H σ hs hv => h F R H σ hs hv
theorem wtw_or1 (h : WT X T G μ a P) : WTw X T G μ (.BoolOp .Or [a] pos) P := WTw.of (pw_or1 (ptW a)) fun F R H σ hs hv => h F R H σ hs hv
theorem wtw_and (h : WT X T G μ a fun k μ1 => if k = true then WTw X T G μ1 (.BoolOp .And (b :: es) pos) P else P false μ1) : WTw X T G μ (.BoolOp .And (a :: b :: es) pos) P :=
  WTw.of (pw_and (ptW a) (pwW _)) fun F R H σ hs hv => wT_mono (h F R H σ hs hv) fun k H1 ⟨F1, μ1, hs1, s1, q⟩ => by
    cases k with
    | true => exact wTw_mono (q F1 R H1 σ hs1 (hv.mono s1)) fun _ _ => FinT.back s1
    | false => exact ⟨F1, μ1, hs1, s1, q⟩
theorem wtw_or (h : WT X T G μ a fun k μ1 => if k = true then P true μ1 else WTw X T G μ1 (.BoolOp .Or (b :: es) pos) P) : WTw X T G μ (.BoolOp .Or (a :: b :: es) pos) P :=
  WTw.of (pw_or (ptW a) (pwW _)) fun F R H σ hs hv => wT_mono (h F R H σ hs hv) fun k H1 ⟨F1, μ1, hs1, s1, q⟩ => by
    cases k with
    | false => exact wTw_mono (q F1 R H1 σ hs1 (hv.mono s1)) fun _ _ => FinT.back s1
    | true => exact ⟨F1, μ1, hs1, s1, q⟩
theorem wt_not (h : WT X T G μ a fun k μ1 => P (!k) μ1) : WT X T G μ (.UnaryOp .Not a pos) P := WT.of (pt_not (ptW a)) fun F R H σ hs hv => wT_mono (h F R H σ hs hv) fun k H1 ⟨F1, μ1, hs1, s1, q⟩ => ⟨F1, μ1, hs1, s1, q⟩
/-- .. as values -/
theorem we_one {op : PySem.BoolOp} (h : WE X T G μ a Q) : WE X T G μ (.BoolOp op [a] pos) Q := WE.of (pe_one (peW a)) fun F R H σ hs hv => h F R H σ hs hv
theorem we_and (h : WE X T G μ a fun d μ1 => ∃ k, d = .bl k ∧ if k = true then WE X T G μ1 (.BoolOp .And (b :: es) pos) Q else Q (.bl false) μ1) : WE X T G μ (.BoolOp .And (a :: b :: es) pos) Q :=
  WE.of (pe_and (peW a) (peW _)) fun F R H σ hs hv => wE_mono (h F R H σ hs hv) fun v H1 ⟨F1, d, μ1, hs1, s1, r, k, e, q⟩ => by
    subst e
    cases r
    refine ⟨k, rfl, ?_⟩
    cases k with
    | true => exact wE_mono (q F1 R H1 σ hs1 (hv.mono s1)) fun _ _ => Fin.back s1
    | false => exact ⟨F1, .bl false, μ1, hs1, s1, .bl false, q⟩
theorem we_or (h : WE X T G μ a fun d μ1 => ∃ k, d = .bl k ∧ if k = true then Q (.bl true) μ1 else WE X T G μ1 (.BoolOp .Or (b :: es) pos) Q) : WE X T G μ (.BoolOp .Or (a :: b :: es) pos) Q :=
  WE.of (pe_or (peW a) (peW _)) fun F R H σ hs hv => wE_mono (h F R H σ hs hv) fun v H1 ⟨F1, d, μ1, hs1, s1, r, k, e, q⟩ => by
    subst e
    cases r
    refine ⟨k, rfl, ?_⟩
    cases k with
    | false => exact wE_mono (q F1 R H1 σ hs1 (hv.mono s1)) fun _ _ => Fin.back s1
    | true => exact ⟨F1, .bl true, μ1, hs1, s1, .bl true, q⟩
theorem we_not (h : WE X T G μ a fun d μ1 => ∃ k, d = .bl k ∧ Q (.bl (!k)) μ1) : WE X T G μ (.UnaryOp .Not a pos) Q :=
  WE.of (pe_not (peW a)) fun F R H σ hs hv => wE_mono (h F R H σ hs hv) fun v H1 ⟨F1, d, μ1, hs1, s1, r, k, e, q⟩ => by
    subst e
    cases r
    exact ⟨k, rfl, F1, .bl (!k), μ1, hs1, s1, .bl _, q⟩
theorem we_if (h : WT X T G μ c fun k μ1 => if k = true then WE X T G μ1 a Q else WE X T G μ1 b Q) : WE X T G μ (.IfExp c a b pos) Q :=
  WE.of (pe_ifExp (ptW c) (peW a) (peW b)) fun F R H σ hs hv => wT_mono (h F R H σ hs hv) fun k H1 ⟨F1, μ1, hs1, s1, q⟩ => by
    cases k with
    | true => exact wE_mono (q F1 R H1 σ hs1 (hv.mono s1)) fun _ _ => Fin.back s1
    | false => exact wE_mono (q F1 R H1 σ hs1 (hv.mono s1)) fun _ _ => Fin.back s1

/-! ### ints -/
theorem we_add (h : WE X T G μ a fun d1 μ1 => WE X T G μ1 b fun d2 μ2 => ∃ i j, d1 = .int i ∧ d2 = .int j ∧ Q (.int (i + j)) μ2) : WE X T G μ (.BinOp a .Add b pos) Q :=
  we_op op_add (h.mono fun d1 μ1 h1 => h1.mono fun d2 μ2 ⟨i, j, e1, e2, q⟩ F0 F R H x y s hs r1 r2 => by
    subst e1 e2; cases r1; cases r2; exact ⟨i, j, rfl, rfl, (fin_now hs (.int _) q).back s⟩)
theorem we_sub (h : WE X T G μ a fun d1 μ1 => WE X T G μ1 b fun d2 μ2 => ∃ i j, d1 = .int i ∧ d2 = .int j ∧ Q (.int (i - j)) μ2) : WE X T G μ (.BinOp a .Sub b pos) Q :=
  we_op op_sub (h.mono fun d1 μ1 h1 => h1.mono fun d2 μ2 ⟨i, j, e1, e2, q⟩ F0 F R H x y s hs r1 r2 => by
    subst e1 e2; cases r1; cases r2; exact ⟨i, j, rfl, rfl, (fin_now hs (.int _) q).back s⟩)
theorem we_mul (h : WE X T G μ a fun d1 μ1 => WE X T G μ1 b fun d2 μ2 => ∃ i j, d1 = .int i ∧ d2 = .int j ∧ CMul i j ∧ Q (.int (i * j)) μ2) : WE X T G μ (.BinOp a .Mult b pos) Q :=
  we_op op_mul (h.mono fun d1 μ1 h1 => h1.mono fun d2 μ2 ⟨i, j, e1, e2, z, q⟩ F0 F R H x y s hs r1 r2 => by
    subst e1 e2; cases r1; cases r2; exact ⟨i, j, rfl, rfl, z, (fin_now hs (.int _) q).back s⟩)
theorem we_mod (h : WE X T G μ a fun d1 μ1 => WE X T G μ1 b fun d2 μ2 => ∃ i j, d1 = .int i ∧ d2 = .int j ∧ 0 < j ∧ Q (.int (i % j)) μ2) : WE X T G μ (.BinOp a .Mod b pos) Q :=
  we_op op_mod (h.mono fun d1 μ1 h1 => h1.mono fun d2 μ2 ⟨i, j, e1, e2, z, q⟩ F0 F R H x y s hs r1 r2 => by
    subst e1 e2; cases r1; cases r2; exact ⟨i, j, rfl, rfl, z, (fin_now hs (.int _) q).back s⟩)
theorem we_fdiv (h : WE X T G μ a fun d1 μ1 => WE X T G μ1 b fun d2 μ2 => ∃ i j, d1 = .int i ∧ d2 = .int j ∧ CDiv i j ∧ Q (.int (i / j)) μ2) : WE X T G μ (.BinOp a .FloorDiv b pos) Q :=
  we_op op_fdiv (h.mono fun d1 μ1 h1 => h1.mono fun d2 μ2 ⟨i, j, e1, e2, z, q⟩ F0 F R H x y s hs r1 r2 => by
    subst e1 e2; cases r1; cases r2; exact ⟨i, j, rfl, rfl, z, (fin_now hs (.int _) q).back s⟩)
theorem we_pow (h : WE X T G μ a fun d1 μ1 => WE X T G μ1 b fun d2 μ2 => ∃ i j, d1 = .int i ∧ d2 = .int j ∧ CPow i j ∧ Q (.int (i ^ j.toNat)) μ2) : WE X T G μ (.BinOp a .Pow b pos) Q :=
  we_op op_pow (h.mono fun d1 μ1 h1 => h1.mono fun d2 μ2 ⟨i, j, e1, e2, z, q⟩ F0 F R H x y s hs r1 r2 => by
    subst e1 e2; cases r1; cases r2; exact ⟨i, j, rfl, rfl, z, (fin_now hs (.int _) q).back s⟩)
theorem we_neg (h : WE X T G μ a fun d1 μ1 => ∃ i, d1 = .int i ∧ Q (.int (-i)) μ1) : WE X T G μ (.UnaryOp .USub a pos) Q :=
  WE.of (pe_un un_neg (peW a)) fun F R H σ hs hv => wE_mono (h F R H σ hs hv) fun v H1 ⟨F1, d, μ1, hs1, s1, r, i, e, q⟩ => by
    subst e; cases r; exact ⟨i, rfl, F1, _, μ1, hs1, s1, .int _, q⟩
/-! ### comparisons of ints -/
theorem rI0_mono {g : Int → Int → V} : ∀ (x y : V) (H : Hp) (Q Q' : VK), (∀ z H', Q z H' → Q' z H') → rI0 g x y H Q → rI0 g x y H Q' := fun _ _ _ _ _ m ⟨i, j, a, b, q⟩ => ⟨i, j, a, b, m _ _ q⟩
theorem we_cI {op : CmpOp} {g : Int → Int → Bool} (ho : OpR X (compareOp op) (rI0 fun i j => .bl (g i j))) (hm : behindInMarks op b = false) (h : WE X T G μ a fun d1 μ1 => WE X T G μ1 b fun d2 μ2 => ∃ i j, d1 = .int i ∧ d2 = .int j ∧ Q (.bl (g i j)) μ2) :
    WE X T G μ (.Compare a [op] [b] pos) Q := we_cmp ho hm (h.mono fun d1 μ1 h1 => h1.mono fun d2 μ2 ⟨i, j, e1, e2, q⟩ F0 F R H x y s hs r1 r2 => by
    subst e1 e2; cases r1; cases r2; exact ⟨i, j, rfl, rfl, (fin_now hs (.bl _) q).back s⟩)
theorem wt_cI {op : CmpOp} {g : Int → Int → Bool} (ho : OpR X (compareOp op) (rI0 fun i j => .bl (g i j))) (hm : behindInMarks op b = false) (h : WE X T G μ a fun d1 μ1 => WE X T G μ1 b fun d2 μ2 => ∃ i j, d1 = .int i ∧ d2 = .int j ∧ P (g i j) μ2) :
    WT X T G μ (.Compare a [op] [b] pos) P := wt_cmp ho hm rI0_mono (h.mono fun d1 μ1 h1 => h1.mono fun d2 μ2 ⟨i, j, e1, e2, q⟩ F0 F R H x y s hs r1 r2 => by
    subst e1 e2; cases r1; cases r2; exact ⟨i, j, rfl, rfl, (fin_now (Q := fun d μ => ∃ k, d = D.bl k ∧ P k μ) hs (.bl _) ⟨_, rfl, q⟩).back s⟩)
theorem wt_lt (h : WE X T G μ a fun d1 μ1 => WE X T G μ1 b fun d2 μ2 => ∃ i j, d1 = .int i ∧ d2 = .int j ∧ P (decide (i < j)) μ2) : WT X T G μ (.Compare a [.Lt] [b] pos) P := wt_cI (g := fun i j => decide (i < j)) op_lt (nomark _) h
theorem wt_le (h : WE X T G μ a fun d1 μ1 => WE X T G μ1 b fun d2 μ2 => ∃ i j, d1 = .int i ∧ d2 = .int j ∧ P (decide (i ≤ j)) μ2) : WT X T G μ (.Compare a [.LtE] [b] pos) P := wt_cI (g := fun i j => decide (i ≤ j)) op_le (nomark _) h
theorem wt_gt (h : WE X T G μ a fun d1 μ1 => WE X T G μ1 b fun d2 μ2 => ∃ i j, d1 = .int i ∧ d2 = .int j ∧ P (decide (j < i)) μ2) : WT X T G μ (.Compare a [.Gt] [b] pos) P := wt_cI (g := fun i j => decide (j < i)) op_gt (nomark _) h
theorem wt_ge (h : WE X T G μ a fun d1 μ1 => WE X T G μ1 b fun d2 μ2 => ∃ i j, d1 = .int i ∧ d2 = .int j ∧ P (decide (j ≤ i)) μ2) : WT X T G μ (.Compare a [.GtE] [b] pos) P := wt_cI (g := fun i j => decide (j ≤ i)) op_ge (nomark _) h
theorem we_ltI (h : WE X T G μ a fun d1 μ1 => WE X T G μ1 b fun d2 μ2 => ∃ i j, d1 = .int i ∧ d2 = .int j ∧ Q (.bl (decide (i < j))) μ2) : WE X T G μ (.Compare a [.Lt] [b] pos) Q := we_cI (g := fun i j => decide (i < j)) op_lt (nomark _) h
theorem we_gtI (h : WE X T G μ a fun d1 μ1 => WE X T G μ1 b fun d2 μ2 => ∃ i j, d1 = .int i ∧ d2 = .int j ∧ Q (.bl (decide (j < i))) μ2) : WE X T G μ (.Compare a [.Gt] [b] pos) Q := we_cI (g := fun i j => decide (j < i)) op_gt (nomark _) h
/-! ### == of flat things -/
def fl : D → Option V
  | .non => some .non | .bl b => some (.bl b) | .int i => some (.int i) | .str x => some (.str x) | _ => none
theorem fl_rep {K : PySem.W.Frag} {F : Hp} {d : D} {v x : V} (h : fl d = some x) (r : Rep K F d v) : v = x := by
  cases d <;> (try (simp only [fl, Option.some.injEq, reduceCtorEq] at h)) <;> (subst h; cases r; rfl)
def scalD (d e : D) : Option Bool := match fl d, fl e with
  | some x, some y => if scal x y = true then some (decide (x = y)) else none
  | _, _ => none
theorem scalD_of {d e : D} {k : Bool} (h : scalD d e = some k) : ∃ x y, fl d = some x ∧ fl e = some y ∧ scal x y = true ∧ k = decide (x = y) := by
  unfold scalD at h
  split at h
  · rename_i x y h1 h2
    split at h
    · rename_i h3; cases h; exact ⟨x, y, h1, h2, h3, rfl⟩
    · cases h
  · cases h
theorem rEq_mono : ∀ (x y : V) (H : Hp) (Q Q' : VK), (∀ z H', Q z H' → Q' z H') → rEq x y H Q → rEq x y H Q' := fun _ _ _ _ _ m ⟨a, q⟩ => ⟨a, m _ _ q⟩
theorem rNe_mono : ∀ (x y : V) (H : Hp) (Q Q' : VK), (∀ z H', Q z H' → Q' z H') → rNe x y H Q → rNe x y H Q' := fun _ _ _ _ _ m ⟨a, q⟩ => ⟨a, m _ _ q⟩
theorem we_eq (h : WE X T G μ a fun d1 μ1 => WE X T G μ1 b fun d2 μ2 => ∃ k, scalD d1 d2 = some k ∧ Q (.bl k) μ2) : WE X T G μ (.Compare a [.Eq] [b] pos) Q :=
  we_cmp op_eq (nomark _) (h.mono fun d1 μ1 h1 => h1.mono fun d2 μ2 ⟨k, e, q⟩ F0 F R H x y s hs r1 r2 => by
    obtain ⟨v, w, e1, e2, e3, rfl⟩ := scalD_of e
    cases fl_rep e1 r1; cases fl_rep e2 r2
    exact ⟨e3, (fin_now hs (.bl _) q).back s⟩)
theorem we_ne (h : WE X T G μ a fun d1 μ1 => WE X T G μ1 b fun d2 μ2 => ∃ k, scalD d1 d2 = some k ∧ Q (.bl (!k)) μ2) : WE X T G μ (.Compare a [.NotEq] [b] pos) Q :=
  we_cmp op_ne (nomark _) (h.mono fun d1 μ1 h1 => h1.mono fun d2 μ2 ⟨k, e, q⟩ F0 F R H x y s hs r1 r2 => by
    obtain ⟨v, w, e1, e2, e3, rfl⟩ := scalD_of e
    cases fl_rep e1 r1; cases fl_rep e2 r2
    exact ⟨e3, (fin_now hs (.bl _) q).back s⟩)
theorem wt_eq (h : WE X T G μ a fun d1 μ1 => WE X T G μ1 b fun d2 μ2 => ∃ k, scalD d1 d2 = some k ∧ P k μ2) : WT X T G μ (.Compare a [.Eq] [b] pos) P :=
  wt_cmp op_eq (nomark _) rEq_mono (h.mono fun d1 μ1 h1 => h1.mono fun d2 μ2 ⟨k, e, q⟩ F0 F R H x y s hs r1 r2 => by
    obtain ⟨v, w, e1, e2, e3, rfl⟩ := scalD_of e
    cases fl_rep e1 r1; cases fl_rep e2 r2
    exact ⟨e3, (fin_now (Q := fun d μ => ∃ k, d = D.bl k ∧ P k μ) hs (.bl _) ⟨_, rfl, q⟩).back s⟩)
theorem wt_ne (h : WE X T G μ a fun d1 μ1 => WE X T G μ1 b fun d2 μ2 => ∃ k, scalD d1 d2 = some k ∧ P (!k) μ2) : WT X T G μ (.Compare a [.NotEq] [b] pos) P :=
  wt_cmp op_ne (nomark _) rNe_mono (h.mono fun d1 μ1 h1 => h1.mono fun d2 μ2 ⟨k, e, q⟩ F0 F R H x y s hs r1 r2 => by
    obtain ⟨v, w, e1, e2, e3, rfl⟩ := scalD_of e
    cases fl_rep e1 r1; cases fl_rep e2 r2
    exact ⟨e3, (fin_now (Q := fun d μ => ∃ k, d = D.bl k ∧ P k μ) hs (.bl _) ⟨_, rfl, q⟩).back s⟩)
theorem scal_int {i j : Int} : scalD (.int i) (.int j) = some (decide (i = j)) := by
  show (if scal (V.int i) (V.int j) = true then some (decide (V.int i = V.int j)) else none) = _
  rw [if_pos (show scal (V.int i) (V.int j) = true from rfl)]; simp
theorem scal_str {i j : Str} : scalD (.str i) (.str j) = some (decide (i = j)) := by
  show (if scal (V.str i) (V.str j) = true then some (decide (V.str i = V.str j)) else none) = _
  rw [if_pos (show scal (V.str i) (V.str j) = true from rfl)]; simp
theorem scal_bl {i j : Bool} : scalD (.bl i) (.bl j) = some (decide (i = j)) := by
  show (if scal (V.bl i) (V.bl j) = true then some (decide (V.bl i = V.bl j)) else none) = _
  rw [if_pos (show scal (V.bl i) (V.bl j) = true from rfl)]; simp
/-! ### is None -/
theorem wt_isN {j : Nat} {pos' : Pos} (h : WE X T G μ a fun d μ1 => ∃ k, (d = .non → k = true) ∧ (d ≠ .non → k = false) ∧ P k μ1) : WT X T G μ (.Compare a [.Is] [.Constant .none j pos'] pos) P :=
  wt_cmp op_isN (nomark _) (fun _ _ _ _ _ m ⟨u, q⟩ => ⟨u, m _ _ q⟩) (h.mono fun d1 μ1 ⟨k, h1, h2, q⟩ => we_non fun F0 F R H x y s hs r1 r2 => by
    cases r2
    have e : decide (x = .non) = k := by
      by_cases z : d1 = .non
      · subst z; cases r1; rw [h1 rfl]; rfl
      · rw [h2 z]
        refine decide_eq_false fun q => ?_
        subst q; cases r1; exact z rfl
    refine ⟨rfl, ?_⟩
    rw [e]
    exact (fin_now (Q := fun d μ => ∃ k, d = D.bl k ∧ P k μ) hs (.bl _) ⟨_, rfl, q⟩).back s)
theorem wt_notN {j : Nat} {pos' : Pos} (h : WE X T G μ a fun d μ1 => ∃ k, (d = .non → k = true) ∧ (d ≠ .non → k = false) ∧ P (!k) μ1) : WT X T G μ (.Compare a [.IsNot] [.Constant .none j pos'] pos) P :=
  wt_cmp op_notN (nomark _) (fun _ _ _ _ _ m ⟨u, q⟩ => ⟨u, m _ _ q⟩) (h.mono fun d1 μ1 ⟨k, h1, h2, q⟩ => we_non fun F0 F R H x y s hs r1 r2 => by
    cases r2
    have e : decide (x = .non) = k := by
      by_cases z : d1 = .non
      · subst z; cases r1; rw [h1 rfl]; rfl
      · rw [h2 z]
        refine decide_eq_false fun q => ?_
        subst q; cases r1; exact z rfl
    refine ⟨rfl, ?_⟩
    rw [e]
    exact (fin_now (Q := fun d μ => ∃ k, d = D.bl k ∧ P k μ) hs (.bl _) ⟨_, rfl, q⟩).back s)

/-! ### arguments, displays -/
theorem wa_nil (q : L [] μ) : WA X T G μ [] L := WA.of pa_nil fun F R H σ hs _ => ⟨F, [], μ, hs, Same.refl _, .nil, q⟩
theorem wa_cons (h : WE X T G μ e fun d μ1 => WA X T G μ1 es fun ds μ2 => L (d :: ds) μ2) (hs : starEach (e :: es) X.env = (false, eval e X.env) :: starEach es X.env := by rfl) : WA X T G μ (e :: es) L :=
  WA.of (pa_cons (peW e) (paW es) hs) fun F R H σ hs he => wE_mono (h F R H σ hs he) fun v H1 ⟨F1, d, μ1, hs1, s1, r1, h1⟩ => wA_mono (h1 F1 R H1 σ hs1 (he.mono s1)) fun vs H2 ⟨F2, ds, μ2, hs2, s2, r2, q⟩ =>
    ⟨F2, d :: ds, μ2, hs2, s1.trans s2, .cons (r1.mono s2) r2, q⟩
theorem we_tup {k : Nat} (h : WA X T G μ es fun ds μ1 => ds.length ≤ sizeLine ∧ Q (.tup ds) μ1) : WE X T G μ (.Tuple es k pos) Q :=
  WE.of (pe_tup (paW es)) fun F R H σ hs he => wA_mono (h F R H σ hs he) fun vs H1 ⟨F1, ds, μ1, hs1, s1, r1, z, q⟩ => ⟨by rw [← r1.length]; exact z, fun p n => (fin_tup hs1 n r1 q).back s1⟩
/-- a list that stays as it is -/
theorem we_lst (h : WA X T G μ es fun ds μ1 => ds.length ≤ sizeLine ∧ Q (.lst ds) μ1) : WE X T G μ (.List es pos) Q :=
  WE.of (pe_lst (paW es)) fun F R H σ hs he => wA_mono (h F R H σ hs he) fun vs H1 ⟨F1, ds, μ1, hs1, s1, r1, z, q⟩ => ⟨by rw [← r1.length]; exact z, fun p n => (fin_lst hs1 n r1 q).back s1⟩
/-- a list that will change -/
theorem we_lstM (h : WA X T G μ es fun ds μ1 => ds.length ≤ sizeLine ∧ ∀ p, μ1 p = none → Q (.ref p) (mset μ1 p (.ml ds))) : WE X T G μ (.List es pos) Q :=
  WE.of (pe_lst (paW es)) fun F R H σ hs he => wA_mono (h F R H σ hs he) fun vs H1 ⟨F1, ds, μ1, hs1, s1, r1, z, q⟩ => ⟨by rw [← r1.length]; exact z, fun p n => (fin_new hs1 n (.ml r1) (q p (hs1.noM n))).back s1⟩
theorem we_dict0M (q : ∀ p, μ p = none → Q (.ref p) (mset μ p (.md []))) : WE X T G μ (.Dict [] [] pos) Q := WE.of pe_dnewK fun F R H σ hs _ p n => fin_new hs n (.md .nil) (q p (hs.noM n))

/-! ### subscripts -/
theorem we_ix (h : WE X T G μ a fun d1 μ1 => WE X T G μ1 b fun d2 μ2 => ∃ ds i d, Sq μ2 d1 ds ∧ d2 = .int i ∧ atI ds i = some d ∧ Q d μ2) (hp : PlainIx b := by exact fun _ _ => rfl) : WE X T G μ (.Subscript a b pos) Q :=
  WE.of (pe_ix ix_seq (peW a) (peW b) hp) fun F R H σ hs he => wE_mono (h F R H σ hs he) fun x H1 ⟨F1, d1, μ1, hs1, s1, r1, h1⟩ => wE_mono (h1 F1 R H1 σ hs1 (he.mono s1)) fun y H2 ⟨F2, d2, μ2, hs2, s2, r2, ds, i, d, sq, e, q1, q2⟩ => by
    subst e; cases r2
    obtain ⟨p, vs, rfl, hq, rr⟩ := sq.at hs2 (r1.mono s2)
    obtain ⟨v, e1, e2⟩ : ∃ v, atI vs i = some v ∧ Rep X.K F2 d v := by
      unfold atI at q1 ⊢
      rw [← rr.length]
      cases z : ixN ds.length i with
      | none => rw [z] at q1; cases q1
      | some j => rw [z] at q1; exact rr.get q1
    have fin := (fin_now hs2 e2 q2).back (s1.trans s2)
    rcases hq with hq | hq
    · exact .inl ⟨p, vs, i, v, rfl, rfl, hq, e1, fin⟩
    · exact .inr (.inl ⟨p, vs, i, v, rfl, rfl, hq, e1, fin⟩)
theorem we_ixS (h : WE X T G μ a fun d1 μ1 => WE X T G μ1 b fun d2 μ2 => ∃ z i c, d1 = .str z ∧ d2 = .int i ∧ z.length ≤ sizeLine ∧ atI z.cps.toList i = some c ∧ Q (.str ⟨#[c]⟩) μ2) (hp : PlainIx b := by exact fun _ _ => rfl) : WE X T G μ (.Subscript a b pos) Q :=
  WE.of (pe_ix ix_str (peW a) (peW b) hp) fun F R H σ hs he => wE_mono (h F R H σ hs he) fun x H1 ⟨F1, d1, μ1, hs1, s1, r1, h1⟩ => wE_mono (h1 F1 R H1 σ hs1 (he.mono s1)) fun y H2 ⟨F2, d2, μ2, hs2, s2, r2, z, i, c, e0, e, q1, q2, q3⟩ => by
    subst e0 e; cases r1; cases r2
    exact ⟨z, i, c, rfl, rfl, q1, q2, (fin_now hs2 (.str _) q3).back (s1.trans s2)⟩
theorem we_dget (hu : X.A.units + 1 < cLine) (h : WE X T G μ a fun d1 μ1 => WE X T G μ1 b fun d2 μ2 => ∃ kvs k d, Dc μ2 d1 kvs ∧ d2 = kD k ∧ valD kvs k = some d ∧ Q d μ2) (hp : NoSl b := by exact fun _ _ => rfl) : WE X T G μ (.Subscript a b pos) Q :=
  WE.of (pe_dget hu (peW a) (peW b) hp) fun F R H σ hs he => wE_mono (h F R H σ hs he) fun x H1 ⟨F1, d1, μ1, hs1, s1, r1, h1⟩ => wE_mono (h1 F1 R H1 σ hs1 (he.mono s1)) fun y H2 ⟨F2, d2, μ2, hs2, s2, r2, kvs, k, d, dc, e, q1, q2⟩ => by
    subst e
    obtain ⟨p, ps, rfl, hq, rr⟩ := dc.at hs2 (r1.mono s2)
    cases rep_key r2
    rcases rr.val k with ⟨z, _⟩ | ⟨d', v, z1, z2, z3⟩
    · rw [z] at q1; cases q1
    · rw [z1] at q1; cases q1
      exact ⟨p, v, rfl, .inl ⟨ps, k, hq, rfl, z2.symm⟩, (fin_now hs2 z3 q2).back (s1.trans s2)⟩
theorem we_din (hu : X.A.units + 1 < cLine) (h : WE X T G μ a fun d1 μ1 => WE X T G μ1 b fun d2 μ2 => ∃ kvs k, Dc μ2 d2 kvs ∧ d1 = kD k ∧ Q (.bl (valD kvs k).isSome) μ2) (hm : behindInMarks .In b = false := by rfl) : WE X T G μ (.Compare a [.In] [b] pos) Q :=
  WE.of (pe_cmp (pc_din hu (peW a) (peW b)) hm) fun F R H σ hs he => wE_mono (h F R H σ hs he) fun x H1 ⟨F1, d1, μ1, hs1, s1, r1, h1⟩ => wE_mono (h1 F1 R H1 σ hs1 (he.mono s1)) fun y H2 ⟨F2, d2, μ2, hs2, s2, r2, kvs, k, dc, e, q⟩ => by
    subst e
    obtain ⟨p, ps, rfl, hq, rr⟩ := dc.at hs2 r2
    cases rep_key r1
    refine ⟨p, valV ps k, rfl, .inl ⟨ps, k, hq, rfl, rfl⟩, ?_⟩
    have e : (valV ps k).isSome = (valD kvs k).isSome := by
      rcases rr.val k with ⟨z1, z2⟩ | ⟨d', v, z1, z2, z3⟩ <;> simp [z1, z2]
    rw [e]
    exact (fin_now hs2 (.bl _) q).back (s1.trans s2)
theorem we_dnotin (hu : X.A.units + 1 < cLine) (h : WE X T G μ a fun d1 μ1 => WE X T G μ1 b fun d2 μ2 => ∃ kvs k, Dc μ2 d2 kvs ∧ d1 = kD k ∧ Q (.bl (!(valD kvs k).isSome)) μ2) (hm : behindInMarks .NotIn b = false := by rfl) : WE X T G μ (.Compare a [.NotIn] [b] pos) Q :=
  WE.of (pe_cmp (pc_dnotin hu (peW a) (peW b)) hm) fun F R H σ hs he => wE_mono (h F R H σ hs he) fun x H1 ⟨F1, d1, μ1, hs1, s1, r1, h1⟩ => wE_mono (h1 F1 R H1 σ hs1 (he.mono s1)) fun y H2 ⟨F2, d2, μ2, hs2, s2, r2, kvs, k, dc, e, q⟩ => by
    subst e
    obtain ⟨p, ps, rfl, hq, rr⟩ := dc.at hs2 r2
    cases rep_key r1
    refine ⟨p, valV ps k, rfl, .inl ⟨ps, k, hq, rfl, rfl⟩, ?_⟩
    have e : (valV ps k).isSome = (valD kvs k).isSome := by
      rcases rr.val k with ⟨z1, z2⟩ | ⟨d', v, z1, z2, z3⟩ <;> simp [z1, z2]
    rw [e]
    exact (fin_now hs2 (.bl _) q).back (s1.trans s2)
theorem wt_din (hu : X.A.units + 1 < cLine) (h : WE X T G μ a fun d1 μ1 => WE X T G μ1 b fun d2 μ2 => ∃ kvs k, Dc μ2 d2 kvs ∧ d1 = kD k ∧ P (valD kvs k).isSome μ2) (hm : behindInMarks .In b = false := by rfl) : WT X T G μ (.Compare a [.In] [b] pos) P :=
  WT.of (pt_cmp (pc_din hu (peW a) (peW b)) hm) fun F R H σ hs he => wE_mono (h F R H σ hs he) fun x H1 ⟨F1, d1, μ1, hs1, s1, r1, h1⟩ => wE_mono (h1 F1 R H1 σ hs1 (he.mono s1)) fun y H2 ⟨F2, d2, μ2, hs2, s2, r2, kvs, k, dc, e, q⟩ => by
    subst e
    obtain ⟨p, ps, rfl, hq, rr⟩ := dc.at hs2 r2
    cases rep_key r1
    refine ⟨p, valV ps k, rfl, .inl ⟨ps, k, hq, rfl, rfl⟩, _, rfl, ?_⟩
    have e : (valV ps k).isSome = (valD kvs k).isSome := by
      rcases rr.val k with ⟨z1, z2⟩ | ⟨d', v, z1, z2, z3⟩ <;> simp [z1, z2]
    rw [e]
    exact ⟨F2, μ2, hs2, s1.trans s2, q⟩
theorem wt_dnotin (hu : X.A.units + 1 < cLine) (h : WE X T G μ a fun d1 μ1 => WE X T G μ1 b fun d2 μ2 => ∃ kvs k, Dc μ2 d2 kvs ∧ d1 = kD k ∧ P (!(valD kvs k).isSome) μ2) (hm : behindInMarks .NotIn b = false := by rfl) : WT X T G μ (.Compare a [.NotIn] [b] pos) P :=
  WT.of (pt_cmp (pc_dnotin hu (peW a) (peW b)) hm) fun F R H σ hs he => wE_mono (h F R H σ hs he) fun x H1 ⟨F1, d1, μ1, hs1, s1, r1, h1⟩ => wE_mono (h1 F1 R H1 σ hs1 (he.mono s1)) fun y H2 ⟨F2, d2, μ2, hs2, s2, r2, kvs, k, dc, e, q⟩ => by
    subst e
    obtain ⟨p, ps, rfl, hq, rr⟩ := dc.at hs2 r2
    cases rep_key r1
    refine ⟨p, valV ps k, rfl, .inl ⟨ps, k, hq, rfl, rfl⟩, _, rfl, ?_⟩
    have e : (valV ps k).isSome = (valD kvs k).isSome := by
      rcases rr.val k with ⟨z1, z2⟩ | ⟨d', v, z1, z2, z3⟩ <;> simp [z1, z2]
    rw [e]
    exact ⟨F2, μ2, hs2, s1.trans s2, q⟩
/-! ### in, not in: a list, a tuple of flat things -/
def inD (d : D) (ds : List D) : Option Bool := match fl d with
  | some x => if (ds.all fun e => (fl e).isSome) = true then some (inV x (ds.map fun e => (fl e).getD .non)) else none
  | none => none
theorem flat_fl : ∀ {d : D} {x : V}, fl d = some x → flatV x = true := fun {d x} h => by
  cases d <;> (try (simp only [fl, Option.some.injEq, reduceCtorEq] at h)) <;> (subst h; rfl)
theorem fls_rep {K : PySem.W.Frag} {F : Hp} : ∀ {ds : List D} {vs : List V}, Reps K F ds vs → (ds.all fun e => (fl e).isSome) = true → vs = ds.map (fun e => (fl e).getD .non) ∧ vs.all flatV = true
  | _, _, .nil, _ => ⟨rfl, rfl⟩
  | d :: ds, v :: vs, .cons h t, a => by
    rw [List.all_cons, Bool.and_eq_true] at a
    obtain ⟨e1, e2⟩ := fls_rep t a.2
    obtain ⟨x, hx⟩ := Option.isSome_iff_exists.mp a.1
    have := fl_rep hx h
    subst this
    refine ⟨?_, ?_⟩
    · rw [List.map_cons, ← e1, hx]; rfl
    · rw [List.all_cons, e2, flat_fl hx]; rfl
theorem inD_of {K : PySem.W.Frag} {F : Hp} {d : D} {ds : List D} {v : V} {vs : List V} {k : Bool} (h : inD d ds = some k) (r : Rep K F d v) (rr : Reps K F ds vs) : flatV v = true ∧ vs.all flatV = true ∧ inV v vs = k := by
  unfold inD at h
  split at h
  · rename_i x hx
    split at h
    · rename_i ha
      cases h
      obtain ⟨e1, e2⟩ := fls_rep rr ha
      have := fl_rep hx r
      subst this
      exact ⟨flat_fl hx, e2, by rw [e1]⟩
    · cases h
  · cases h
theorem rIn_mono {K : PySem.W.Frag} {n : Bool} : ∀ (x y : V) (H : Hp) (Q Q' : VK), (∀ z H', Q z H' → Q' z H') → rIn K n x y H Q → rIn K n x y H Q' := fun _ _ _ _ _ m ⟨p, xs, a, b, c, d, q⟩ => ⟨p, xs, a, b, c, d, m _ _ q⟩
theorem we_in (hm : behindInMarks .In b = false) (h : WE X T G μ a fun d1 μ1 => WE X T G μ1 b fun d2 μ2 => ∃ ds k, Sq μ2 d2 ds ∧ inD d1 ds = some k ∧ Q (.bl k) μ2) : WE X T G μ (.Compare a [.In] [b] pos) Q :=
  we_cmp op_in_seq hm (h.mono fun d1 μ1 h1 => h1.mono fun d2 μ2 ⟨ds, k, sq, e, q⟩ F0 F R H x y s hs r1 r2 => by
    obtain ⟨p, vs, rfl, hq, rr⟩ := sq.at hs r2
    obtain ⟨f1, f2, rfl⟩ := inD_of e r1 rr
    exact ⟨p, vs, rfl, hq, f1, f2, (fin_now hs (.bl _) q).back s⟩)
theorem we_notin (hm : behindInMarks .NotIn b = false) (h : WE X T G μ a fun d1 μ1 => WE X T G μ1 b fun d2 μ2 => ∃ ds k, Sq μ2 d2 ds ∧ inD d1 ds = some k ∧ Q (.bl (!k)) μ2) : WE X T G μ (.Compare a [.NotIn] [b] pos) Q :=
  we_cmp op_notIn_seq hm (h.mono fun d1 μ1 h1 => h1.mono fun d2 μ2 ⟨ds, k, sq, e, q⟩ F0 F R H x y s hs r1 r2 => by
    obtain ⟨p, vs, rfl, hq, rr⟩ := sq.at hs r2
    obtain ⟨f1, f2, rfl⟩ := inD_of e r1 rr
    exact ⟨p, vs, rfl, hq, f1, f2, (fin_now hs (.bl _) q).back s⟩)
theorem wt_in (hm : behindInMarks .In b = false) (h : WE X T G μ a fun d1 μ1 => WE X T G μ1 b fun d2 μ2 => ∃ ds k, Sq μ2 d2 ds ∧ inD d1 ds = some k ∧ P k μ2) : WT X T G μ (.Compare a [.In] [b] pos) P :=
  wt_cmp op_in_seq hm rIn_mono (h.mono fun d1 μ1 h1 => h1.mono fun d2 μ2 ⟨ds, k, sq, e, q⟩ F0 F R H x y s hs r1 r2 => by
    obtain ⟨p, vs, rfl, hq, rr⟩ := sq.at hs r2
    obtain ⟨f1, f2, rfl⟩ := inD_of e r1 rr
    exact ⟨p, vs, rfl, hq, f1, f2, (fin_now (Q := fun d μ => ∃ k, d = D.bl k ∧ P k μ) hs (.bl _) ⟨_, rfl, q⟩).back s⟩)
theorem wt_notin (hm : behindInMarks .NotIn b = false) (h : WE X T G μ a fun d1 μ1 => WE X T G μ1 b fun d2 μ2 => ∃ ds k, Sq μ2 d2 ds ∧ inD d1 ds = some k ∧ P (!k) μ2) : WT X T G μ (.Compare a [.NotIn] [b] pos) P :=
  wt_cmp op_notIn_seq hm rIn_mono (h.mono fun d1 μ1 h1 => h1.mono fun d2 μ2 ⟨ds, k, sq, e, q⟩ F0 F R H x y s hs r1 r2 => by
    obtain ⟨p, vs, rfl, hq, rr⟩ := sq.at hs r2
    obtain ⟨f1, f2, rfl⟩ := inD_of e r1 rr
    exact ⟨p, vs, rfl, hq, f1, f2, (fin_now (Q := fun d μ => ∃ k, d = D.bl k ∧ P k μ) hs (.bl _) ⟨_, rfl, q⟩).back s⟩)
end
end Ws
/-! WS, part D: promises over data, calls, statements. -/
namespace Ws
open PySem PyProof.Rows PySem.Spec L2

/-! ### promises over data -/
/-- of the arguments, what may change, the wish: what must hold -/
abbrev DSp := List D → Mu → (D → Mu → Prop) → Prop
def SpD (K : PySem.W.Frag) (T : TabS) (S : DSp) : Sp := fun vs H Q _ => ∃ F μ R ds P, Hs K (tab0 T) F μ R H ∧ Reps K F ds vs ∧ S ds μ P ∧ ∀ v H', Fin K (tab0 T) F R P v H' → Q v H'
/-- the def that stands at the module's name x keeps S (level k) -/
structure DefAt (P : Program) (w : World) (K : PySem.W.Frag) (mg : Str → Option Value) (base : Heap) (T : TabS) (k : Nat) (x : Str) (S : DSp) : Prop where
  ex : ∃ f fd ps, mg x = some (.ref f) ∧ PySem.W.keepIn K (.ref f) = true ∧ Binds K fd ps [] ∧ FnOk P w K mg base CX0 k f fd ps (SpD K T S)
theorem DefAt.imp {P : Program} {w : World} {K : PySem.W.Frag} {mg : Str → Option Value} {base : Heap} {T : TabS} {k : Nat} {x : Str} {S S' : DSp} (d : DefAt P w K mg base T k x S) (h : ∀ ds μ Q, S' ds μ Q → S ds μ Q) : DefAt P w K mg base T k x S' :=
  let ⟨f, fd, ps, a, b, c, F⟩ := d.ex
  ⟨f, fd, ps, a, b, c, F.imp fun vs H Q E ⟨F, μ, R, ds, P, h1, h2, h3, h4⟩ => ⟨F, μ, R, ds, P, h1, h2, h _ _ _ h3, h4⟩⟩
theorem DefAt.mono {P : Program} {w : World} {K : PySem.W.Frag} {mg : Str → Option Value} {base : Heap} {T : TabS} {j k : Nat} {x : Str} {S : DSp} (d : DefAt P w K mg base T j x S) (h : j ≤ k) : DefAt P w K mg base T k x S :=
  let ⟨f, fd, ps, a, b, c, F⟩ := d.ex
  ⟨f, fd, ps, a, b, c, F.mono h⟩
def startG (N : List Str) (ds : List D) : GE := ds.map some ++ List.replicate (N.length - ds.length) none
theorem envr_start {K : PySem.W.Frag} {F : Hp} {N : List Str} {ds : List D} {vs : List V} (r : Reps K F ds vs) : EnvR K F (startG N ds) (start N vs) := fun i d e => by
  unfold startG at e
  by_cases hi : i < ds.length
  · rw [List.getElem?_append_left (by simpa using hi), List.getElem?_map] at e
    cases z : ds[i]? with
    | none => rw [z] at e; cases e
    | some d' =>
      rw [z] at e
      have e' : d' = d := Option.some.inj (Option.some.inj e)
      subst e'
      obtain ⟨v, e1, e2⟩ := r.get z
      refine ⟨v, ?_, e2⟩
      unfold L2.start
      rw [List.getElem?_append_left (by rw [List.length_map, ← r.length]; exact hi), List.getElem?_map, e1]
      rfl
  · rw [List.getElem?_append_right (by simpa using hi), List.getElem?_replicate] at e
    split at e <;> cases e
/-- THE RULE for a def that lets nothing out -/
theorem fn_okD {P : Program} {w : World} {K : PySem.W.Frag} {mg : Str → Option Value} {base : Heap} {T : TabS} {x qual : Str} {params : Arguments} {body : List Stmt} {scope : Scope} {dvs : List V} {kws : List (Str × V)} {f : Addr} {fd : FuncData} {N ps : List Str} {k : Nat} {S : DSp}
    (F : FunD K x qual params body scope dvs kws f fd) (sc : FnScope N ps scope) (len : ∀ ds μ Q, S ds μ Q → ds.length = ps.length)
    (hbody : ∀ (cdv : Value) (A : Around) (outer : List Env) (s : Shared) (H : Hp) (E : XK) (ds : List D) (μ : Mu) (Q : D → Mu → Prop), Room k (A.deeper (envOfC qual scope s.heap.objs.size f cdv)) → S ds μ Q →
      WSs (cxOf CX0 P w K mg base N qual scope f cdv A outer s H E).nox (tab0 T) (startG N ds) μ body { nx := fun _ μ' => Q .non μ', rt := Q }) : FnOk P w K mg base CX0 (k + 1) f fd ps (SpD K T S) := by
  refine F.ok sc (fun vs H Q E h => ?_) (fun cdv A outer s H vs Q E hr h => ?_)
  · obtain ⟨F, μ, R, ds, P', h1, h2, h3, _⟩ := h
    rw [← h2.length]; exact len _ _ _ h3
  · obtain ⟨F', μ, R, ds, P', h1, h2, h3, h4⟩ := h
    refine ⟨_, (pssW body).nox, ?_⟩
    have q := hbody cdv A outer s H E ds μ P' hr h3 F' R H (start N vs) h1 (envr_start h2)
    exact wSs_mono q ⟨fun σ' H' ⟨F2, G2, μ2, a, b, c, d⟩ => h4 _ _ ⟨F2, .non, μ2, a, b, .non, d⟩, fun v H' z => h4 v H' z, fun _ _ ⟨_, _, _, _, _, _, z⟩ => z, fun _ _ ⟨_, _, _, _, _, _, z⟩ => z⟩

section
variable {X : Cx} {T : TabL} {G : GE} {μ : Mu} {pos p apos cpos : Pos} {a b c e o : Expr} {es : List Expr} {Q : D → Mu → Prop} {P : Bool → Mu → Prop} {L : List D → Mu → Prop} {E : DE}

/-! ### calls -/
theorem we_call {k j : Nat} {x : Str} {S : DSp} (d : DefAt X.prog X.w X.K X.mg X.base T.l k x S) (hr : Room j X.A) (h : WA X T G μ (e :: es) fun ds μ1 => S ds μ1 Q) (hk : k ≤ j := by decide) (hg : Gl X x := by rfl) (hdb : (x == ("__debug__" : Str)) = false := by decide)
    (he : starEach (e :: es) X.env = (false, eval e X.env) :: starEach es X.env := by rfl) (hpl : (backTo pos (starEach es X.env)).any (·.1) = false := by rfl) : WE X T G μ (.Call (.Name x p) (e :: es) [] pos) Q := by
  obtain ⟨f, fd, ps, hm, hkp, hb, F⟩ := d.ex
  refine WE.of (pe_call F (hr.mono hk) hg hm hkp hb .nil pass0 (paW (e :: es)) hdb he hpl) fun F R H σ hs hv => wA_mono (h F R H σ hs hv) fun vs H1 ⟨F1, ds, μ1, hs1, s1, r, q⟩ => ?_
  exact ⟨F1, μ1, R, ds, Q, hs1.base, by rw [List.append_nil]; exact r, q, fun v H' z => (z.up hs1.lb hs1.rb).back s1⟩
/-- a built-in by its name -/
theorem we_callB {id : String} {x : Str} {r : List V → Hp → VK → Prop} (hc : CallR X (.builtin id) r) (hm : X.mg x = none) (hv : bootBuiltins x = some (.builtin id))
    (h : WA X T G μ (e :: es) fun ds μ1 => ∀ F0 F R H vs, Same F0 F → Hs X.K T F μ1 R H → Reps X.K F ds vs → r vs H (Fin X.K T F0 R Q)) (hg : Gl X x := by rfl) (hn : x ≠ "__name__" := by decide) (hdb : (x == ("__debug__" : Str)) = false := by decide)
    (he : starEach (e :: es) X.env = (false, eval e X.env) :: starEach es X.env := by rfl) (hpl : (backTo pos (starEach es X.env)).any (·.1) = false := by rfl) : WE X T G μ (.Call (.Name x p) (e :: es) [] pos) Q :=
  WE.of (pe_callB hc hg hm hv (paW (e :: es)) hn hdb he hpl) fun F R H σ hs hv => wA_mono (h F R H σ hs hv) fun vs H1 ⟨F1, ds, μ1, hs1, s1, r, q⟩ => q F F1 R H1 vs s1 hs1 r
theorem we_callTy {id : String} {x : Str} {r : List V → Hp → VK → Prop} (hc : CallR X (.type id) r) (hm : X.mg x = none) (hv : bootBuiltins x = some (.type id))
    (h : WA X T G μ (e :: es) fun ds μ1 => ∀ F0 F R H vs, Same F0 F → Hs X.K T F μ1 R H → Reps X.K F ds vs → r vs H (Fin X.K T F0 R Q)) (hg : Gl X x := by rfl) (hn : x ≠ "__name__" := by decide) (hdb : (x == ("__debug__" : Str)) = false := by decide)
    (he : starEach (e :: es) X.env = (false, eval e X.env) :: starEach es X.env := by rfl) (hpl : (backTo pos (starEach es X.env)).any (·.1) = false := by rfl) : WE X T G μ (.Call (.Name x p) (e :: es) [] pos) Q :=
  WE.of (pe_callTy hc hg hm hv (paW (e :: es)) hn hdb he hpl) fun F R H σ hs hv => wA_mono (h F R H σ hs hv) fun vs H1 ⟨F1, ds, μ1, hs1, s1, r, q⟩ => q F F1 R H1 vs s1 hs1 r
/-- one argument -/
theorem wa_one (h : WE X T G μ e fun d μ1 => L [d] μ1) (hs : starEach [e] X.env = (false, eval e X.env) :: starEach [] X.env := by rfl) : WA X T G μ [e] L := wa_cons (h.mono fun d μ1 q => wa_nil q) hs
theorem wa_two {e' : Expr} (h : WE X T G μ e fun d μ1 => WE X T G μ1 e' fun d' μ2 => L [d, d'] μ2) (hs : starEach [e, e'] X.env = (false, eval e X.env) :: starEach [e'] X.env := by rfl) (hs' : starEach [e'] X.env = (false, eval e' X.env) :: starEach [] X.env := by rfl) : WA X T G μ [e, e'] L :=
  wa_cons (h.mono fun d μ1 q => wa_one q hs') hs
theorem we_len {x : Str} (hx : x = "len") (hm : X.mg "len" = none) (h : WE X T G μ e fun d μ1 => ∃ ds, Sq μ1 d ds ∧ Q (.int ds.length) μ1) (hg : Gl X "len" := by rfl)
    (he : starEach [e] X.env = (false, eval e X.env) :: starEach [] X.env := by rfl) : WE X T G μ (.Call (.Name x p) [e] [] pos) Q := by
  subst hx
  refine we_callB call_len_seq hm PySem.boot_len (wa_one (h.mono fun d μ1 ⟨ds, sq, q⟩ F0 F R H vs s hs r => ?_) he) hg (by decide) (by decide) he (by rfl)
  cases r with
  | cons r t =>
    cases t
    obtain ⟨a, vs, rfl, hq, rr⟩ := sq.at hs r
    exact ⟨a, vs, rfl, hq, by rw [← rr.length]; exact (fin_now hs (.int _) q).back s⟩
theorem we_lenS {x : Str} (hx : x = "len") (hm : X.mg "len" = none) (h : WE X T G μ e fun d μ1 => ∃ z, d = .str z ∧ z.length ≤ sizeLine ∧ Q (.int z.length) μ1) (hg : Gl X "len" := by rfl)
    (he : starEach [e] X.env = (false, eval e X.env) :: starEach [] X.env := by rfl) : WE X T G μ (.Call (.Name x p) [e] [] pos) Q := by
  subst hx
  refine we_callB call_len_str hm PySem.boot_len (wa_one (h.mono fun d μ1 ⟨z, e, hz, q⟩ F0 F R H vs s hs r => ?_) he) hg (by decide) (by decide) he (by rfl)
  subst e
  cases r with
  | cons r t =>
    cases t
    cases r
    exact ⟨z, rfl, hz, (fin_now hs (.int _) q).back s⟩
/-- len of a dict -/
theorem we_lenD {x : Str} (hx : x = "len") (hm : X.mg "len" = none) (h : WE X T G μ e fun d μ1 => ∃ kvs, Dc μ1 d kvs ∧ Q (.int kvs.length) μ1) (hg : Gl X "len" := by rfl)
    (he : starEach [e] X.env = (false, eval e X.env) :: starEach [] X.env := by rfl) : WE X T G μ (.Call (.Name x p) [e] [] pos) Q := by
  subst hx
  refine we_callB (id := "len") (r := fun xs H Q => ∃ a ps, xs = [.ref a] ∧ Rd H a (.dK ps) ∧ Q (.int ps.length) H) (fun pins s σ H xs us Q I r ⟨a, ps, e1, e2, q⟩ => ?_) hm PySem.boot_len
    (wa_one (h.mono fun d μ1 ⟨kvs, dc, q⟩ F0 F R H vs s hs r => ?_) he) hg (by decide) (by decide) he (by rfl)
  · subst e1
    obtain ⟨u, rfl, ru⟩ := vals1 r
    cases ru
    exact d_len I e2 fun t s' I' => ⟨.int _, H, I', ⟨_, rfl⟩, q⟩
  · cases r with
    | cons r t =>
      cases t
      obtain ⟨a, ps, rfl, hq, rr⟩ := dc.at hs r
      exact ⟨a, ps, rfl, hq, by rw [← rr.length]; exact (fin_now hs (.int _) q).back s⟩
/-- list(x): a new list, fixed or not -/
theorem we_list {x : Str} (hx : x = "list") (hm : X.mg "list" = none) (h : WE X T G μ e fun d μ1 => ∃ ds, Sq μ1 d ds ∧ Q (.lst ds) μ1) (hg : Gl X "list" := by rfl)
    (he : starEach [e] X.env = (false, eval e X.env) :: starEach [] X.env := by rfl) : WE X T G μ (.Call (.Name x p) [e] [] pos) Q := by
  subst hx
  refine we_callTy call_list_of hm (by decide +kernel) (wa_one (h.mono fun d μ1 ⟨ds, sq, q⟩ F0 F R H vs s hs r => ?_) he) hg (by decide) (by decide) he (by rfl)
  cases r with
  | cons r t =>
    cases t
    obtain ⟨a, vs, rfl, hq, rr⟩ := sq.at hs r
    exact ⟨a, vs, rfl, hq, fun l n => (fin_lst hs n rr q).back s⟩
theorem we_listM {x : Str} (hx : x = "list") (hm : X.mg "list" = none) (h : WE X T G μ e fun d μ1 => ∃ ds, Sq μ1 d ds ∧ ∀ p, μ1 p = none → Q (.ref p) (mset μ1 p (.ml ds))) (hg : Gl X "list" := by rfl)
    (he : starEach [e] X.env = (false, eval e X.env) :: starEach [] X.env := by rfl) : WE X T G μ (.Call (.Name x p) [e] [] pos) Q := by
  subst hx
  refine we_callTy call_list_of hm (by decide +kernel) (wa_one (h.mono fun d μ1 ⟨ds, sq, q⟩ F0 F R H vs s hs r => ?_) he) hg (by decide) (by decide) he (by rfl)
  cases r with
  | cons r t =>
    cases t
    obtain ⟨a, vs, rfl, hq, rr⟩ := sq.at hs r
    exact ⟨a, vs, rfl, hq, fun l n => (fin_new hs n (.ml rr) (q l (hs.noM n))).back s⟩
theorem we_tuple {x : Str} (hx : x = "tuple") (hm : X.mg "tuple" = none) (h : WE X T G μ e fun d μ1 => ∃ ds, Sq μ1 d ds ∧ Q (.tup ds) μ1) (hg : Gl X "tuple" := by rfl)
    (he : starEach [e] X.env = (false, eval e X.env) :: starEach [] X.env := by rfl) : WE X T G μ (.Call (.Name x p) [e] [] pos) Q := by
  subst hx
  refine we_callTy call_tuple_of hm (by decide +kernel) (wa_one (h.mono fun d μ1 ⟨ds, sq, q⟩ F0 F R H vs s hs r => ?_) he) hg (by decide) (by decide) he (by rfl)
  cases r with
  | cons r t =>
    cases t
    cases sq with
    | lst => cases r with | lst h rr => exact ⟨_, _, rfl, .inl ⟨.of (hs.lstF h), fun l n => (fin_tup hs n rr q).back s⟩⟩
    | tup => cases r with | tup h rr => exact ⟨_, _, rfl, .inr ⟨hs.tupF h, (fin_now hs (.tup h rr) q).back s⟩⟩
    | ml h =>
      cases r
      obtain ⟨vs, e, rr⟩ := hs.ml h
      exact ⟨_, vs, rfl, .inl ⟨.of e, fun l n => (fin_tup hs n rr q).back s⟩⟩
/-- all(..), any(..) of bools -/
theorem we_all {x : Str} (hx : x = "all") (hm : X.mg "all" = none) (hc : X.calm = true) (h : WE X T G μ e fun d μ1 => ∃ bs : List Bool, SqLi μ1 d (bs.map D.bl) ∧ Q (.bl (bs.all id)) μ1) (hg : Gl X "all" := by rfl)
    (he : starEach [e] X.env = (false, eval e X.env) :: starEach [] X.env := by rfl) : WE X T G μ (.Call (.Name x p) [e] [] pos) Q := by
  subst hx
  refine we_callB (cr_all hc) hm (by decide +kernel) (wa_one (h.mono fun d μ1 ⟨bs, sq, q⟩ F0 F R H vs s hs r => ?_) he) hg (by decide) (by decide) he (by rfl)
  cases r with
  | cons r t =>
    cases t
    obtain ⟨a, vs, rfl, hq, rr⟩ := sq.at hs r
    exact ⟨a, bs, rfl, .of (by rw [← rr.bls]; exact hq), (fin_now hs (.bl _) q).back s⟩
theorem we_any {x : Str} (hx : x = "any") (hm : X.mg "any" = none) (hc : X.calm = true) (h : WE X T G μ e fun d μ1 => ∃ bs : List Bool, SqLi μ1 d (bs.map D.bl) ∧ Q (.bl (bs.any id)) μ1) (hg : Gl X "any" := by rfl)
    (he : starEach [e] X.env = (false, eval e X.env) :: starEach [] X.env := by rfl) : WE X T G μ (.Call (.Name x p) [e] [] pos) Q := by
  subst hx
  refine we_callB (cr_any hc) hm (by decide +kernel) (wa_one (h.mono fun d μ1 ⟨bs, sq, q⟩ F0 F R H vs s hs r => ?_) he) hg (by decide) (by decide) he (by rfl)
  cases r with
  | cons r t =>
    cases t
    obtain ⟨a, vs, rfl, hq, rr⟩ := sq.at hs r
    exact ⟨a, bs, rfl, .of (by rw [← rr.bls]; exact hq), (fin_now hs (.bl _) q).back s⟩
/-- abs, int of an int or a bool -/
theorem we_abs {x : Str} (hx : x = "abs") (hm : X.mg "abs" = none) (h : WE X T G μ e fun d μ1 => ∃ i, d = .int i ∧ Q (.int (if i < 0 then -i else i)) μ1) (hg : Gl X "abs" := by rfl)
    (he : starEach [e] X.env = (false, eval e X.env) :: starEach [] X.env := by rfl) : WE X T G μ (.Call (.Name x p) [e] [] pos) Q := by
  subst hx
  refine we_callB call_abs hm (by decide +kernel) (wa_one (h.mono fun d μ1 ⟨i, e, q⟩ F0 F R H vs s hs r => ?_) he) hg (by decide) (by decide) he (by rfl)
  subst e
  cases r with
  | cons r t => cases t; cases r; exact ⟨i, rfl, (fin_now hs (.int _) q).back s⟩
theorem we_intB {x : Str} (hx : x = "int") (hm : X.mg "int" = none) (h : WE X T G μ e fun d μ1 => ∃ k, d = .bl k ∧ Q (.int (if k then 1 else 0)) μ1) (hg : Gl X "int" := by rfl)
    (he : starEach [e] X.env = (false, eval e X.env) :: starEach [] X.env := by rfl) : WE X T G μ (.Call (.Name x p) [e] [] pos) Q := by
  subst hx
  refine we_callTy call_int1 hm (by decide +kernel) (wa_one (h.mono fun d μ1 ⟨k, e, q⟩ F0 F R H vs s hs r => ?_) he) hg (by decide) (by decide) he (by rfl)
  subst e
  cases r with
  | cons r t => cases t; cases r; exact .inr ⟨k, rfl, (fin_now hs (.int _) q).back s⟩
theorem we_strI {x : Str} (hx : x = "str") (hm : X.mg "str" = none) (h : WE X T G μ e fun d μ1 => ∃ i, d = .int i ∧ i.natAbs.log2 < 1920 ∧ Q (.str (toString i)) μ1) (hg : Gl X "str" := by rfl)
    (he : starEach [e] X.env = (false, eval e X.env) :: starEach [] X.env := by rfl) : WE X T G μ (.Call (.Name x p) [e] [] pos) Q := by
  subst hx
  refine we_callTy call_str_int hm (by decide +kernel) (wa_one (h.mono fun d μ1 ⟨i, e, z, q⟩ F0 F R H vs s hs r => ?_) he) hg (by decide) (by decide) he (by rfl)
  subst e
  cases r with
  | cons r t => cases t; cases r; exact ⟨i, rfl, z, (fin_now hs (.str _) q).back s⟩
/-- dict(d): a copy -/
theorem we_dictCM {x : Str} (hx : x = "dict") (hm : X.mg "dict" = none) (h : WE X T G μ e fun d μ1 => ∃ kvs, Dc μ1 d kvs ∧ ∀ p, μ1 p = none → Q (.ref p) (mset μ1 p (.md kvs))) (hg : Gl X "dict" := by rfl)
    (he : starEach [e] X.env = (false, eval e X.env) :: starEach [] X.env := by rfl) : WE X T G μ (.Call (.Name x p) [e] [] pos) Q := by
  subst hx
  refine we_callTy (id := "dict") (r := fun xs H Q => ∃ a ps, xs = [.ref a] ∧ Rd H a (.dK ps) ∧ ∀ l, H l = none → Q (.ref l) (upd H l (.dK ps))) (fun pins s σ H xs us Q I r ⟨a, ps, e1, e2, q⟩ => ?_) hm (by decide +kernel)
    (wa_one (h.mono fun d μ1 ⟨kvs, dc, q⟩ F0 F R H vs s hs r => ?_) he) hg (by decide) (by decide) he (by rfl)
  · subst e1
    obtain ⟨u, rfl, ru⟩ := vals1 r
    cases ru
    exact d_copyOf I e2 fun p s' n I' => ⟨.ref p, _, I', rfl, q p n⟩
  · cases r with
    | cons r t =>
      cases t
      obtain ⟨a, ps, rfl, hq, rr⟩ := dc.at hs r
      exact ⟨a, ps, rfl, hq, fun l n => (fin_new hs n (.md rr) (q l (hs.noM n))).back s⟩
theorem we_freeze {a : Addr} (h : WE X T G μ e fun d μ1 => d = .ref a ∧ ((∃ ds, μ1 a = some (.ml ds) ∧ Q (.lst ds) (mdel μ1 a)) ∨ ∃ kvs, μ1 a = some (.md kvs) ∧ Q (.dic kvs) (mdel μ1 a))) : WE X T G μ e Q :=
  fun F R H σ hs he => wE.mk fun pins s I => thn ((h F R H σ hs he).run pins s I) fun u s' ⟨v, H1, J, ru, F1, d, μ1, hs1, s1, r, ed, q⟩ => by
    subst ed
    cases r
    rcases q with ⟨ds, em, q⟩ | ⟨kvs, em, q⟩
    · obtain ⟨o, e1, mr, nF, hs2⟩ := hs1.freeze em
      cases mr with | ml rr => exact ⟨_, _, J, ru, _, .lst ds, _, hs2, s1.trans (same_upd nF), .lst upd_same (rr.mono (same_upd nF)), q⟩
    · obtain ⟨ps, e1, rr⟩ := hs1.md em
      obtain ⟨od, J2⟩ := J.lock e1 trivial
      obtain ⟨nF, hs2⟩ := hs1.freezeD (od := od) em e1 rr
      exact ⟨_, _, J2, ru, _, .dic kvs, _, hs2, s1.trans (same_upd nF), .dic upd_same (rr.mono (same_upd nF)), q⟩
/-- a list, a dict that is made and fixed at once -/
theorem we_freezeL (h : WE X T G μ e fun d μ1 => ∃ a ds, d = .ref a ∧ μ1 a = some (.ml ds) ∧ Q (.lst ds) (mdel μ1 a)) : WE X T G μ e Q :=
  fun F R H σ hs he => wE.mk fun pins s I => thn ((h F R H σ hs he).run pins s I) fun u s' ⟨v, H1, J, ru, F1, d, μ1, hs1, s1, r, a, ds, ed, em, q⟩ => by
    subst ed
    cases r
    obtain ⟨o, e1, mr, nF, hs2⟩ := hs1.freeze em
    cases mr with | ml rr => exact ⟨_, _, J, ru, _, .lst ds, _, hs2, s1.trans (same_upd nF), .lst upd_same (rr.mono (same_upd nF)), q⟩
theorem we_freezeD (h : WE X T G μ e fun d μ1 => ∃ a kvs, d = .ref a ∧ μ1 a = some (.md kvs) ∧ Q (.dic kvs) (mdel μ1 a)) : WE X T G μ e Q :=
  fun F R H σ hs he => wE.mk fun pins s I => thn ((h F R H σ hs he).run pins s I) fun u s' ⟨v, H1, J, ru, F1, d, μ1, hs1, s1, r, a, kvs, ed, em, q⟩ => by
    subst ed
    cases r
    obtain ⟨ps, e1, rr⟩ := hs1.md em
    obtain ⟨od, J2⟩ := J.lock e1 trivial
    obtain ⟨nF, hs2⟩ := hs1.freezeD (od := od) em e1 rr
    exact ⟨_, _, J2, ru, _, .dic kvs, _, hs2, s1.trans (same_upd nF), .dic upd_same (rr.mono (same_upd nF)), q⟩
theorem mdel_mset {μ : Mu} {a : Addr} {o : MO} (h : μ a = none) : mdel (mset μ a o) a = μ := by
  funext b; unfold mdel mset; by_cases e : b = a
  · subst e; simp [h]
  · simp [e]
theorem we_dict0 (q : Q (.dic []) μ) : WE X T G μ (.Dict [] [] pos) Q := we_freezeD (we_dict0M fun a n => ⟨a, [], rfl, mset_same, by rw [mdel_mset n]; exact q⟩)
theorem we_dictC {x : Str} (hx : x = "dict") (hm : X.mg "dict" = none) (h : WE X T G μ e fun d μ1 => ∃ kvs, Dc μ1 d kvs ∧ Q (.dic kvs) μ1) (hg : Gl X "dict" := by rfl)
    (he : starEach [e] X.env = (false, eval e X.env) :: starEach [] X.env := by rfl) : WE X T G μ (.Call (.Name x p) [e] [] pos) Q :=
  we_freezeD (we_dictCM hx hm (h.mono fun d μ1 ⟨kvs, dc, q⟩ => ⟨kvs, dc, fun a n => ⟨a, kvs, rfl, mset_same, by rw [mdel_mset n]; exact q⟩⟩) hg he)
/-- less is told of what changes -/
theorem WE.weak {ν : Mu} (h : WE X T G ν e Q) (m : MSame ν μ) : WE X T G μ e Q := fun F R H σ hs he => h F R H σ (hs.less m) he
end

/-! ### statements -/
section
variable {X : Cx} {T : TabL} {G : GE} {μ : Mu} {pos p pos' : Pos} {e c tg : Expr} {st : Stmt} {sts body body2 : List Stmt} {E : DE}
theorem wss_nil (h : E.nx G μ) : WSs X T G μ [] E := WSs.of pss_nil fun F R H σ hs he => ⟨F, G, μ, hs, Same.refl _, he, h⟩
theorem wss_cons (h : WS X T G μ st { E with nx := fun G1 μ1 => WSs X T G1 μ1 sts E }) : WSs X T G μ (st :: sts) E :=
  WSs.of (pss_cons (psW st) (pssW sts)) fun F R H σ hs he => wS_mono (h F R H σ hs he) ⟨fun σ' H' ⟨F1, G1, μ1, hs1, s1, he1, q⟩ => wSs_mono (q F1 R H' σ' hs1 he1) (endsD.back s1), fun _ _ z => z, fun _ _ z => z, fun _ _ z => z⟩
theorem wss_one (h : WS X T G μ st E) : WSs X T G μ [st] E := WSs.of (pss_one (psW st)) fun F R H σ hs he => h F R H σ hs he
theorem ws_ret (h : WE X T G μ e E.rt) : WS X T G μ (.Return (some e) pos) E := WS.of (ps_ret (peW e)) fun F R H σ hs he => h F R H σ hs he
theorem ws_expr (h : WE X T G μ e fun _ μ1 => E.nx G μ1) (hs : swapsWith e none pos.line X.env = pure false := by rfl) : WS X T G μ (.Expr e pos) E :=
  WS.of (ps_expr (peW e) hs) fun F R H σ hs he => wE_mono (h F R H σ hs he) fun v H1 ⟨F1, d, μ1, hs1, s1, r, q⟩ => ⟨F1, G, μ1, hs1, s1, he.mono s1, q⟩
theorem ws_if (h : WT X T G μ c fun k μ1 => if k = true then WSs X T G μ1 body E else WSs X T G μ1 body2 E) : WS X T G μ (.If c body body2 pos) E :=
  WS.of (ps_if (ptW c) (pssW body) (pssW body2)) fun F R H σ hs he => wT_mono (h F R H σ hs he) fun k H1 ⟨F1, μ1, hs1, s1, q⟩ => by
    cases k with
    | true => exact wSs_mono (q F1 R H1 σ hs1 (he.mono s1)) (endsD.back s1)
    | false => exact wSs_mono (q F1 R H1 σ hs1 (he.mono s1)) (endsD.back s1)
theorem ws_ifT (h : WT X T G μ c fun k μ1 => k = true ∧ WSs X T G μ1 body E) : WS X T G μ (.If c body body2 pos) E := ws_if (h.mono fun k μ1 ⟨e, q⟩ => by rw [if_pos e]; exact q)
theorem ws_ifF (h : WT X T G μ c fun k μ1 => k = false ∧ WSs X T G μ1 body2 E) : WS X T G μ (.If c body body2 pos) E := ws_if (h.mono fun k μ1 ⟨e, q⟩ => by rw [if_neg (by rw [e]; simp)]; exact q)
theorem we_ifT {a b : Expr} {Q : D → Mu → Prop} (h : WT X T G μ c fun k μ1 => k = true ∧ WE X T G μ1 a Q) : WE X T G μ (.IfExp c a b pos) Q := we_if (h.mono fun k μ1 ⟨e, q⟩ => by rw [if_pos e]; exact q)
theorem we_ifF {a b : Expr} {Q : D → Mu → Prop} (h : WT X T G μ c fun k μ1 => k = false ∧ WE X T G μ1 b Q) : WE X T G μ (.IfExp c a b pos) Q := we_if (h.mono fun k μ1 ⟨e, q⟩ => by rw [if_neg (by rw [e]; simp)]; exact q)
/-- names in the state's places -/
theorem getEl_lt {N : List Str} {i : Nat} {x : Str} (h : N[i]? = some x) : i < N.length := (List.getElem?_eq_some_iff.mp h).1
theorem ws_set (i : Nat) {x : Str} (hN : X.N.Nodup) (h : WE X T G μ e fun d μ1 => E.nx (G.set i (some d)) μ1) (hi : X.N[i]? = some x := by rfl) (hx : Loc X.env.scope x := by first | exact Or.inl rfl | exact Or.inr rfl)
    (hs : swapsWith e (some (.Name x pos')) pos.line X.env = pure false := by rfl) (hf : X.fn x = true ∨ X.env.scope.names.lookup x = some .local := by first | exact .inl rfl | exact .inr rfl) : WS X T G μ (.Assign [.Name x pos'] e pos) E := by
  intro F R H σ hs' he; refine ⟨fun pins s I => ?_⟩
  have hl : i < σ.length := by rw [I.len]; exact getEl_lt hi
  exact (wS_of (D := endsD X.K T F R E) (ps_set (i := i) hN hi hx (peW e) hs hf) (wE_mono (h F R H σ hs' he) fun v H1 ⟨F1, d, μ1, hs1, s1, r, q⟩ => ⟨F1, _, μ1, hs1, s1, (he.mono s1).set hl r, q⟩)).run pins s I
/-- a, b = x, y: plain locals -/
theorem ws_par (i j : Nat) {x y : Str} {a b : Expr} {px py pt : Pos} {kt k2 pt2} (hc : X.calm = true) (hN : X.N.Nodup) (h : WE X T G μ a fun d1 μ1 => WE X T G μ1 b fun d2 μ2 => E.nx ((G.set i (some d1)).set j (some d2)) μ2)
    (hw : swappedStores [.Tuple [.Name x px, .Name y py] kt pt] (.Tuple [a, b] k2 pt2) X.env = pure (some [x, y])) (hi : X.N[i]? = some x := by rfl) (hj : X.N[j]? = some y := by rfl) (hij : i ≠ j := by decide) (hx : X.env.scope.names.lookup x = some .local := by rfl) (hy : X.env.scope.names.lookup y = some .local := by rfl)
    (hs : swapsWithSole [.Tuple [.Name x px, .Name y py] kt pt] (.Tuple [a, b] k2 pt2) pos.line X.env = pure false := by rfl)
    (he1 : starEach [a, b] X.env = (false, eval a X.env) :: starEach [b] X.env := by rfl) (he2 : starEach [b] X.env = (false, eval b X.env) :: starEach [] X.env := by rfl) : WS X T G μ (.Assign [.Tuple [.Name x px, .Name y py] kt pt] (.Tuple [a, b] k2 pt2) pos) E := by
  intro F R H σ hs' he; refine ⟨fun pins s I => ?_⟩
  have hl : i < σ.length := by rw [I.len]; exact getEl_lt hi
  have hl2 : j < (σ.set i (some V.non)).length := by rw [List.length_set, I.len]; exact getEl_lt hj
  have ha : WA X T G μ [a, b] fun ds μ2 => ∃ d1 d2, ds = [d1, d2] ∧ E.nx ((G.set i (some d1)).set j (some d2)) μ2 := wa_two (h.mono fun d1 μ1 h1 => h1.mono fun d2 μ2 q => ⟨d1, d2, rfl, q⟩) he1 he2
  refine (wS_of (D := endsD X.K T F R E) (ps_par (i := i) (j := j) hc hN hi hj hij hx hy (paW [a, b]) hw hs) (wA_mono (ha F R H σ hs' he) fun vs H1 ⟨F1, ds, μ1, hs1, s1, r, d1, d2, e, q⟩ => ?_)).run pins s I
  subst e
  cases r with
  | cons r1 t =>
    cases t with
    | cons r2 t =>
      cases t
      exact ⟨_, _, rfl, F1, _, μ1, hs1, s1, ((he.mono s1).set hl r1).set (by rw [List.length_set, I.len]; exact getEl_lt hj) r2, q⟩
theorem ws_par3 (i j l : Nat) {x y z : Str} {a b c : Expr} {px py pz pt : Pos} {kt k2 pt2} (hc : X.calm = true) (hN : X.N.Nodup) (h : WE X T G μ a fun d1 μ1 => WE X T G μ1 b fun d2 μ2 => WE X T G μ2 c fun d3 μ3 => E.nx (((G.set i (some d1)).set j (some d2)).set l (some d3)) μ3)
    (hw : swappedStores [.Tuple [.Name x px, .Name y py, .Name z pz] kt pt] (.Tuple [a, b, c] k2 pt2) X.env = pure (some [x, y, z])) (hi : X.N[i]? = some x := by rfl) (hj : X.N[j]? = some y := by rfl) (hk : X.N[l]? = some z := by rfl) (hij : i ≠ j := by decide) (hil : i ≠ l := by decide) (hjl : j ≠ l := by decide)
    (hx : X.env.scope.names.lookup x = some .local := by rfl) (hy : X.env.scope.names.lookup y = some .local := by rfl) (hz : X.env.scope.names.lookup z = some .local := by rfl)
    (hs : swapsWithSole [.Tuple [.Name x px, .Name y py, .Name z pz] kt pt] (.Tuple [a, b, c] k2 pt2) pos.line X.env = pure false := by rfl)
    (he1 : starEach [a, b, c] X.env = (false, eval a X.env) :: starEach [b, c] X.env := by rfl) (he2 : starEach [b, c] X.env = (false, eval b X.env) :: starEach [c] X.env := by rfl) (he3 : starEach [c] X.env = (false, eval c X.env) :: starEach [] X.env := by rfl) :
    WS X T G μ (.Assign [.Tuple [.Name x px, .Name y py, .Name z pz] kt pt] (.Tuple [a, b, c] k2 pt2) pos) E := by
  intro F R H σ hs' he; refine ⟨fun pins s I => ?_⟩
  have hl : i < σ.length := by rw [I.len]; exact getEl_lt hi
  have ha : WA X T G μ [a, b, c] fun ds μ2 => ∃ d1 d2 d3, ds = [d1, d2, d3] ∧ E.nx (((G.set i (some d1)).set j (some d2)).set l (some d3)) μ2 :=
    wa_cons (h.mono fun d1 μ1 h1 => wa_two (h1.mono fun d2 μ2 h2 => h2.mono fun d3 μ3 q => ⟨d1, d2, d3, rfl, q⟩) he2 he3) he1
  refine (wS_of (D := endsD X.K T F R E) (ps_par3 (i := i) (j := j) (l := l) hc hN hi hj hk hij hil hjl hx hy hz (paW [a, b, c]) hw hs) (wA_mono (ha F R H σ hs' he) fun vs H1 ⟨F1, ds, μ1, hs1, s1, r, d1, d2, d3, e, q⟩ => ?_)).run pins s I
  subst e
  cases r with
  | cons r1 t =>
    cases t with
    | cons r2 t =>
      cases t with
      | cons r3 t =>
        cases t
        exact ⟨_, _, _, rfl, F1, _, μ1, hs1, s1, (((he.mono s1).set hl r1).set (by rw [List.length_set, I.len]; exact getEl_lt hj) r2).set (by rw [List.length_set, List.length_set, I.len]; exact getEl_lt hk) r3, q⟩
end
end Ws
/-! WS, part E: targets, what is walked, loops, comprehensions. -/
namespace Ws
open PySem PyProof.Rows PySem.Spec L2

section
variable {X : Cx} {T : TabL} {G : GE} {μ : Mu} {pos p pos' : Pos} {e c tg iter : Expr} {es : List Expr} {st : Stmt} {sts body body2 : List Stmt} {E : DE} {Q : D → Mu → Prop}

/-! ### targets -/
theorem wg_name (i : Nat) {x : Str} {vs : List Nat} {d : D} {Q : GE → Mu → Prop} (hN : X.N.Nodup) (q : Q (G.set i (some d)) μ) (hm : i ∈ vs := by simp) (hi : X.N[i]? = some x := by rfl) (hx : Loc X.env.scope x := by first | exact Or.inl rfl | exact Or.inr rfl)
    (hf : X.fn x = true ∨ X.env.scope.names.lookup x = some .local := by first | exact .inl rfl | exact .inr rfl) : WG X T G μ (.Name x pos) vs d Q := by
  intro F R H σ v hs he r; refine ⟨fun pins s u I ru => ?_⟩
  have hl : i < σ.length := by rw [I.len]; exact getEl_lt hi
  exact (pg_name (i := i) hN hi hx hf).run pins s σ H v u _ I ru ⟨SameOff.set hm, F, _, μ, hs, Same.refl _, he.set hl r, q⟩
def wGs (X : Cx) (ts : List Expr) (vs : List V) (σ : L2.St) (H : Hp) (Q : L2.St → Hp → Prop) : Prop := ∀ (pins : List (Addr × Obj)) (s : Shared) (us : List Value), Inv X pins σ H s → Vals vs us →
    wpAny (model X.prog X.w) X.A (assignInOrder ((assignEach ts X.env).map (·.2)) us) (fun _ s' => ∃ σ' H', Inv X pins σ' H' s' ∧ Q σ' H') X.xe s
theorem pgsW (ts : List Expr) : PGs X ts (wGs X ts) := ⟨fun pins s σ H vs us Q I r h => h pins s us I r⟩
def WGs (X : Cx) (T : TabL) (G : GE) (μ : Mu) (ts : List Expr) (ks : List Nat) (ds : List D) (Q : GE → Mu → Prop) : Prop := ∀ F R H σ vs, Hs X.K T F μ R H → EnvR X.K F G σ → Reps X.K F ds vs → wGs X ts vs σ H (fun σ' H' => SameOff ks σ σ' ∧ FinS X.K T F R Q σ' H')
theorem wgs_nil {ks : List Nat} {Q : GE → Mu → Prop} (q : Q G μ) : WGs X T G μ [] ks [] Q := by
  intro F R H σ vs hs he r pins s us I ru
  cases r
  exact pgs_nil.run pins s σ H [] us _ I ru ⟨rfl, SameOff.refl _ _, F, G, μ, hs, Same.refl _, he, q⟩
theorem wgs_cons {t : Expr} {ts : List Expr} {ks : List Nat} {d : D} {ds : List D} {Q : GE → Mu → Prop} (h : WG X T G μ t ks d fun G1 μ1 => WGs X T G1 μ1 ts ks ds Q)
    (hs : (assignEach (t :: ts) X.env).map (·.2) = assign t X.env :: (assignEach ts X.env).map (·.2) := by rfl) : WGs X T G μ (t :: ts) ks (d :: ds) Q := by
  intro F R H σ vs hs' he r pins s us I ru
  cases r with
  | cons r t' =>
    refine (pgs_cons (pgW t) (pgsW ts) hs).run pins s σ H _ us _ I ru ⟨_, _, rfl, ?_⟩
    refine wG_mono (h F R H σ _ hs' he r) fun σ1 H1 ⟨so, F1, G1, μ1, hs1, s1, he1, q⟩ => ?_
    intro pins s us I ru
    exact thn (q F1 R H1 σ1 _ hs1 he1 (t'.mono s1) pins s us I ru) fun _ s' ⟨σ2, H2, J, so2, q2⟩ => ⟨σ2, H2, J, so.trans so2, q2.back s1⟩
theorem wg_tup {ks : List Nat} {d : D} {n k : Nat} {Q : GE → Mu → Prop} (hc : X.calm = true) (h : ∃ ds, d = .tup ds ∧ ds.length = n ∧ WGs X T G μ es ks ds Q) (hn : (assignEach es X.env).length = n := by rfl) (hst : (assignEach es X.env).findIdx? (·.1) = none := by rfl) : WG X T G μ (.Tuple es k pos) ks d Q := by
  intro F R H σ v hs he r; refine ⟨fun pins s u I ru => ?_⟩
  obtain ⟨ds, ed, el, h⟩ := h
  subst ed
  cases r with
  | tup hq rr => exact (pg_tup hc (pgsW es) hn hst).run pins s σ H _ u _ I ru ⟨_, _, rfl, hs.tupF hq, by rw [← rr.length]; exact el, h F R H σ _ hs he rr⟩
/-- target = value -/
theorem ws_asg {ks : List Nat} (h : WE X T G μ e fun d μ1 => WG X T G μ1 tg ks d E.nx) (hs : swapsWithSole [tg] e pos.line X.env = pure false := by rfl) (hw : swappedStores [tg] e X.env = pure none := by rfl)
    (h1 : (assignEach [tg] X.env).map (·.2) = [assign tg X.env] := by rfl) : WS X T G μ (.Assign [tg] e pos) E := fun F R H σ hs' he =>
  wS_of (D := endsD X.K T F R E) (ps_asg (peW e) (pgW tg) hs hw h1) (wE_mono (h F R H σ hs' he) fun v H1 ⟨F1, d, μ1, hs1, s1, r, q⟩ => wG_mono (q F1 R H1 σ v hs1 (he.mono s1) r) fun σ2 H2 ⟨_, z⟩ => FinS.back s1 z)

/-! ### what is walked -/
def ItOk (K : PySem.W.Frag) (T : TabL) (F : Hp) (J : It) (ds : List D) : Prop := ∀ F' μ' R' H, Same F F' → Hs K T F' μ' R' H →
  (∀ i, i < ds.length → J.go i H) ∧ J.stop ds.length H ∧ ∀ (i : Nat) (d : D) x H', ds[i]? = some d → J.yld i H x H' → ∃ F'', Hs K T F'' μ' R' H' ∧ Same F' F'' ∧ Rep K F'' d x
structure wI (X : Cx) (tg iter : Expr) (σ : L2.St) (H : Hp) (R : It → Hp → Prop) : Prop where
  run : ∀ (pins : List (Addr × Obj)) (s : Shared), Inv X pins σ H s →
    wpAny (model X.prog X.w) X.A (eval iter X.env) (fun v s1 => wpAny (model X.prog X.w) X.A (pyIter v) (PIE X pins σ tg R) X.xe s1) X.xe s
theorem piW (tg iter : Expr) : PI X tg iter (wI X tg iter) := ⟨fun pins s σ H R I h => h.run pins s I⟩
theorem wI_of {wi : TI} (p : PI X tg iter wi) {σ : L2.St} {H : Hp} {R : It → Hp → Prop} (h : wi σ H R) : wI X tg iter σ H R := ⟨fun pins s I => p.run pins s σ H R I h⟩
theorem wI_mono {σ : L2.St} {H : Hp} {R R' : It → Hp → Prop} (h : wI X tg iter σ H R) (m : ∀ J H', R J H' → R' J H') : wI X tg iter σ H R' := ⟨fun pins s I =>
  thn (h.run pins s I) fun v s1 q => thn q fun itv s2 ⟨it, fp, tn, J, H', a, b, c, d, e, f⟩ => ⟨it, fp, tn, J, H', a, b, c, d, e, m J H' f⟩⟩
def FinI (K : PySem.W.Frag) (T : TabL) (F R : Hp) (Q : List D → Mu → Prop) : It → Hp → Prop := fun J H1 => ∃ F1 μ1 ds, Hs K T F1 μ1 R H1 ∧ Same F F1 ∧ ItOk K T F1 J ds ∧ ds.length ≤ sizeLine ∧ Q ds μ1
def WI (X : Cx) (T : TabL) (G : GE) (μ : Mu) (tg iter : Expr) (Q : List D → Mu → Prop) : Prop := ∀ F R H σ, Hs X.K T F μ R H → EnvR X.K F G σ → wI X tg iter σ H (FinI X.K T F R Q)
/-- a fixed sequence -/
inductive FSq : D → List D → Prop
  | lst {ds : List D} : FSq (.lst ds) ds
  | tup {ds : List D} : FSq (.tup ds) ds
theorem FSq.sq {μ : Mu} {d : D} {ds : List D} (h : FSq d ds) : Sq μ d ds := by cases h; exact .lst; exact .tup
theorem pi_seq {l : Expr} {tl : TE} (hl : PE X l tl) : PI X tg l (fun σ H R => tl σ H fun x H1 => ∃ a, x = .ref a ∧ ((∃ xs, SqL X.K H1 a xs ∧ (xs.length ≤ sizeLine → R (Itl X.K a) H1)) ∨ ∃ xs, SqT X.K H1 a xs ∧ (xs.length ≤ sizeLine → R (Itt X.K a) H1))) := by
  refine ⟨fun pins s σ H R I h => thn (hl.run pins s σ H _ I h) fun v s1 ⟨x, H1, I1, r1, a, e, q1⟩ => ?_⟩
  subst e
  cases r1
  have own : ∀ b ∈ [s1.heap.objs.size], FpOk X pins H1 b := fun b hb => by
    rw [List.mem_singleton.mp hb]
    exact I1.fpOk (Nat.le_refl _) I1.fresh
  have keep : ∀ (o : Obj) (b : Addr) (u : Obj), s1.heap.get? b = some u → (s1.heap.push o).get? b = some u := fun _ _ _ e => Heap.get?_push_of_some _ e
  rcases q1 with ⟨xs, hq, q⟩ | ⟨xs, hq, q⟩
  · obtain ⟨_, _, p, hz⟩ := I1.list hq
    exact wpAny_pyIter_list p.isList ⟨s1.heap.objs.size, _, _, _, H1, rfl, I1.kept (t' := s1.toks) (keep _), turn_list a _, ⟨_, Heap.get?_push_size _ rfl, rfl, rfl⟩, own, q hz⟩
  · obtain ⟨_, _, p, hz⟩ := I1.tuple hq
    exact wpAny_pyIter_tuple p ⟨s1.heap.objs.size, _, _, _, H1, rfl, I1.kept (t' := s1.toks) (keep _), turn_tuple a _, ⟨_, Heap.get?_push_size _ rfl, rfl, rfl⟩, own, q hz⟩
theorem SqL_inj {K : PySem.W.Frag} {H : Hp} {a : Addr} {xs ys : List V} (h : H a = some (.lst xs)) (hk : K.lookup a = none) (q : SqL K H a ys) : ys = xs := by
  rcases q with (q | ⟨o, q⟩) | ⟨_, _, _, q, _⟩
  · rw [h] at q; cases q; rfl
  · rw [h] at q; cases q
  · rw [hk] at q; cases q
theorem itok_list {K : PySem.W.Frag} {F : Hp} {a : Addr} {vs : List V} {ds : List D} (h : F a = some (.lst vs)) (r : Reps K F ds vs) : ItOk K T F (Itl K a) ds := fun F' μ' R' H e hs => by
  have hH : SqL K H a vs := .of (hs.lstF (e _ _ h))
  refine ⟨fun i hi => ?_, ⟨vs, hH, Nat.le_of_eq r.length.symm⟩, fun i d x H' ed ⟨e1, e2⟩ => ?_⟩
  · have hi' : i < vs.length := by rw [← r.length]; exact hi
    exact ⟨vs, vs[i], hH, by simp [hi']⟩
  · subst e1
    obtain ⟨v, h1, h2⟩ := r.get ed
    have := e2 vs hH
    rw [h1] at this; cases this
    exact ⟨F', hs, Same.refl _, h2.mono e⟩
theorem itok_tup {K : PySem.W.Frag} {F : Hp} {a : Addr} {vs : List V} {ds : List D} (h : SqT K F a vs) (r : Reps K F ds vs) : ItOk K T F (Itt K a) ds := fun F' μ' R' H e hs => by
  have hH : SqT K H a vs := hs.tupF (Same.seqT e h)
  refine ⟨fun i hi => ?_, ⟨vs, hH, Nat.le_of_eq r.length.symm⟩, fun i d x H' ed ⟨e1, e2⟩ => ?_⟩
  · have hi' : i < vs.length := by rw [← r.length]; exact hi
    exact ⟨vs, vs[i], hH, by simp [hi']⟩
  · subst e1
    obtain ⟨v, h1, h2⟩ := r.get ed
    have := e2 vs hH
    rw [h1] at this; cases this
    exact ⟨F', hs, Same.refl _, h2.mono e⟩
theorem wi_seq {Q : List D → Mu → Prop} (h : WE X T G μ e fun d μ1 => ∃ ds, FSq d ds ∧ (ds.length ≤ sizeLine → Q ds μ1)) : WI X T G μ tg e Q :=
  fun F R H σ hs he => wI_of (pi_seq (peW e)) <| wE_mono (h F R H σ hs he) fun v H1 ⟨F1, d, μ1, hs1, s1, r, ds, fs, q⟩ => by
    cases fs with
    | lst => cases r with | lst h rr => exact ⟨_, rfl, .inl ⟨_, .of (hs1.lstF h), fun hz => ⟨F1, μ1, ds, hs1, s1, itok_list h rr, by rw [rr.length]; exact hz, q (by rw [rr.length]; exact hz)⟩⟩⟩
    | tup => cases r with | tup h rr => exact ⟨_, rfl, .inr ⟨_, hs1.tupF h, fun hz => ⟨F1, μ1, ds, hs1, s1, itok_tup h rr, by rw [rr.length]; exact hz, q (by rw [rr.length]; exact hz)⟩⟩⟩
def rngD (n : Nat) : List D := (List.range n).map fun i => D.int (i : Nat)
theorem itok_range {K : PySem.W.Frag} {F : Hp} {n : Nat} : ItOk K T F (Itr 0 n) (rngD n) := fun F' μ' R' H e hs => by
  refine ⟨fun i hi => ?_, ?_, fun i d x H' ed ⟨e1, e2⟩ => ?_⟩
  · show i < n; simpa [rngD] using hi
  · show n ≤ (rngD n).length; simp [rngD]
  · subst e1 e2
    unfold rngD at ed
    rw [List.getElem?_map] at ed
    by_cases hi : i < n
    · rw [List.getElem?_range hi] at ed
      cases ed
      refine ⟨F', hs, Same.refl _, ?_⟩
      rw [Int.zero_add]; exact .int _
    · rw [List.getElem?_eq_none (by simpa using hi)] at ed; cases ed
theorem wi_range {Q : List D → Mu → Prop} (hm : X.mg "range" = none) (h : WE X T G μ e fun d μ1 => ∃ j : Int, d = .int j ∧ j ≤ 100000 ∧ -100000 ≤ j ∧ Q (rngD j.toNat) μ1) (hg : Gl X "range" := by rfl) (hs : starEach [e] X.env = [(false, eval e X.env)] := by rfl) :
    WI X T G μ tg (.Call (.Name "range" p) [e] [] pos) Q :=
  fun F R H σ hs' he => wI_of (pi_range1 hg hm (paW [e]) hs) <| by
    have ha : WA X T G μ [e] fun ds μ1 => ∃ j : Int, ds = [.int j] ∧ j ≤ 100000 ∧ -100000 ≤ j ∧ Q (rngD j.toNat) μ1 := wa_one (h.mono fun d μ1 ⟨j, e, z, z', q⟩ => ⟨j, by rw [e], z, z', q⟩) hs
    refine wA_mono (ha F R H σ hs' he) fun vs H1 ⟨F1, ds, μ1, hs1, s1, r, j, e, z, z', q⟩ => ?_
    subst e
    cases r with
    | cons r t =>
      cases t; cases r
      refine ⟨j, rfl, by omega, by omega, F1, μ1, rngD j.toNat, hs1, s1, itok_range, ?_, q⟩
      simp only [rngD, List.length_map, List.length_range]
      rw [sizeLine_eq]; omega
theorem RepK.getK {K : PySem.W.Frag} {F : Hp} : ∀ {ds : List (Key × D)} {ps : List (Key × V)} {i : Nat} {k : Key} {v : V}, RepK K F ds ps → ps[i]? = some (k, v) → ∃ d, ds[i]? = some (k, d) ∧ Rep K F d v
  | _, _, _, _, _, .nil, e => by simp at e
  | _, _, 0, _, _, .cons h _, e => by simp at e; obtain ⟨rfl, rfl⟩ := e; exact ⟨_, rfl, h⟩
  | _, _, i + 1, k, v, .cons _ t, e => by
    obtain ⟨d, h1, h2⟩ := t.getK (i := i) (k := k) (v := v) (by simpa using e)
    exact ⟨d, by simpa using h1, h2⟩
/-- a dict: its keys -/
theorem itok_keys {K : PySem.W.Frag} {F : Hp} {a : Addr} {od : Obj} {ps : List (Key × V)} {kvs : List (Key × D)} (h : F a = some (.frz od (.dK ps))) (r : RepK K F kvs ps) : ItOk K T F (Itk a od ps) (kvs.map fun kv => kD kv.1) := fun F' μ' R' H e hs => by
  have hH := hs.f _ _ (e _ _ h)
  refine ⟨fun i hi => ⟨hH, by rw [← r.length]; simpa using hi⟩, ⟨hH, by rw [← r.length]; simp⟩, fun i d x H' ed ⟨e1, k, v, e2, e3⟩ => ?_⟩
  subst e1 e3
  obtain ⟨d', h1, _⟩ := r.getK e2
  rw [List.getElem?_map, h1] at ed
  cases ed
  exact ⟨F', hs, Same.refl _, key_rep k⟩
theorem wi_keys {Q : List D → Mu → Prop} (h : WE X T G μ e fun d μ1 => ∃ kvs : List (Key × D), d = .dic kvs ∧ kvs.length ≤ sizeLine ∧ Q (kvs.map fun kv => kD kv.1) μ1) : WI X T G μ tg e Q :=
  fun F R H σ hs he => wI_of (pi_keys (peW e)) <| wE_mono (h F R H σ hs he) fun v H1 ⟨F1, d, μ1, hs1, s1, r, kvs, ed, hz, q⟩ => by
    subst ed
    cases r with
    | dic hh rr => exact ⟨_, _, rfl, .inl ⟨_, hs1.f _ _ hh, F1, μ1, _, hs1, s1, itok_keys hh rr, by simpa using hz, q⟩⟩
/-- d.items(): new pairs -/
theorem itok_items {K : PySem.W.Frag} {F : Hp} {a : Addr} {od : Obj} {ps : List (Key × V)} {kvs : List (Key × D)} (h : F a = some (.frz od (.dK ps))) (r : RepK K F kvs ps) : ItOk K T F (Iti a od ps) (kvs.map fun kv => D.tup [kD kv.1, kv.2]) := fun F' μ' R' H e hs => by
  have hH := hs.f _ _ (e _ _ h)
  refine ⟨fun i hi => ⟨hH, by rw [← r.length]; simpa using hi⟩, ⟨hH, by rw [← r.length]; simp⟩, fun i d x H' ed ⟨b, k, v, e2, e3, hn, e4⟩ => ?_⟩
  subst e3 e4
  obtain ⟨d', h1, h2⟩ := r.getK e2
  rw [List.getElem?_map, h1] at ed
  cases ed
  have sm := same_upd (o := HO.tup [kV k, v]) (hs.noF hn)
  exact ⟨_, hs.new hn, sm, .tup (.of upd_same) (.cons (key_rep k) (.cons ((h2.mono e).mono sm) .nil))⟩
theorem wi_items {elts : List Expr} {kk : Nat} {tpos apos cpos : Pos} {Q : List D → Mu → Prop} (h : WE X T G μ e fun d μ1 => ∃ kvs : List (Key × D), d = .dic kvs ∧ kvs.length ≤ sizeLine ∧ Q (kvs.map fun kv => D.tup [kD kv.1, kv.2]) μ1)
    (hbase : attributeBase e "items" X.env (eval e X.env) = eval e X.env := by rfl) (hline : (apos.endLine == cpos.line) = true := by rfl) : WI X T G μ (.Tuple elts kk tpos) (.Call (.Attribute e "items" apos) [] [] cpos) Q :=
  fun F R H σ hs he => wI_of (pi_items (peW e) hbase hline) <| wE_mono (h F R H σ hs he) fun v H1 ⟨F1, d, μ1, hs1, s1, r, kvs, ed, hz, q⟩ => by
    subst ed
    cases r with
    | dic hh rr => exact ⟨_, _, _, rfl, hs1.f _ _ hh, F1, μ1, _, hs1, s1, itok_items hh rr, by simpa using hz, q⟩

/-! ### loops -/
theorem ws_for {ks : List Nat} (hc : X.calm = true) (h : WI X T G μ tg iter fun ds μ1 => ∃ I : Nat → GE → Mu → Prop, I 0 G μ1 ∧
      (∀ i d G' μ', ds[i]? = some d → I i G' μ' → WG X T G' μ' tg ks d fun G2 μ2 => WSs X T G2 μ2 body { nx := I (i + 1), ct := I (i + 1), bk := E.nx, rt := E.rt }) ∧ ∀ G' μ', I ds.length G' μ' → E.nx G' μ')
    (hp : PassesOwn (model X.prog X.w) X.A X.env X.xe := by exact PassesOwn.never) (hs : ∀ x, foldedSetIterable iter X.env x = pure x := by intro _; rfl) : WS X T G μ (.For tg iter body [] pos) E := by
  refine WS.of (ps_for hp hc (piW tg iter) (pgW tg) (pssW body) hs) fun F R H σ hs' he => ?_
  refine wI_mono (h F R H σ hs' he) ?_
  have key : ∀ (J : It) (H1 : Hp), (∃ F1 μ1 ds, Hs X.K T F1 μ1 R H1 ∧ Same F F1 ∧ ItOk X.K T F1 J ds ∧ ds.length ≤ sizeLine ∧ ∃ I : Nat → GE → Mu → Prop, I 0 G μ1 ∧
      (∀ i d G' μ', ds[i]? = some d → I i G' μ' → WG X T G' μ' tg ks d fun G2 μ2 => WSs X T G2 μ2 body { nx := I (i + 1), ct := I (i + 1), bk := E.nx, rt := E.rt }) ∧ ∀ G' μ', I ds.length G' μ' → E.nx G' μ') →
      ∃ W : Nat → Nat → L2.St → Hp → Prop, (∃ m, W 0 m σ H1) ∧ ∀ i m σ H, W i m σ H →
        (J.stop i H ∧ (endsD X.K T F R E).nx σ H) ∨ (J.go i H ∧ ∃ N : L2.St → Hp → Prop, (∀ σ' H', N σ' H' → ∃ m', m' < m ∧ W (i + 1) m' σ' H') ∧ ∀ x H', J.yld i H x H' → wG X tg x σ H' fun σ2 H2 => wSs X body { endsD X.K T F R E with nx := N, ct := N, bk := (endsD X.K T F R E).nx } σ2 H2) := by
    rintro J H1 ⟨F1, μ1, ds, hs1, s1, it, _, I, i0, step, done⟩
    refine ⟨fun i m σ H => m = ds.length - i ∧ i ≤ ds.length ∧ ∃ F' G' μ', Hs X.K T F' μ' R H ∧ Same F1 F' ∧ EnvR X.K F' G' σ ∧ I i G' μ', ⟨_, rfl, Nat.zero_le _, F1, G, μ1, hs1, Same.refl _, he.mono s1, i0⟩, ?_⟩
    rintro i m σ3 H3 ⟨rfl, hi, F', G', μ', hs3, s3, he3, hI⟩
    obtain ⟨go, stop, yld⟩ := it F' μ' R H3 s3 hs3
    by_cases hlt : i < ds.length
    · refine .inr ⟨go i hlt, fun σ' H' => ∃ F'' G'' μ'', Hs X.K T F'' μ'' R H' ∧ Same F1 F'' ∧ EnvR X.K F'' G'' σ' ∧ I (i + 1) G'' μ'', fun σ' H' ⟨F'', G'', μ'', a, b, c, d⟩ => ⟨ds.length - (i + 1), by omega, rfl, hlt, F'', G'', μ'', a, b, c, d⟩, fun x H4 y => ?_⟩
      have ed : ds[i]? = some ds[i] := by simp [hlt]
      obtain ⟨F4, hs4, s4, r4⟩ := yld i _ x H4 ed y
      refine wG_mono (step i _ G' μ' ed hI F4 R H4 σ3 x hs4 (he3.mono s4) r4) fun σ5 H5 ⟨_, F5, G5, μ5, hs5, s5, he5, q5⟩ => ?_
      have s15 : Same F1 F5 := (s3.trans s4).trans s5
      have sF : Same F F5 := s1.trans s15
      exact wSs_mono (q5 F5 R H5 σ5 hs5 he5) ⟨fun σ' H' ⟨F6, G6, μ6, a, b, c, d⟩ => ⟨F6, G6, μ6, a, s15.trans b, c, d⟩, fun _ _ z => Fin.back sF z, fun _ _ z => FinS.back sF z, fun σ' H' ⟨F6, G6, μ6, a, b, c, d⟩ => ⟨F6, G6, μ6, a, s15.trans b, c, d⟩⟩
    · have e : i = ds.length := by omega
      subst e
      exact .inl ⟨stop, F', G', μ', hs3, s1.trans s3, he3, done G' μ' hI⟩
  exact key
end
end Ws
/-! WS, part F: while, comprehensions, slices, methods of lists and dicts, stores. -/
namespace Ws
open PySem PyProof.Rows PySem.Spec L2

section
variable {X : Cx} {T : TabL} {G : GE} {μ : Mu} {pos p apos cpos tpos pos' : Pos} {e c tg iter elt a b o : Expr} {es : List Expr} {st : Stmt} {sts body body2 : List Stmt} {E : DE} {Q : D → Mu → Prop} {P : Bool → Mu → Prop}

theorem ws_while (I : Nat → GE → Mu → Prop) (n0 : Nat) (h0 : I n0 G μ) (h : ∀ n G' μ', I n G' μ' → WT X T G' μ' c fun k μ1 => if k = true then WSs X T G' μ1 body { nx := fun G2 μ2 => ∃ m, m < n ∧ I m G2 μ2, ct := fun G2 μ2 => ∃ m, m < n ∧ I m G2 μ2, bk := E.nx, rt := E.rt } else E.nx G' μ1)
    (hp : PassesOwn (model X.prog X.w) X.A X.env X.xe := by exact PassesOwn.never) : WS X T G μ (.While c body [] pos) E := by
  refine WS.of (ps_while hp (ptW c) (pssW body)) fun F R H σ hs he => ?_
  refine ⟨fun n σ' H' => ∃ F' G' μ', Hs X.K T F' μ' R H' ∧ Same F F' ∧ EnvR X.K F' G' σ' ∧ I n G' μ', ⟨n0, F, G, μ, hs, Same.refl _, he, h0⟩, ?_⟩
  rintro n σ' H' ⟨F', G', μ', hs', s', he', hI⟩
  refine wT_mono (h n G' μ' hI F' R H' σ' hs' he') fun k H1 ⟨F1, μ1, hs1, s1, q⟩ => ?_
  cases k with
  | true =>
    have sF := s'.trans s1
    refine ⟨fun σ2 H2 => ∃ m, m < n ∧ ∃ F' G' μ', Hs X.K T F' μ' R H2 ∧ Same F F' ∧ EnvR X.K F' G' σ2 ∧ I m G' μ', fun σ2 H2 z => z, ?_⟩
    have q : WSs X T G' μ1 body { nx := fun G2 μ2 => ∃ m, m < n ∧ I m G2 μ2, ct := fun G2 μ2 => ∃ m, m < n ∧ I m G2 μ2, bk := E.nx, rt := E.rt } := q
    exact wSs_mono (q F1 R H1 σ' hs1 (he'.mono s1)) ⟨fun σ2 H2 ⟨F2, G2, μ2, a, b, c, m, hm, hI⟩ => ⟨m, hm, F2, G2, μ2, a, sF.trans b, c, hI⟩, fun _ _ z => Fin.back sF z, fun _ _ z => FinS.back sF z, fun σ2 H2 ⟨F2, G2, μ2, a, b, c, m, hm, hI⟩ => ⟨m, hm, F2, G2, μ2, a, sF.trans b, c, hI⟩⟩
  | false => exact ⟨F1, G', μ1, hs1, s'.trans s1, he'.mono s1, q⟩

/-! ### list comprehensions: one for over a name -/
/-- a clause's tests -/
def WTs (X : Cx) (T : TabL) (G : GE) (μ : Mu) (ifs : List Expr) (P : Bool → Mu → Prop) : Prop := match ifs with
  | [] => P true μ
  | [c] => WT X T G μ c P
  | _ => False
theorem frame_new {K : PySem.W.Frag} {F R H : Hp} {D : Addr} {o : HO} (hs : Hs K T F μ R H) (n : H D = none) (hp1 : ∀ ps, o ≠ .tbl ps := by intro _ z; cases z) (hp2 : ∀ c q, o ≠ LamX.CodeO c q := by intro _ _ z; unfold LamX.CodeO at z; cases z) : Hs K T F μ (upd R D o) (upd H D o) where
  f := fun b u q => same_upd n _ _ (hs.f b u q)
  m := fun b u q => let ⟨z, e, r⟩ := hs.m b u q; ⟨z, same_upd n _ _ e, r⟩
  r := fun b u q => by
    by_cases hb : b = D
    · subst hb; rw [upd_same] at q ⊢; exact q
    · rw [upd_ne hb] at q; exact same_upd n _ _ (hs.r b u q)
  fm := hs.fm
  fr := fun b => by
    by_cases hb : b = D
    · subst hb; exact .inl (hs.noF n)
    · rw [upd_ne hb]; exact hs.fr b
  mr := fun b => by
    by_cases hb : b = D
    · subst hb; exact .inl (hs.noM n)
    · rw [upd_ne hb]; exact hs.mr b
  tb := hs.tb.ext (same_upd n)
  ntF := hs.ntF
  ntR := fun b u q => by
    by_cases hb : b = D
    · subst hb; rw [upd_same] at q; cases q; exact ⟨hp1, hp2⟩
    · rw [upd_ne hb] at q; exact hs.ntR b u q
  lb := hs.lb
  rb := fun b u q => by
    have q' := hs.rb b u q
    rw [upd_ne (by rintro rfl; rw [hs.noR n] at q'; cases q')]; exact q'
theorem frame_set {K : PySem.W.Frag} {F R H : Hp} {D : Addr} {vs ws : List V} (hs : Hs K T F μ (upd R D (.lst vs)) H) (hT : T.rb D = none) : Hs K T F μ (upd R D (.lst ws)) (upd H D (.lst ws)) := by
  have nF : F D = none := (hs.fr D).resolve_right (by rw [upd_same]; simp)
  have nM : μ D = none := (hs.mr D).resolve_right (by rw [upd_same]; simp)
  have hD : H D = some (.lst vs) := hs.r D _ upd_same
  refine ⟨fun b u q => ?_, fun b u q => ?_, fun b u q => ?_, hs.fm, fun b => ?_, fun b => ?_, tabs_upd hs.tb hD (fun _ z => by cases z) (fun _ _ z => by unfold LamX.CodeO at z; cases z), hs.ntF, fun b u q => (by
    by_cases hb : b = D
    · subst hb; rw [upd_same] at q; cases q; exact ⟨fun _ z => (by cases z), fun _ _ z => (by unfold LamX.CodeO at z; cases z)⟩
    · rw [upd_ne hb] at q; exact hs.ntR b u (by rw [upd_ne hb]; exact q)), hs.lb, fun b u q => (by
    have hb : b ≠ D := by rintro rfl; rw [hT] at q; cases q
    have z := hs.rb b u q
    rw [upd_ne hb] at z ⊢; exact z)⟩
  · rw [upd_ne (by rintro rfl; rw [nF] at q; cases q)]; exact hs.f b u q
  · obtain ⟨z, e, r⟩ := hs.m b u q
    exact ⟨z, by rw [upd_ne (by rintro rfl; rw [nM] at q; cases q)]; exact e, r⟩
  · by_cases hb : b = D
    · subst hb; rw [upd_same] at q ⊢; exact q
    · rw [upd_ne hb] at q ⊢; exact hs.r b u (by rw [upd_ne hb]; exact q)
  · by_cases hb : b = D
    · subst hb; exact .inl nF
    · have := hs.fr b; rw [upd_ne hb] at this ⊢; exact this
  · by_cases hb : b = D
    · subst hb; exact .inl nM
    · have := hs.mr b; rw [upd_ne hb] at this ⊢; exact this
theorem frame_fix {K : PySem.W.Frag} {F R H : Hp} {D : Addr} {o : HO} (hs : Hs K T F μ (upd R D o) H) (hR : R D = none) (hT : T.rb D = none) : Hs K T (upd F D o) μ R H := by
  have nF : F D = none := (hs.fr D).resolve_right (by rw [upd_same]; simp)
  have nM : μ D = none := (hs.mr D).resolve_right (by rw [upd_same]; simp)
  refine ⟨fun b u q => ?_, fun b u q => ?_, fun b u q => ?_, fun b => ?_, fun b => ?_, fun b => ?_, hs.tb, fun b u q => (by
    by_cases hb : b = D
    · subst hb; rw [upd_same] at q; cases q; exact (hs.ntR b _ upd_same).1
    · rw [upd_ne hb] at q; exact hs.ntF b u q), fun b u q => hs.ntR b u (by rw [upd_ne (by rintro rfl; rw [hR] at q; cases q)]; exact q), hs.lb.trans (same_upd nF), fun b u q => (by
    have hb : b ≠ D := by rintro rfl; rw [hT] at q; cases q
    have z := hs.rb b u q
    rw [upd_ne hb] at z; exact z)⟩
  · by_cases hb : b = D
    · subst hb; rw [upd_same] at q; exact hs.r b u (by rw [upd_same]; exact q)
    · rw [upd_ne hb] at q; exact hs.f b u q
  · obtain ⟨z, e, r⟩ := hs.m b u q
    exact ⟨z, e, r.mono (same_upd nF)⟩
  · exact hs.r b u (by rw [upd_ne (by rintro rfl; rw [hR] at q; cases q)]; exact q)
  · by_cases hb : b = D
    · subst hb; exact .inr nM
    · rw [upd_ne hb]; exact hs.fm b
  · by_cases hb : b = D
    · subst hb; exact .inr hR
    · rw [upd_ne hb]; have := hs.fr b; rw [upd_ne hb] at this; exact this
  · by_cases hb : b = D
    · subst hb; exact .inl nM
    · have := hs.mr b; rw [upd_ne hb] at this; exact this

theorem ptsW {ifs : List Expr} (hl : ifs.length ≤ 1) : PTs X ifs (fun σ H Q => match ifs with | [] => Q true H | c :: _ => wT X c σ H Q) := by
  match ifs, hl with
  | [], _ => exact pts_nil
  | [c], _ => exact pts_one (ptW c)
def tIfs (X : Cx) (scope : Scope) (ifs : List Expr) : TT := fun σ H Q => ∀ (s0 : Shared) (H0 : Hp) (C : Addr) (cl : List (Str × Addr)) (fp : List Addr), match ifs with
  | [] => Q true H
  | c :: _ => wT (X.blk s0 H0 scope (compEnvC scope cl C X.env) fp) c σ H Q
def tElt (X : Cx) (scope : Scope) (elt : Expr) : TE := fun σ H Q => ∀ (s0 : Shared) (H0 : Hp) (C : Addr) (cl : List (Str × Addr)) (fp : List Addr), wE (X.blk s0 H0 scope (compEnvC scope cl C X.env) fp) elt σ H Q
theorem ptsI {X : Cx} {scope : Scope} {ifs : List Expr} (hl : ifs.length ≤ 1) (s0 : Shared) (H0 : Hp) (C : Addr) (cl : List (Str × Addr)) (fp : List Addr) : PTs (X.blk s0 H0 scope (compEnvC scope cl C X.env) fp) ifs (tIfs X scope ifs) := by
  refine ⟨fun pins s σ H Q I h => (ptsW (X := X.blk s0 H0 scope (compEnvC scope cl C X.env) fp) hl).run pins s σ H Q I ?_⟩
  have q := h s0 H0 C cl fp
  match ifs, hl with
  | [], _ => exact q
  | [c], _ => exact q
theorem peI {X : Cx} {scope : Scope} {elt : Expr} (s0 : Shared) (H0 : Hp) (C : Addr) (cl : List (Str × Addr)) (fp : List Addr) : PE (X.blk s0 H0 scope (compEnvC scope cl C X.env) fp) elt (tElt X scope elt) := ⟨fun pins s σ H Q I h => (h s0 H0 C cl fp).run pins s I⟩
/-- what a comprehension owes: x its name, i its slot -/
def LcOk (X : Cx) (T : TabL) (G : GE) (scope : Scope) (ifs : List Expr) (elt : Expr) (i : Nat) (Q : D → Mu → Prop) (ds : List D) (μ1 : Mu) : Prop :=
  ∃ P : Nat → List D → Mu → Prop, P 0 [] μ1 ∧
    (∀ (j : Nat) (d : D) (acc : List D) (μ' : Mu), ds[j]? = some d → P j acc μ' → acc.length ≤ j → ∀ (s : Shared) (H : Hp) (C : Addr) (cl : List (Str × Addr)) (fp : List Addr),
      WTs (X.blk s H scope (compEnvC scope cl C X.env) fp) T (G.set i (some d)) μ' ifs fun k μ3 => if k = true then ∀ (s : Shared) (H : Hp) (C : Addr) (cl : List (Str × Addr)) (fp : List Addr), WE (X.blk s H scope (compEnvC scope cl C X.env) fp) T (G.set i (some d)) μ3 elt (fun y μ4 => P (j + 1) (acc ++ [y]) μ4) else P (j + 1) acc μ3) ∧
    ∀ acc μ', P ds.length acc μ' → acc.length ≤ ds.length → Q (.lst acc) μ'
theorem lc_read {ifs : List Expr} {scope : Scope} {x : Str} {i : Nat} (hl : ifs.length ≤ 1) (h : WI X T G μ tg iter (LcOk X T G scope ifs elt i Q)) {F R H : Hp} {σ : L2.St} (hi : i < σ.length) (hs : Hs X.K T F μ R H) (he : EnvR X.K F G σ) :
    tLc (wI X tg iter) (gName i) (tIfs X scope ifs)
      (tElt X scope elt) [i] σ H (Fin X.K T F R Q) := by
  refine wI_mono (h F R H σ hs he) fun J H1 ⟨F1, μ1, ds, hs1, s1, it, hz, PP, p0, step, done⟩ => ?_
  intro D hD
  have nR : R D = none := hs1.noR hD
  have nT : T.rb D = none := hs1.rb.free nR
  refine ⟨fun j m H => m = ds.length - j ∧ j ≤ ds.length ∧ ∃ F' μ' acc vs, Hs X.K T F' μ' (upd R D (.lst vs)) H ∧ Same F1 F' ∧ Reps X.K F' acc vs ∧ acc.length ≤ j ∧ PP j acc μ', ⟨_, rfl, Nat.zero_le _, F1, μ1, [], [], frame_new hs1 hD, Same.refl _, .nil, Nat.le_refl _, p0⟩, ?_⟩
  rintro j m H3 ⟨rfl, hj, F', μ', acc, vs, hs3, s3, r3, hlen, hP⟩
  obtain ⟨go, stop, yld⟩ := it F' μ' _ H3 s3 hs3
  by_cases hlt : j < ds.length
  · refine .inr ⟨go j hlt, fun H' => ∃ F'' μ'' acc' vs', Hs X.K T F'' μ'' (upd R D (.lst vs')) H' ∧ Same F1 F'' ∧ Reps X.K F'' acc' vs' ∧ acc'.length ≤ j + 1 ∧ PP (j + 1) acc' μ'', fun H' ⟨F'', μ'', acc', vs', a, b, c, d, e⟩ => ⟨ds.length - (j + 1), by omega, rfl, hlt, F'', μ'', acc', vs', a, b, c, d, e⟩, fun x H4 y => ?_⟩
    have ed : ds[j]? = some ds[j] := by simp [hlt]
    obtain ⟨F4, hs4, s4, r4⟩ := yld j _ x H4 ed y
    have he4 : EnvR X.K F4 (G.set i (some ds[j])) ((wipe σ [i]).set i (some x)) := by
      have e1 : (wipe σ [i]).set i (some x) = σ.set i (some x) := by
        show (σ.set i none).set i (some x) = _
        rw [List.set_set]
      rw [e1]
      exact (he.mono ((s1.trans s3).trans s4)).set hi r4
    refine ⟨by show ((wipe σ [i]).set i (some x)).set i none = (σ.set i none); show ((σ.set i none).set i (some x)).set i none = _; rw [List.set_set, List.set_set], ?_⟩
    have fin : ∀ {k : Bool} {H5 : Hp}, FinT X.K T F4 (upd R D (.lst vs)) (fun k μ3 => if k = true then ∀ (s : Shared) (H : Hp) (C : Addr) (cl : List (Str × Addr)) (fp : List Addr), WE (X.blk s H scope (compEnvC scope cl C X.env) fp) T (G.set i (some ds[j])) μ3 elt (fun y μ4 => PP (j + 1) (acc ++ [y]) μ4) else PP (j + 1) acc μ3) k H5 →
        if k = true then (∀ (s0 : Shared) (H0 : Hp) (C : Addr) (cl : List (Str × Addr)) (fp : List Addr), wE (X.blk s0 H0 scope (compEnvC scope cl C X.env) fp) elt ((wipe σ [i]).set i (some x)) H5 fun y H6 => ∃ acc0, H6 D = some (.lst acc0) ∧ acc0.length < sizeLine ∧ ∃ F'' μ'' acc' vs', Hs X.K T F'' μ'' (upd R D (.lst vs')) (upd H6 D (.lst (acc0 ++ [y]))) ∧ Same F1 F'' ∧ Reps X.K F'' acc' vs' ∧ acc'.length ≤ j + 1 ∧ PP (j + 1) acc' μ'')
        else ∃ F'' μ'' acc' vs', Hs X.K T F'' μ'' (upd R D (.lst vs')) H5 ∧ Same F1 F'' ∧ Reps X.K F'' acc' vs' ∧ acc'.length ≤ j + 1 ∧ PP (j + 1) acc' μ'' := by
      intro k H5 ⟨F5, μ5, hs5, s5, q5⟩
      cases k with
      | false => exact ⟨F5, μ5, acc, vs, hs5, (s3.trans s4).trans s5, r3.mono (s4.trans s5), by omega, q5⟩
      | true =>
        intro s0 H0 C cl fp
        refine wE_mono (q5 s0 H0 C cl fp F5 _ H5 _ hs5 (he4.mono s5)) fun y H6 ⟨F6, d6, μ6, hs6, s6, r6, q6⟩ => ?_
        refine ⟨vs, hs6.r D _ upd_same, by rw [← r3.length]; omega, F6, μ6, acc ++ [d6], vs ++ [y], frame_set hs6 nT, ((s3.trans s4).trans s5).trans s6, (r3.mono ((s4.trans s5).trans s6)).append (.cons r6 .nil), by simp; omega, q6⟩
    intro s0 H0 C cl fp
    have q := step j _ acc μ' ed hP hlen s0 H0 C cl fp
    match ifs, hl with
    | [], _ => exact fin ⟨F4, μ', hs4, Same.refl _, q⟩
    | [c], _ => exact wT_mono (q F4 _ H4 _ hs4 he4) fun k H5 z => fin z
  · have e : j = ds.length := by omega
    subst e
    exact .inl ⟨stop, _, .lst acc, μ', frame_fix hs3 nR nT, (s1.trans s3).trans (same_upd ((hs3.fr D).resolve_right (by rw [upd_same]; simp))), .lst upd_same (r3.mono (same_upd ((hs3.fr D).resolve_right (by rw [upd_same]; simp)))), done acc μ' hP hlen⟩
theorem we_lc (i : Nat) {x : Str} {ifs : List Expr} {scope : Scope} (hN : X.N.Nodup) (hc : X.calm = true) (ok : BlkOk X.N X.env.scope scope [(x, i)]) (h : WI X T G μ (.Name x tpos) iter (LcOk X T G scope ifs elt i Q)) (hi : X.N[i]? = some x := by rfl)
    (hx : ∀ (C : Addr) (cl : List (Str × Addr)), Loc (compEnvC scope cl C X.env).scope x := by intro _ _; first | exact Or.inl rfl | exact Or.inr rfl) (hf : ∀ (C : Addr) (cl : List (Str × Addr)), (scope.names.lookup x == some .cell) = true ∨ (compEnvC scope cl C X.env).scope.names.lookup x = some .local := by intro _ _; first | exact .inr rfl | exact .inl rfl)
    (hl : ifs.length ≤ 1 := by decide) (hs : ∀ x, foldedSetIterable iter X.env x = pure x := by intro _; rfl) : WE X T G μ (.ListComp elt [⟨.Name x tpos, iter, ifs, 0⟩] scope pos) Q := by
  intro F R H σ hs' he; refine ⟨fun pins s I => ?_⟩
  have hl' : i < σ.length := by rw [I.len]; exact getEl_lt hi
  refine (wE_of (pe_lc (own := [(x, i)]) (g := gName i) hc hN (piW _ iter) ok (fun s H C cl fp => pg_name (i := i) hN hi (hx C cl) (hf C cl)) (ptsI hl) peI hs) (lc_read (x := x) hl h hl' hs' he)).run pins s I
/-- y = [..] on one line -/
theorem ws_lc (k i : Nat) {x y : Str} {ifs : List Expr} {scope : Scope} {py : Pos} (hN : X.N.Nodup) (hc : X.calm = true) (ok : BlkOk X.N X.env.scope scope [(x, i)]) (h : WI X T G μ (.Name x tpos) iter (LcOk X T G scope ifs elt i fun d μ1 => E.nx (G.set k (some d)) μ1)) (hi : X.N[i]? = some x := by rfl) (hk : X.N[k]? = some y := by rfl)
    (hyl : X.env.scope.names.lookup y = some .local := by rfl) (hsw : swapsWith (.ListComp elt [⟨.Name x tpos, iter, ifs, 0⟩] scope pos) (some (.Name y py)) pos'.line X.env = pure true := by exact sw_true rfl rfl rfl (by decide +kernel))
    (hx : ∀ (C : Addr) (cl : List (Str × Addr)), Loc (compEnvC scope cl C X.env).scope x := by intro _ _; first | exact Or.inl rfl | exact Or.inr rfl) (hf : ∀ (C : Addr) (cl : List (Str × Addr)), (scope.names.lookup x == some .cell) = true ∨ (compEnvC scope cl C X.env).scope.names.lookup x = some .local := by intro _ _; first | exact .inr rfl | exact .inl rfl)
    (hl : ifs.length ≤ 1 := by decide) (hs : ∀ x, foldedSetIterable iter X.env x = pure x := by intro _; rfl) : WS X T G μ (.Assign [.Name y py] (.ListComp elt [⟨.Name x tpos, iter, ifs, 0⟩] scope pos) pos') E := by
  intro F R H σ hs' he; refine ⟨fun pins s I => ?_⟩
  have hl' : i < σ.length := by rw [I.len]; exact getEl_lt hi
  have hk' : k < σ.length := by rw [I.len]; exact getEl_lt hk
  refine (wS_of (D := endsD X.K T F R E) (ps_setLc (own := [(x, i)]) (g := gName i) hc hN hk hyl hsw (piW _ iter) ok (fun s H C cl fp => pg_name (i := i) hN hi (hx C cl) (hf C cl)) (ptsI hl) peI hs) ?_).run pins s I
  · have q := lc_read (x := x) hl h hl' hs' he
    have m : ∀ v H', Fin X.K T F R (fun d μ1 => E.nx (G.set k (some d)) μ1) v H' → gName k v σ H' (endsD X.K T F R E).nx := fun v H' ⟨F1, d, μ1, hs1, s1, r, q⟩ => ⟨F1, _, μ1, hs1, s1, (he.mono s1).set hk' r, q⟩
    exact wI_mono q fun J H1 z D hD => let ⟨W, w0, t⟩ := z D hD; ⟨W, w0, fun j mm H w => (t j mm H w).elim (fun ⟨a, b⟩ => .inl ⟨a, m _ _ b⟩) .inr⟩
end
end Ws
/-! WS, part G: methods of lists, slices, sums, comparisons of data. -/
namespace Ws
open PySem PyProof.Rows PySem.Spec L2

section
variable {X : Cx} {T : TabL} {G : GE} {μ : Mu} {pos p apos cpos p2 : Pos} {e o a b c : Expr} {es : List Expr} {Q : D → Mu → Prop} {P : Bool → Mu → Prop} {lo hi : Option Expr}

/-! ### methods of built-in things -/
theorem we_bm {Ty id : String} {name : Str} {r : V → List V → Hp → VK → Prop} (pa : PlainAttrs Ty) (slot : Slot Ty name id) (hty : typeOf (.builtin id) = pure (.type "method_descriptor")) (hm : MtR X id r)
    (h : WE X T G μ o fun d0 μ1 => (∀ F R H x, Hs X.K T F μ1 R H → Rep X.K F d0 x → tyV X.K Ty x H) ∧ WA X T G μ1 (e :: es) fun ds μ2 => ∀ F0 F R H x vs, Same F0 F → Hs X.K T F μ2 R H → Rep X.K F d0 x → Reps X.K F ds vs → r x vs H (Fin X.K T F0 R Q))
    (hbase : attributeBase o name X.env (eval o X.env) = eval o X.env := by rfl)
    (hfew : ((backTo cpos (starEach (e :: es) X.env)).all (fun x => !x.1) && (backToKw cpos (keywordEach [] X.env)).all (fun x => x.1.isSome)
      && decide ((e :: es).length + ([] : List Keyword).length + (if ([] : List Keyword).isEmpty then 0 else 1) < 30)) = true := by rfl)
    (hline : (apos.endLine == cpos.line) = true := by rfl) (hs : starEach (e :: es) X.env = (false, eval e X.env) :: starEach es X.env := by rfl) (hplain : (backTo cpos (starEach es X.env)).any (·.1) = false := by rfl) :
    WE X T G μ (.Call (.Attribute o name apos) (e :: es) [] cpos) Q :=
  WE.of (pe_bm pa slot hty hm (peW o) (paW (e :: es)) hbase hfew hline hs hplain) fun F R H σ hs he =>
    wE_mono (h F R H σ hs he) fun x H1 ⟨F1, d0, μ1, hs1, s1, r1, ty, h1⟩ => ⟨ty F1 R H1 x hs1 r1, wA_mono (h1 F1 R H1 σ hs1 (he.mono s1)) fun vs H2 ⟨F2, ds, μ2, hs2, s2, r2, q⟩ => q F F2 R H2 x vs (s1.trans s2) hs2 (r1.mono s2) r2⟩
theorem we_bm0 {Ty id : String} {name : Str} {r : V → List V → Hp → VK → Prop} (pa : PlainAttrs Ty) (slot : Slot Ty name id) (hty : typeOf (.builtin id) = pure (.type "method_descriptor")) (hm : MtR X id r)
    (h : WE X T G μ o fun d0 μ1 => ∀ F0 F R H x, Same F0 F → Hs X.K T F μ1 R H → Rep X.K F d0 x → tyV X.K Ty x H ∧ r x [] H (Fin X.K T F0 R Q))
    (hbase : attributeBase o name X.env (eval o X.env) = eval o X.env := by rfl) (hline : (apos.endLine == cpos.line) = true := by rfl) : WE X T G μ (.Call (.Attribute o name apos) [] [] cpos) Q :=
  WE.of (pe_bm0 pa slot hty hm (peW o) hbase hline) fun F R H σ hs he => wE_mono (h F R H σ hs he) fun x H1 ⟨F1, d0, μ1, hs1, s1, r1, q⟩ => q F F1 R H1 x s1 hs1 r1
theorem ty_list {d : D} {ds : List D} (h : SqLi μ d ds) : ∀ F R H x, Hs X.K T F μ R H → Rep X.K F d x → tyV X.K "list" x H := fun F R H x hs r => by
  obtain ⟨p, vs, rfl, hq, _⟩ := h.at hs r
  exact .inl ⟨rfl, vs, .of hq⟩
theorem fin_write {K : PySem.W.Frag} {F R H : Hp} {d : D} {v : V} {mo mo' : MO} {o' : HO} {l : Addr} (hs : Hs K T F μ R H) (n : μ l = some mo) (r : MRep K F mo' o') (rv : Rep K F d v) (q : Q d (mset μ l mo')) : Fin K T F R Q v (upd H l o') :=
  ⟨F, d, _, hs.write n r, Same.refl _, rv, q⟩
theorem we_append (h : WE X T G μ o fun d0 μ1 => ∃ l, d0 = .ref l ∧ (∃ ds, μ1 l = some (.ml ds)) ∧ WE X T G μ1 e fun d μ2 => ∃ ds, μ2 l = some (.ml ds) ∧ ds.length < sizeLine ∧ Q .non (mset μ2 l (.ml (ds ++ [d]))))
    (hbase : attributeBase o "append" X.env (eval o X.env) = eval o X.env := by rfl) (hline : (apos.endLine == cpos.line) = true := by rfl) (hs : starEach [e] X.env = (false, eval e X.env) :: starEach [] X.env := by rfl)
    (hfew : ((backTo cpos (starEach [e] X.env)).all (fun x => !x.1) && (backToKw cpos (keywordEach [] X.env)).all (fun x => x.1.isSome)
      && decide ([e].length + ([] : List Keyword).length + (if ([] : List Keyword).isEmpty then 0 else 1) < 30)) = true := by rfl) : WE X T G μ (.Call (.Attribute o "append" apos) [e] [] cpos) Q :=
  we_bm PySem.F.plainAttrs_list PySem.F.slot_list_append PySem.F.type_list_append mt_append (h.mono fun d0 μ1 ⟨l, e0, ⟨ds0, em⟩, h1⟩ => ⟨by subst e0; exact ty_list (.ml em), wa_one (h1.mono fun d μ2 ⟨ds, em, hz, q⟩ F0 F R H x vs s hs rx rv => by
    subst e0; cases rx
    cases rv with
    | cons r t =>
      cases t
      obtain ⟨vs, e1, rr⟩ := hs.ml em
      exact ⟨l, vs, _, rfl, rfl, e1, by rw [← rr.length]; exact hz, (fin_write hs em (.ml (rr.append (.cons r .nil))) .non q).back s⟩) hs⟩) hbase hfew hline hs (by rfl)
theorem we_extend (h : WE X T G μ o fun d0 μ1 => ∃ l, d0 = .ref l ∧ (∃ ds, μ1 l = some (.ml ds)) ∧ WE X T G μ1 e fun d μ2 => ∃ ds es, μ2 l = some (.ml ds) ∧ SqLi μ2 d es ∧ ds.length + es.length ≤ sizeLine ∧ Q .non (mset μ2 l (.ml (ds ++ es))))
    (hbase : attributeBase o "extend" X.env (eval o X.env) = eval o X.env := by rfl) (hline : (apos.endLine == cpos.line) = true := by rfl) (hs : starEach [e] X.env = (false, eval e X.env) :: starEach [] X.env := by rfl)
    (hfew : ((backTo cpos (starEach [e] X.env)).all (fun x => !x.1) && (backToKw cpos (keywordEach [] X.env)).all (fun x => x.1.isSome)
      && decide ([e].length + ([] : List Keyword).length + (if ([] : List Keyword).isEmpty then 0 else 1) < 30)) = true := by rfl) : WE X T G μ (.Call (.Attribute o "extend" apos) [e] [] cpos) Q :=
  we_bm PySem.F.plainAttrs_list PySem.F.slot_list_extend PySem.F.type_list_extend mt_extend (h.mono fun d0 μ1 ⟨l, e0, ⟨ds0, em⟩, h1⟩ => ⟨by subst e0; exact ty_list (.ml em), wa_one (h1.mono fun d μ2 ⟨ds, es, em, sq, hz, q⟩ F0 F R H x vs s hs rx rv => by
    subst e0; cases rx
    cases rv with
    | cons r t =>
      cases t
      obtain ⟨vs, e1, rr⟩ := hs.ml em
      obtain ⟨b, ws, rfl, hb, rb⟩ := sq.at hs r
      exact ⟨l, b, vs, ws, rfl, rfl, e1, hb, by rw [← rr.length, ← rb.length]; exact hz, (fin_write hs em (.ml (rr.append rb)) .non q).back s⟩) hs⟩) hbase hfew hline hs (by rfl)
theorem we_pop (h : WE X T G μ o fun d0 μ1 => ∃ l ds d, d0 = .ref l ∧ μ1 l = some (.ml ds) ∧ ds[ds.length - 1]? = some d ∧ Q d (mset μ1 l (.ml ds.dropLast)))
    (hbase : attributeBase o "pop" X.env (eval o X.env) = eval o X.env := by rfl) (hline : (apos.endLine == cpos.line) = true := by rfl) : WE X T G μ (.Call (.Attribute o "pop" apos) [] [] cpos) Q :=
  we_bm0 PySem.F.plainAttrs_list PySem.F.slot_list_pop PySem.F.type_list_pop mt_pop (h.mono fun d0 μ1 ⟨l, ds, d, e0, em, ed, q⟩ F0 F R H x s hs rx => by
    subst e0; cases rx
    obtain ⟨vs, e1, rr⟩ := hs.ml em
    obtain ⟨v, e2, r2⟩ := rr.get ed
    exact ⟨.inl ⟨rfl, vs, .of e1⟩, l, vs, v, rfl, rfl, e1, by rw [← rr.length]; exact e2, (fin_write hs em (.ml rr.dropLast) r2 q).back s⟩) hbase hline
theorem we_popAt (h : WE X T G μ o fun d0 μ1 => ∃ l, d0 = .ref l ∧ (∃ ds, μ1 l = some (.ml ds)) ∧ WE X T G μ1 e fun d μ2 => ∃ ds k y, μ2 l = some (.ml ds) ∧ d = .int (k : Nat) ∧ k < 2 ^ 62 ∧ ds[k]? = some y ∧ Q y (mset μ2 l (.ml (ds.eraseIdx k))))
    (hbase : attributeBase o "pop" X.env (eval o X.env) = eval o X.env := by rfl) (hline : (apos.endLine == cpos.line) = true := by rfl) (hs : starEach [e] X.env = (false, eval e X.env) :: starEach [] X.env := by rfl)
    (hfew : ((backTo cpos (starEach [e] X.env)).all (fun x => !x.1) && (backToKw cpos (keywordEach [] X.env)).all (fun x => x.1.isSome)
      && decide ([e].length + ([] : List Keyword).length + (if ([] : List Keyword).isEmpty then 0 else 1) < 30)) = true := by rfl) : WE X T G μ (.Call (.Attribute o "pop" apos) [e] [] cpos) Q :=
  we_bm PySem.F.plainAttrs_list PySem.F.slot_list_pop PySem.F.type_list_pop mt_popAt (h.mono fun d0 μ1 ⟨l, e0, ⟨ds0, em⟩, h1⟩ => ⟨by subst e0; exact ty_list (.ml em), wa_one (h1.mono fun d μ2 ⟨ds, k, y, em, ed, hk, ey, q⟩ F0 F R H x vs s hs rx rv => by
    subst e0 ed; cases rx
    cases rv with
    | cons r t =>
      cases t; cases r
      obtain ⟨vs, e1, rr⟩ := hs.ml em
      obtain ⟨v, e2, r2⟩ := rr.get ey
      have hlt : k < vs.length := (List.getElem?_eq_some_iff.mp e2).1
      refine ⟨l, vs, (k : Int), k, v, rfl, rfl, e1, by omega, by omega, ?_, e2, (fin_write hs em (.ml (rr.eraseIdx k)) r2 q).back s⟩
      unfold seqIndex?
      simp; omega) hs⟩) hbase hfew hline hs (by rfl)
theorem we_insert {e' : Expr} (h : WE X T G μ o fun d0 μ1 => ∃ l, d0 = .ref l ∧ (∃ ds, μ1 l = some (.ml ds)) ∧ WE X T G μ1 e fun d μ2 => WE X T G μ2 e' fun d' μ3 => ∃ (ds : List D) (k : Nat), μ3 l = some (.ml ds) ∧ d = .int k ∧ k < 2 ^ 62 ∧ ds.length < sizeLine ∧ Q .non (mset μ3 l (.ml (ds.take k ++ [d'] ++ ds.drop k))))
    (hbase : attributeBase o "insert" X.env (eval o X.env) = eval o X.env := by rfl) (hline : (apos.endLine == cpos.line) = true := by rfl) (hs : starEach [e, e'] X.env = (false, eval e X.env) :: starEach [e'] X.env := by rfl) (hs' : starEach [e'] X.env = (false, eval e' X.env) :: starEach [] X.env := by rfl)
    (hfew : ((backTo cpos (starEach [e, e'] X.env)).all (fun x => !x.1) && (backToKw cpos (keywordEach [] X.env)).all (fun x => x.1.isSome)
      && decide ([e, e'].length + ([] : List Keyword).length + (if ([] : List Keyword).isEmpty then 0 else 1) < 30)) = true := by rfl) (hpl : (backTo cpos (starEach [e'] X.env)).any (·.1) = false := by rfl) : WE X T G μ (.Call (.Attribute o "insert" apos) [e, e'] [] cpos) Q :=
  we_bm PySem.F.plainAttrs_list PySem.F.slot_list_insert PySem.F.type_list_insert mt_insert (h.mono fun d0 μ1 ⟨l, e0, ⟨ds0, em⟩, h1⟩ => ⟨by subst e0; exact ty_list (.ml em), wa_two (h1.mono fun d μ2 h2 => h2.mono fun d' μ3 ⟨ds, k, em, ed, hk, hz, q⟩ F0 F R H x vs s hs rx rv => by
    subst e0 ed; cases rx
    cases rv with
    | cons r t =>
      cases r
      cases t with
      | cons r' t =>
        cases t
        obtain ⟨vs, e1, rr⟩ := hs.ml em
        exact ⟨l, vs, (k : Int), _, rfl, rfl, e1, by rw [← rr.length]; exact hz, by omega, by omega, (fin_write hs em (.ml (((rr.take k).append (.cons r' .nil)).append (rr.drop k))) .non q).back s⟩) hs hs'⟩) hbase hfew hline hs hpl
theorem we_remove (h : WE X T G μ o fun d0 μ1 => ∃ l, d0 = .ref l ∧ (∃ ds, μ1 l = some (.ml ds)) ∧ WE X T G μ1 e fun d μ2 => ∃ (ns : List Int) (k : Int) (j : Nat), μ2 l = some (.ml (ns.map .int)) ∧ d = .int k ∧ ns[j]? = some k ∧ (∀ m : Nat, m < j → ns[m]? ≠ some k) ∧ Q .non (mset μ2 l (.ml ((ns.eraseIdx j).map .int))))
    (hbase : attributeBase o "remove" X.env (eval o X.env) = eval o X.env := by rfl) (hline : (apos.endLine == cpos.line) = true := by rfl) (hs : starEach [e] X.env = (false, eval e X.env) :: starEach [] X.env := by rfl)
    (hfew : ((backTo cpos (starEach [e] X.env)).all (fun x => !x.1) && (backToKw cpos (keywordEach [] X.env)).all (fun x => x.1.isSome)
      && decide ([e].length + ([] : List Keyword).length + (if ([] : List Keyword).isEmpty then 0 else 1) < 30)) = true := by rfl) : WE X T G μ (.Call (.Attribute o "remove" apos) [e] [] cpos) Q :=
  we_bm PySem.F.plainAttrs_list PySem.F.slot_list_remove PySem.F.type_list_remove mt_remove (h.mono fun d0 μ1 ⟨l, e0, ⟨ds0, em⟩, h1⟩ => ⟨by subst e0; exact ty_list (.ml em), wa_one (h1.mono fun d μ2 ⟨ns, k, j, em, ed, hj, hno, q⟩ F0 F R H x vs s hs rx rv => by
    subst e0 ed; cases rx
    cases rv with
    | cons r t =>
      cases t; cases r
      obtain ⟨vs, e1, rr⟩ := hs.ml em
      have := rr.ints; subst this
      exact ⟨l, ns, k, j, rfl, rfl, e1, hj, hno, (fin_write hs em (.ml (Reps.ofInts _)) .non q).back s⟩) hs⟩) hbase hfew hline hs (by rfl)

/-! ### slices -/
def wO (X : Cx) (e : Option Expr) : TO := fun σ H Q => ∀ (pins : List (Addr × Obj)) (s : Shared), Inv X pins σ H s → wpAny (model X.prog X.w) X.A (evalPart e X.env) (fun u s' => ∃ o H', Inv X pins σ H' s' ∧ IsPart u o ∧ Q o H') X.xe s
theorem poW (e : Option Expr) : PO X e (wO X e) := ⟨fun pins s σ H Q I h => h pins s I⟩
theorem wO_of {e : Option Expr} {t : TO} (p : PO X e t) {σ : L2.St} {H : Hp} {Q : Option Int → Hp → Prop} (h : t σ H Q) : wO X e σ H Q := fun pins s I => p.run pins s σ H Q I h
theorem wO_mono {e : Option Expr} {σ : L2.St} {H : Hp} {Q Q' : Option Int → Hp → Prop} (h : wO X e σ H Q) (m : ∀ v H', Q v H' → Q' v H') : wO X e σ H Q' := fun pins s I =>
  thn (h pins s I) fun u s' ⟨o, H', J, r, q⟩ => ⟨o, H', J, r, m o H' q⟩
def WO (X : Cx) (T : TabL) (G : GE) (μ : Mu) (e : Option Expr) (Q : Option Int → Mu → Prop) : Prop := ∀ F R H σ, Hs X.K T F μ R H → EnvR X.K F G σ → wO X e σ H (fun o H' => ∃ F' μ', Hs X.K T F' μ' R H' ∧ Same F F' ∧ Q o μ')
theorem wo_none {Q : Option Int → Mu → Prop} (q : Q none μ) : WO X T G μ none Q := fun F R H σ hs _ => wO_of po_none ⟨F, μ, hs, Same.refl _, q⟩
theorem wo_some {Q : Option Int → Mu → Prop} (h : WE X T G μ e fun d μ1 => ∃ i, d = .int i ∧ Q (some i) μ1) : WO X T G μ (some e) Q := fun F R H σ hs he =>
  wO_of (po_some (peW e)) (wE_mono (h F R H σ hs he) fun v H1 ⟨F1, d, μ1, hs1, s1, r, i, ed, q⟩ => by subst ed; cases r; exact ⟨i, rfl, F1, μ1, hs1, s1, q⟩)
theorem we_slice {r : V → Option Int → Option Int → Hp → VK → Prop} (hr : SlR X r) (h : WE X T G μ e fun d μ1 => WO X T G μ1 lo fun i μ2 => WO X T G μ2 hi fun j μ3 => ∀ F0 F R H x, Same F0 F → Hs X.K T F μ3 R H → Rep X.K F d x → r x i j H (Fin X.K T F0 R Q)) : WE X T G μ (.Subscript e (.Slice lo hi none p2) pos) Q :=
  WE.of (pe_slice hr (peW e) (poW lo) (poW hi)) fun F R H σ hs he => wE_mono (h F R H σ hs he) fun x H1 ⟨F1, d, μ1, hs1, s1, r1, h1⟩ => wO_mono (h1 F1 R H1 σ hs1 (he.mono s1)) fun i H2 ⟨F2, μ2, hs2, s2, h2⟩ =>
    wO_mono (h2 F2 R H2 σ hs2 ((he.mono s1).mono s2)) fun j H3 ⟨F3, μ3, hs3, s3, q⟩ => q F F3 R H3 x ((s1.trans s2).trans s3) hs3 ((r1.mono s2).mono s3)
def cutD (xs : List D) (lo hi : Option Int) : List D := (xs.drop (HT.sIx xs.length 0 lo)).take (HT.sIx xs.length xs.length hi - HT.sIx xs.length 0 lo)
theorem Reps.cut {K : PySem.W.Frag} {F : Hp} {ds : List D} {vs : List V} (r : Reps K F ds vs) (lo hi : Option Int) : Reps K F (cutD ds lo hi) (cutV vs lo hi) := by
  unfold cutD cutV; rw [r.length]; exact (r.drop _).take _
theorem cutD_all {ds : List D} {lo hi : Option Int} (h : HT.sIx ds.length 0 lo = 0 ∧ HT.sIx ds.length ds.length hi = ds.length) : cutD ds lo hi = ds := by
  unfold cutD; rw [h.1, h.2]; simp
/-- a list's slice, fixed -/
theorem we_slL (h : WE X T G μ e fun d μ1 => WO X T G μ1 lo fun i μ2 => WO X T G μ2 hi fun j μ3 => ∃ ds, SqLi μ3 d ds ∧ Q (.lst (cutD ds i j)) μ3) : WE X T G μ (.Subscript e (.Slice lo hi none p2) pos) Q :=
  we_slice sl_list (h.mono fun d μ1 h1 F R H σ hs he => wO_mono (h1 F R H σ hs he) fun i H1 ⟨F1, μ2, hs1, s1, h2⟩ => ⟨F1, μ2, hs1, s1, fun F R H σ hs he => wO_mono (h2 F R H σ hs he) fun j H2 ⟨F2, μ3, hs2, s2, ds, sq, q⟩ => ⟨F2, μ3, hs2, s2, fun F0 F R H x s hs r => by
    obtain ⟨l, vs, rfl, hq, rr⟩ := sq.at hs r
    exact ⟨l, vs, rfl, .of hq, fun p n => (fin_lst hs n (rr.cut i j) q).back s⟩⟩⟩)
theorem we_slT (h : WE X T G μ e fun d μ1 => WO X T G μ1 lo fun i μ2 => WO X T G μ2 hi fun j μ3 => ∃ ds, d = .tup ds ∧ Q (.tup (cutD ds i j)) μ3) : WE X T G μ (.Subscript e (.Slice lo hi none p2) pos) Q :=
  we_slice sl_tupA (h.mono fun d μ1 h1 F R H σ hs he => wO_mono (h1 F R H σ hs he) fun i H1 ⟨F1, μ2, hs1, s1, h2⟩ => ⟨F1, μ2, hs1, s1, fun F R H σ hs he => wO_mono (h2 F R H σ hs he) fun j H2 ⟨F2, μ3, hs2, s2, ds, ed, q⟩ => ⟨F2, μ3, hs2, s2, fun F0 F R H x s hs r => by
    subst ed
    cases r with
    | tup hq rr =>
      refine ⟨_, _, rfl, hs.tupF hq, fun z => ?_, fun _ p n => (fin_tup hs n (rr.cut i j) q).back s⟩
      have z' : HT.sIx ds.length 0 i = 0 ∧ HT.sIx ds.length ds.length j = ds.length := by rw [rr.length]; exact z
      rw [cutD_all z'] at q
      exact (fin_now hs (.tup hq rr) q).back s⟩⟩)
theorem we_slS (h : WE X T G μ e fun d μ1 => WO X T G μ1 lo fun i μ2 => WO X T G μ2 hi fun j μ3 => ∃ z, d = .str z ∧ z.length ≤ sizeLine ∧ Q (.str (cutS z i j)) μ3) : WE X T G μ (.Subscript e (.Slice lo hi none p2) pos) Q :=
  we_slice sl_str (h.mono fun d μ1 h1 F R H σ hs he => wO_mono (h1 F R H σ hs he) fun i H1 ⟨F1, μ2, hs1, s1, h2⟩ => ⟨F1, μ2, hs1, s1, fun F R H σ hs he => wO_mono (h2 F R H σ hs he) fun j H2 ⟨F2, μ3, hs2, s2, z, ed, hz, q⟩ => ⟨F2, μ3, hs2, s2, fun F0 F R H x s hs r => by
    subst ed; cases r
    exact ⟨z, rfl, hz, (fin_now hs (.str _) q).back s⟩⟩⟩)
/-- xs[::-1] -/
theorem we_rev {k : Nat} {q1 q2 q3 : Pos} (h : WE X T G μ e fun d μ1 => ∃ ds, SqLi μ1 d ds ∧ Q (.lst ds.reverse) μ1) : WE X T G μ (.Subscript e (.Slice none none (some (.UnaryOp .USub (.Constant (.int 1) k q1) q2)) q3) pos) Q :=
  WE.of (pe_revL (peW e)) fun F R H σ hs he => wE_mono (h F R H σ hs he) fun x H1 ⟨F1, d, μ1, hs1, s1, r1, ds, sq, q⟩ => by
    obtain ⟨l, vs, rfl, hq, rr⟩ := sq.at hs1 r1
    exact ⟨l, vs, rfl, .of hq, fun p n => (fin_lst hs1 n rr.reverse q).back s1⟩

/-! ### sums, repeats -/
theorem we_catL (h : WE X T G μ a fun d1 μ1 => WE X T G μ1 b fun d2 μ2 => ∃ ds es, SqLi μ2 d1 ds ∧ SqLi μ2 d2 es ∧ ds.length + es.length ≤ sizeLine ∧ Q (.lst (ds ++ es)) μ2) : WE X T G μ (.BinOp a .Add b pos) Q :=
  we_op op_cat (h.mono fun d1 μ1 h1 => h1.mono fun d2 μ2 ⟨ds, es, q1, q2, hz, q⟩ F0 F R H x y s hs r1 r2 => by
    obtain ⟨l, vs, rfl, hq, rr⟩ := q1.at hs r1
    obtain ⟨l', vs', rfl, hq', rr'⟩ := q2.at hs r2
    exact ⟨l, l', vs, vs', rfl, rfl, hq, hq', by rw [← rr.length, ← rr'.length]; exact hz, fun p n => (fin_lst hs n (rr.append rr') q).back s⟩)
theorem we_catT (h : WE X T G μ a fun d1 μ1 => WE X T G μ1 b fun d2 μ2 => ∃ ds es, d1 = .tup ds ∧ d2 = .tup es ∧ ds.length + es.length ≤ sizeLine ∧ Q (.tup (ds ++ es)) μ2) : WE X T G μ (.BinOp a .Add b pos) Q :=
  we_op op_catA (h.mono fun d1 μ1 h1 => h1.mono fun d2 μ2 ⟨ds, es, q1, q2, hz, q⟩ F0 F R H x y s hs r1 r2 => by
    subst q1 q2
    cases r1 with
    | tup hq rr =>
      cases r2 with
      | tup hq' rr' =>
        refine ⟨_, _, _, _, rfl, rfl, hs.tupF hq, hs.tupF hq', by rw [← rr.length, ← rr'.length]; exact hz, fun z => ?_, fun _ z => ?_, fun _ _ p n => (fin_tup hs n (rr.append rr') q).back s⟩
        · subst z
          cases rr
          exact (fin_now hs (.tup hq' rr') q).back s
        · subst z
          cases rr'
          rw [List.append_nil] at q
          exact (fin_now hs (.tup hq rr) q).back s)
theorem we_catS (h : WE X T G μ a fun d1 μ1 => WE X T G μ1 b fun d2 μ2 => ∃ i j, d1 = .str i ∧ d2 = .str j ∧ i.length + j.length ≤ sizeLine ∧ Q (.str (i ++ j)) μ2) : WE X T G μ (.BinOp a .Add b pos) Q :=
  we_op op_add_str (h.mono fun d1 μ1 h1 => h1.mono fun d2 μ2 ⟨i, j, e1, e2, z, q⟩ F0 F R H x y s hs r1 r2 => by
    subst e1 e2; cases r1; cases r2; exact ⟨i, j, rfl, rfl, z, (fin_now hs (.str _) q).back s⟩)
theorem Reps.rep {K : PySem.W.Frag} {F : Hp} {ds : List D} {vs : List V} (r : Reps K F ds vs) : ∀ n, Reps K F (List.replicate n ds).flatten (List.replicate n vs).flatten
  | 0 => .nil
  | n + 1 => by rw [List.replicate_succ, List.replicate_succ, List.flatten_cons, List.flatten_cons]; exact r.append (r.rep n)
theorem we_repL (h : WE X T G μ a fun d1 μ1 => WE X T G μ1 b fun d2 μ2 => ∃ ds k, SqLi μ2 d1 ds ∧ d2 = .int k ∧ -(2 ^ 63) ≤ k ∧ k < 2 ^ 63 ∧ ds.length * k.toNat ≤ sizeLine ∧ Q (.lst (List.replicate k.toNat ds).flatten) μ2) : WE X T G μ (.BinOp a .Mult b pos) Q :=
  we_op op_rep (h.mono fun d1 μ1 h1 => h1.mono fun d2 μ2 ⟨ds, k, q1, e2, k1, k2, hz, q⟩ F0 F R H x y s hs r1 r2 => by
    subst e2; cases r2
    obtain ⟨l, vs, rfl, hq, rr⟩ := q1.at hs r1
    exact ⟨l, k, vs, rfl, rfl, hq, k1, k2, by rw [← rr.length]; exact hz, fun p n => (fin_lst hs n (rr.rep _) q).back s⟩)

/-! ### == and != over data -/
mutual
def pd : D → Option PyData
  | .non => some .none | .bl b => some (.bool b) | .int i => some (.int i) | .str x => some (.str x)
  | .lst xs => (pds xs).map .list
  | .tup xs => (pds xs).map .tuple
  | _ => none
def pds : List D → Option (List PyData)
  | [] => some []
  | d :: ds => match pd d, pds ds with | some x, some xs => some (x :: xs) | _, _ => none
end
mutual
theorem pd_dp {K : PySem.W.Frag} {F R H : Hp} (hs : Hs K T F μ R H) : ∀ {d : D} {v : V} {x : PyData}, pd d = some x → Rep K F d v → Dp K H v x
  | .non, _, _, e, r => by simp only [pd, Option.some.injEq] at e; subst e; cases r; exact .non
  | .bl b, _, _, e, r => by simp only [pd, Option.some.injEq] at e; subst e; cases r; exact .bl b
  | .int b, _, _, e, r => by simp only [pd, Option.some.injEq] at e; subst e; cases r; exact .int b
  | .str b, _, _, e, r => by simp only [pd, Option.some.injEq] at e; subst e; cases r; exact .str b
  | .lst xs, _, _, e, r => by
    simp only [pd] at e
    cases z : pds xs with
    | none => rw [z] at e; cases e
    | some ys =>
      rw [z] at e; cases e
      cases r with | lst h rr => exact .lst (.of (hs.lstF h)) (pds_dp hs z rr)
  | .tup xs, _, _, e, r => by
    simp only [pd] at e
    cases z : pds xs with
    | none => rw [z] at e; cases e
    | some ys =>
      rw [z] at e; cases e
      cases r with | tup h rr => exact .tup (hs.tupF h) (pds_dp hs z rr)
  | .dic _, _, _, e, _ => by simp [pd] at e
  | .ref _, _, _, e, _ => by simp [pd] at e
  | .ty _, _, _, e, _ => by simp [pd] at e
  | .lam _, _, _, e, _ => by simp [pd] at e
  | .lamC _ _ _ _ _ _, _, _, e, _ => by simp [pd] at e
theorem pds_dp {K : PySem.W.Frag} {F R H : Hp} (hs : Hs K T F μ R H) : ∀ {ds : List D} {vs : List V} {xs : List PyData}, pds ds = some xs → Reps K F ds vs → DpAll K H vs xs
  | [], _, _, e, r => by simp only [pds, Option.some.injEq] at e; subst e; cases r; exact .nil
  | d :: ds, _, _, e, r => by
    simp only [pds] at e
    cases z1 : pd d with
    | none => rw [z1] at e; simp at e
    | some x =>
      cases z2 : pds ds with
      | none => rw [z1, z2] at e; simp at e
      | some xs =>
        rw [z1, z2] at e; simp at e; subst e
        cases r with | cons r t => exact .cons (pd_dp hs z1 r) (pds_dp hs z2 t)
end
/-- the datum of a thing to be compared: a list that changes too -/
def PdOf (μ : Mu) (d : D) (x : PyData) : Prop := pd d = some x ∨ ∃ a ds xs, d = .ref a ∧ μ a = some (.ml ds) ∧ pds ds = some xs ∧ x = .list xs
theorem PdOf.dp {K : PySem.W.Frag} {F R H : Hp} (hs : Hs K T F μ R H) {d : D} {v : V} {x : PyData} (h : PdOf μ d x) (r : Rep K F d v) : Dp K H v x := by
  rcases h with h | ⟨a, ds, xs, rfl, em, e, rfl⟩
  · exact pd_dp hs h r
  · cases r
    obtain ⟨vs, e1, rr⟩ := hs.ml em
    exact .lst (.of e1) (pds_dp hs e rr)
theorem rEqD_mono {K : PySem.W.Frag} : ∀ (x y : V) (H : Hp) (Q Q' : VK), (∀ z H', Q z H' → Q' z H') → rEqD K x y H Q → rEqD K x y H Q' := fun _ _ _ _ _ m ⟨a, b, c, d, e, f, q⟩ => ⟨a, b, c, d, e, f, m _ _ q⟩
theorem rNeD_mono {K : PySem.W.Frag} : ∀ (x y : V) (H : Hp) (Q Q' : VK), (∀ z H', Q z H' → Q' z H') → rNeD K x y H Q → rNeD K x y H Q' := fun _ _ _ _ _ m ⟨a, b, c, d, e, f, q⟩ => ⟨a, b, c, d, e, f, m _ _ q⟩
theorem wt_eqD (hu : X.A.units + 64 < cLine) (h : WE X T G μ a fun d1 μ1 => WE X T G μ1 b fun d2 μ2 => ∃ x y, PdOf μ2 d1 x ∧ PdOf μ2 d2 y ∧ SeqAt.shaped x = true ∧ SeqAt.shaped y = true ∧ P (PyData.eqv x y) μ2) : WT X T G μ (.Compare a [.Eq] [b] pos) P :=
  wt_cmp (op_eqD hu) (nomark _) rEqD_mono (h.mono fun d1 μ1 h1 => h1.mono fun d2 μ2 ⟨x, y, p1, p2, s1, s2, q⟩ F0 F R H v w s hs r1 r2 =>
    ⟨x, y, p1.dp hs r1, p2.dp hs r2, s1, s2, (fin_now (Q := fun d μ => ∃ k, d = D.bl k ∧ P k μ) hs (.bl _) ⟨_, rfl, q⟩).back s⟩)
theorem wt_neD (hu : X.A.units + 64 < cLine) (h : WE X T G μ a fun d1 μ1 => WE X T G μ1 b fun d2 μ2 => ∃ x y, PdOf μ2 d1 x ∧ PdOf μ2 d2 y ∧ SeqAt.shaped x = true ∧ SeqAt.shaped y = true ∧ P (!PyData.eqv x y) μ2) : WT X T G μ (.Compare a [.NotEq] [b] pos) P :=
  wt_cmp (op_neD hu) (nomark _) rNeD_mono (h.mono fun d1 μ1 h1 => h1.mono fun d2 μ2 ⟨x, y, p1, p2, s1, s2, q⟩ F0 F R H v w s hs r1 r2 =>
    ⟨x, y, p1.dp hs r1, p2.dp hs r2, s1, s2, (fin_now (Q := fun d μ => ∃ k, d = D.bl k ∧ P k μ) hs (.bl _) ⟨_, rfl, q⟩).back s⟩)
theorem we_eqD (hu : X.A.units + 64 < cLine) (h : WE X T G μ a fun d1 μ1 => WE X T G μ1 b fun d2 μ2 => ∃ x y, PdOf μ2 d1 x ∧ PdOf μ2 d2 y ∧ SeqAt.shaped x = true ∧ SeqAt.shaped y = true ∧ Q (.bl (PyData.eqv x y)) μ2) : WE X T G μ (.Compare a [.Eq] [b] pos) Q :=
  we_cmp (op_eqD hu) (nomark _) (h.mono fun d1 μ1 h1 => h1.mono fun d2 μ2 ⟨x, y, p1, p2, s1, s2, q⟩ F0 F R H v w s hs r1 r2 =>
    ⟨x, y, p1.dp hs r1, p2.dp hs r2, s1, s2, (fin_now hs (.bl _) q).back s⟩)
/-! ### texts -/
theorem we_ltS (h : WE X T G μ a fun d1 μ1 => WE X T G μ1 b fun d2 μ2 => ∃ i j, d1 = .str i ∧ d2 = .str j ∧ Q (.bl (decide (i.cps.toList < j.cps.toList))) μ2) : WE X T G μ (.Compare a [.Lt] [b] pos) Q :=
  we_cmp op_lt_str (nomark _) (h.mono fun d1 μ1 h1 => h1.mono fun d2 μ2 ⟨i, j, e1, e2, q⟩ F0 F R H x y s hs r1 r2 => by
    subst e1 e2; cases r1; cases r2; exact ⟨i, j, rfl, rfl, (fin_now hs (.bl _) q).back s⟩)
theorem we_gtS (h : WE X T G μ a fun d1 μ1 => WE X T G μ1 b fun d2 μ2 => ∃ i j, d1 = .str i ∧ d2 = .str j ∧ Q (.bl (decide (j.cps.toList < i.cps.toList))) μ2) : WE X T G μ (.Compare a [.Gt] [b] pos) Q :=
  we_cmp op_gt_str (nomark _) (h.mono fun d1 μ1 h1 => h1.mono fun d2 μ2 ⟨i, j, e1, e2, q⟩ F0 F R H x y s hs r1 r2 => by
    subst e1 e2; cases r1; cases r2; exact ⟨i, j, rfl, rfl, (fin_now hs (.bl _) q).back s⟩)
theorem we_join (h : WE X T G μ o fun d0 μ1 => ∃ z, d0 = .str z ∧ WE X T G μ1 e fun d μ2 => ∃ ys : List Str, Sq μ2 d (ys.map .str) ∧ (ys.map (·.length)).sum + ys.length * z.length ≤ 16777216 ∧ Q (.str (Txt.join z ys)) μ2)
    (hs : starEach [e] X.env = [(false, eval e X.env)] := by rfl) (hbase : attributeBase o "join" X.env (eval o X.env) = eval o X.env := by rfl) (hline : (apos.endLine == cpos.line) = true := by rfl) : WE X T G μ (.Call (.Attribute o "join" apos) [e] [] cpos) Q :=
  WE.of (pe_join (peW o) (peW e) hs hbase hline) fun F R H σ hs he => wE_mono (h F R H σ hs he) fun x H1 ⟨F1, d0, μ1, hs1, s1, r1, z, e0, h1⟩ => by
    subst e0; cases r1
    refine ⟨⟨z, rfl⟩, wE_mono (h1 F1 R H1 σ hs1 (he.mono s1)) fun y H2 ⟨F2, d, μ2, hs2, s2, r2, ys, sq, hz, q⟩ => ?_⟩
    obtain ⟨l, vs, rfl, hq, rr⟩ := sq.at hs2 r2
    have := rr.strs; subst this
    exact ⟨z, l, ys, rfl, rfl, hq, hz, (fin_now hs2 (.str _) q).back (s1.trans s2)⟩
end
end Ws
/-! WS, part H: dicts, fields, methods, instances, isinstance, sorted. -/
namespace Ws
open PySem PyProof.Rows PySem.Spec L2

section
variable {X : Cx} {T : TabL} {G : GE} {μ : Mu} {pos pos' p apos cpos p2 : Pos} {e f o a b c i value : Expr} {es : List Expr} {E : DE} {Q : D → Mu → Prop} {P : Bool → Mu → Prop}

/-- d[k] = v -/
theorem ws_dput (hu : X.A.units + 1 < cLine) (h : WE X T G μ value fun d μ1 => WE X T G μ1 o fun d1 μ2 => WE X T G μ2 i fun d2 μ3 => ∃ (l : Addr) (kvs : List (Key × D)) (k : Key), d1 = .ref l ∧ d2 = kD k ∧ μ3 l = some (.md kvs) ∧ kvs.length < sizeLine ∧ E.nx G (mset μ3 l (.md (putD kvs k d))))
    (hs : swapsWith value (some (.Subscript o i pos')) pos.line X.env = pure false := by rfl) : WS X T G μ (.Assign [.Subscript o i pos'] value pos) E :=
  WS.of (ps_dput hu (peW o) (peW i) (peW value) hs) fun F R H σ hs he => wE_mono (h F R H σ hs he) fun v H1 ⟨F1, d, μ1, hs1, s1, r1, h1⟩ => wE_mono (h1 F1 R H1 σ hs1 (he.mono s1)) fun x H2 ⟨F2, d1, μ2, hs2, s2, r2, h2⟩ =>
    wE_mono (h2 F2 R H2 σ hs2 ((he.mono s1).mono s2)) fun y H3 ⟨F3, d2, μ3, hs3, s3, r3, l, kvs, k, e1, e2, em, hz, q⟩ => by
      subst e1 e2
      cases r2
      cases rep_key r3
      obtain ⟨ps, eh, rr⟩ := hs3.md em
      exact ⟨l, _, rfl, .k eh (by rw [← rr.length]; exact hz), F3, G, _, hs3.write em (.md (RepK.put ((r1.mono s2).mono s3) k rr)), (s1.trans s2).trans s3, ((he.mono s1).mono s2).mono s3, q⟩
/-- d.get(k, x) -/
theorem we_dget2 (hu : X.A.units + 1 < cLine) (m : M2 X o "get" apos e f cpos) (h : WE X T G μ o fun d0 μ1 => (∃ kvs, Dc μ1 d0 kvs) ∧ WE X T G μ1 e fun d1 μ2 => WE X T G μ2 f fun d2 μ3 => ∃ kvs k, Dc μ3 d0 kvs ∧ d1 = kD k ∧ Q ((valD kvs k).getD d2) μ3) :
    WE X T G μ (.Call (.Attribute o "get" apos) [e, f] [] cpos) Q :=
  WE.of (pe_dget2 hu (peW o) (peW e) (peW f) m) fun F R H σ hs he => wE_mono (h F R H σ hs he) fun x H1 ⟨F1, d0, μ1, hs1, s1, r1, ⟨kvs0, dc0⟩, h1⟩ => by
    obtain ⟨l0, ps0, rfl, hq0, _⟩ := dc0.at hs1 r1
    refine ⟨l0, rfl, .inl ⟨_, hq0⟩, wE_mono (h1 F1 R H1 σ hs1 (he.mono s1)) fun y H2 ⟨F2, d1, μ2, hs2, s2, r2, h2⟩ => wE_mono (h2 F2 R H2 σ hs2 ((he.mono s1).mono s2)) fun z H3 ⟨F3, d2, μ3, hs3, s3, r3, kvs, k, dc, e1, q⟩ => ?_⟩
    subst e1
    obtain ⟨l, ps, e0, hq, rr⟩ := dc.at hs3 ((r1.mono s2).mono s3)
    cases e0
    cases rep_key r2
    refine ⟨valV ps k, .inl ⟨ps, k, hq, rfl, rfl⟩, ?_⟩
    rcases rr.val k with ⟨z1, z2⟩ | ⟨d', v, z1, z2, z3⟩
    · rw [z2]; rw [z1] at q; exact ⟨F3, d2, μ3, hs3, (s1.trans s2).trans s3, r3, q⟩
    · rw [z2]; rw [z1] at q; exact ⟨F3, d', μ3, hs3, (s1.trans s2).trans s3, z3, q⟩
/-- d.setdefault(k, x) -/
theorem we_dsetd (m : M2 X o "setdefault" apos e f cpos) (h : WE X T G μ o fun d0 μ1 => ∃ l, d0 = .ref l ∧ (∃ kvs, μ1 l = some (.md kvs)) ∧ WE X T G μ1 e fun d1 μ2 => WE X T G μ2 f fun d2 μ3 => ∃ kvs k, μ3 l = some (.md kvs) ∧ d1 = kD k ∧ kvs.length < sizeLine ∧
      (∀ d, valD kvs k = some d → Q d μ3) ∧ (valD kvs k = none → Q d2 (mset μ3 l (.md (putD kvs k d2))))) :
    WE X T G μ (.Call (.Attribute o "setdefault" apos) [e, f] [] cpos) Q :=
  WE.of (pe_dsetd (peW o) (peW e) (peW f) m) fun F R H σ hs he => wE_mono (h F R H σ hs he) fun x H1 ⟨F1, d0, μ1, hs1, s1, r1, l, e0, ⟨kvs0, em0⟩, h1⟩ => by
    subst e0; cases r1
    obtain ⟨ps0, eh0, _⟩ := hs1.md em0
    refine ⟨l, rfl, .inl ⟨_, .inl eh0⟩, wE_mono (h1 F1 R H1 σ hs1 (he.mono s1)) fun y H2 ⟨F2, d1, μ2, hs2, s2, r2, h2⟩ => wE_mono (h2 F2 R H2 σ hs2 ((he.mono s1).mono s2)) fun z H3 ⟨F3, d2, μ3, hs3, s3, r3, kvs, k, em, e1, hz, q1, q2⟩ => ?_⟩
    subst e1
    obtain ⟨ps, eh, rr⟩ := hs3.md em
    cases rep_key r2
    refine ⟨ps, k, eh, rfl, by rw [← rr.length]; exact hz, fun v ev => ?_, fun ev => ?_⟩
    · rcases rr.val k with ⟨z1, z2⟩ | ⟨d', v', z1, z2, z3⟩
      · rw [z2] at ev; cases ev
      · rw [z2] at ev; cases ev
        exact ⟨F3, d', μ3, hs3, (s1.trans s2).trans s3, z3, q1 _ z1⟩
    · rcases rr.val k with ⟨z1, z2⟩ | ⟨d', v', z1, z2, z3⟩
      · exact (fin_write hs3 em (.md (RepK.put r3 k rr)) r3 (q2 z1)).back ((s1.trans s2).trans s3)
      · rw [z2] at ev; cases ev
/-! ### displays of dicts -/
def mergeD (kvs more : List (Key × D)) : List (Key × D) := more.foldl (fun acc kv => putD acc kv.1 kv.2) kvs
theorem RepK.merge {K : PySem.W.Frag} {F : Hp} : ∀ {more : List (Key × D)} {rs : List (Key × V)} {kvs : List (Key × D)} {vs : List (Key × V)}, RepK K F more rs → RepK K F kvs vs → RepK K F (mergeD kvs more) (mergeK vs rs)
  | _, _, _, _, .nil, q => q
  | (k, d) :: _, _, _, _, .cons h t, q => t.merge (RepK.put h k q)
def WPs (X : Cx) (T : TabL) (G : GE) : Mu → List (Option Expr) → List Expr → (List (Key × D) → Mu → Prop) → Prop
  | μ, [], [], Q => Q [] μ
  | μ, some k :: ks, v :: vs, Q => WE X T G μ k fun dk μ1 => ∃ key, dk = kD key ∧ WE X T G μ1 v fun dv μ2 => WPs X T G μ2 ks vs fun kvs μ3 => Q ((key, dv) :: kvs) μ3
  | _, _, _, _ => False
def trsW (X : Cx) : List (Option Expr) → List Expr → List (TE × TE)
  | some k :: ks, v :: vs => (wE X k, wE X v) :: trsW X ks vs
  | _, _ => []
theorem ppsW : ∀ {ks : List (Option Expr)} {vs : List Expr}, ks.all (·.isSome) = true → ks.length = vs.length → PPs X pos ks vs (trsW X ks vs)
  | [], [], _, _ => pps_nil
  | some k :: ks, v :: vs, ha, hl => pps_cons (peW k) (peW v) (ppsW (by simpa using ha) (by simpa using hl))
  | none :: _, _, ha, _ => by simp at ha
  | [], _ :: _, _, hl => by cases hl
  | some _ :: _, [], _, hl => by cases hl
theorem pairs_mono {σ : L2.St} : ∀ {trs : List (TE × TE)} {H : Hp} {Q Q' : List (V × V) → Hp → Prop}, (∀ p ∈ trs, (∀ σ H Q Q', p.1 σ H Q → (∀ v H', Q v H' → Q' v H') → p.1 σ H Q') ∧ ∀ σ H Q Q', p.2 σ H Q → (∀ v H', Q v H' → Q' v H') → p.2 σ H Q') → tPairs trs σ H Q → (∀ ps H', Q ps H' → Q' ps H') → tPairs trs σ H Q'
  | [], _, _, _, _, h, m => m _ _ h
  | (tk, tv) :: r, _, _, _, hm, h, m => (hm _ List.mem_cons_self).1 _ _ _ _ h fun x H1 h1 => (hm _ List.mem_cons_self).2 _ _ _ _ h1 fun y H2 h2 => pairs_mono (fun p hp => hm p (List.mem_cons_of_mem _ hp)) h2 fun ps H3 h3 => m _ _ h3
theorem trs_mono : ∀ {ks : List (Option Expr)} {vs : List Expr}, ∀ p ∈ trsW X ks vs, (∀ σ H Q Q', p.1 σ H Q → (∀ v H', Q v H' → Q' v H') → p.1 σ H Q') ∧ ∀ σ H Q Q', p.2 σ H Q → (∀ v H', Q v H' → Q' v H') → p.2 σ H Q'
  | some k :: ks, v :: vs, p, hp => by
    rcases List.mem_cons.mp hp with e | hp
    · subst e; exact ⟨fun _ _ _ _ a b => wE_mono a b, fun _ _ _ _ a b => wE_mono a b⟩
    · exact trs_mono p hp
  | [], _, _, hp => by simp [trsW] at hp
  | none :: _, _, _, hp => by simp [trsW] at hp
  | some _ :: _, [], _, hp => by simp [trsW] at hp
theorem wps_run : ∀ {ks : List (Option Expr)} {vs : List Expr} {μ : Mu} {F R H : Hp} {σ : L2.St} {Q : List (Key × D) → Mu → Prop}, WPs X T G μ ks vs Q → Hs X.K T F μ R H → EnvR X.K F G σ →
    tPairs (trsW X ks vs) σ H fun ps H' => ∃ F' μ' kvs rs, Hs X.K T F' μ' R H' ∧ Same F F' ∧ RepK X.K F' kvs rs ∧ ps = rs.map (fun kv => (kV kv.1, kv.2)) ∧ rs.length = ks.length ∧ Q kvs μ'
  | [], [], μ, F, R, H, σ, Q, h, hs, he => ⟨F, μ, [], [], hs, Same.refl _, .nil, rfl, rfl, h⟩
  | some k :: ks, v :: vs, μ, F, R, H, σ, Q, h, hs, he => wE_mono (h F R H σ hs he) fun x H1 ⟨F1, dk, μ1, hs1, s1, r1, key, ek, h1⟩ => by
    subst ek
    cases rep_key r1
    refine wE_mono (h1 F1 R H1 σ hs1 (he.mono s1)) fun y H2 ⟨F2, dv, μ2, hs2, s2, r2, h2⟩ => ?_
    have q := wps_run h2 hs2 ((he.mono s1).mono s2)
    exact pairs_mono trs_mono q fun ps H3 ⟨F3, μ3, kvs, rs, hs3, s3, rr, e, el, q3⟩ => ⟨F3, μ3, (key, dv) :: kvs, (key, y) :: rs, hs3, (s1.trans s2).trans s3, .cons (r2.mono s3) rr, by rw [e]; rfl, by simp [el], q3⟩
  | none :: _, _, _, _, _, _, _, _, h, _, _ => False.elim (by simpa [WPs] using h)
  | [], _ :: _, _, _, _, _, _, _, h, _, _ => False.elim (by simpa [WPs] using h)
  | some _ :: _, [], _, _, _, _, _, _, h, _, _ => False.elim (by simpa [WPs] using h)
theorem frame_md {K : PySem.W.Frag} {F R H : Hp} {l : Addr} {o o' : HO} {mo : MO} (hs : Hs K T F μ (upd R l o) H) (hR : R l = none) (hT : T.rb l = none) (r : MRep K F mo o') (hn : ∀ ps, o ≠ .tbl ps) (hc : ∀ c q, o ≠ LamX.CodeO c q) : Hs K T F (mset μ l mo) R (upd H l o') := by
  have nF : F l = none := (hs.fr l).resolve_right (by rw [upd_same]; simp)
  have nM : μ l = none := (hs.mr l).resolve_right (by rw [upd_same]; simp)
  have hD : H l = some o := hs.r l _ upd_same
  refine ⟨fun b u q => ?_, fun b u q => ?_, fun b u q => ?_, fun b => ?_, fun b => ?_, fun b => ?_, tabs_upd hs.tb hD hn hc, hs.ntF, fun b u q => hs.ntR b u (by rw [upd_ne (by rintro rfl; rw [hR] at q; cases q)]; exact q), hs.lb, fun b u q => (by
    have hb : b ≠ l := by rintro rfl; rw [hT] at q; cases q
    have z := hs.rb b u q
    rw [upd_ne hb] at z; exact z)⟩
  · rw [upd_ne (by rintro rfl; rw [nF] at q; cases q)]; exact hs.f b u q
  · by_cases hb : b = l
    · subst hb; rw [mset_same] at q; cases q; exact ⟨o', upd_same, r⟩
    · rw [mset_ne hb] at q
      obtain ⟨z, e, r⟩ := hs.m b u q
      exact ⟨z, by rw [upd_ne hb]; exact e, r⟩
  · have hb : b ≠ l := by rintro rfl; rw [hR] at q; cases q
    rw [upd_ne hb]; exact hs.r b u (by rw [upd_ne hb]; exact q)
  · by_cases hb : b = l
    · subst hb; exact .inl nF
    · rw [mset_ne hb]; exact hs.fm b
  · by_cases hb : b = l
    · subst hb; exact .inl nF
    · have := hs.fr b; rw [upd_ne hb] at this; exact this
  · by_cases hb : b = l
    · subst hb; exact .inr hR
    · rw [mset_ne hb]; have := hs.mr b; rw [upd_ne hb] at this; exact this
theorem we_dispM {ks : List (Option Expr)} {vs : List Expr} (hall : ks.all (·.isSome) = true) (hl : ks.length = vs.length) (h0 : ks ≠ []) (h15 : ks.length ≤ 15) (h : WPs X T G μ ks vs fun kvs μ1 => ∀ l, μ1 l = none → Q (.ref l) (mset μ1 l (.md (mergeD [] kvs)))) : WE X T G μ (.Dict ks vs pos) Q :=
  WE.of (pe_disp (ppsW hall hl) hall hl h0 h15) fun F R H σ hs he l n => by
    have hR := hs.noR n
    have nT := hs.rb.free hR
    refine pairs_mono trs_mono (wps_run h (frame_new (o := .dK []) hs n) he) fun ps H3 ⟨F3, μ3, kvs, rs, hs3, s3, rr, e, el, q3⟩ => ?_
    have nM : μ3 l = none := (hs3.mr l).resolve_right (by rw [upd_same]; simp)
    exact ⟨hs3.r l _ upd_same, rs, e, by rw [el]; exact h15, F3, .ref l, _, frame_md hs3 hR nT (.md (rr.merge .nil)) (fun _ z => by cases z) (fun _ _ z => by unfold LamX.CodeO at z; cases z), s3, .ref l, q3 l nM⟩
/-- .. fixed at once -/
theorem we_disp {ks : List (Option Expr)} {vs : List Expr} (hall : ks.all (·.isSome) = true) (hl : ks.length = vs.length) (h0 : ks ≠ []) (h15 : ks.length ≤ 15) (h : WPs X T G μ ks vs fun kvs μ1 => Q (.dic (mergeD [] kvs)) μ1) : WE X T G μ (.Dict ks vs pos) Q := by
  refine we_freezeD (we_dispM hall hl h0 h15 ?_)
  have m : ∀ {ks : List (Option Expr)} {vs : List Expr} {μ : Mu} {A B : List (Key × D) → Mu → Prop}, (∀ k μ, A k μ → B k μ) → WPs X T G μ ks vs A → WPs X T G μ ks vs B := by
    intro ks
    induction ks with
    | nil =>
      intro vs μ A B m h
      cases vs with
      | nil => exact m _ _ h
      | cons _ _ => exact h
    | cons k ks ih =>
      intro vs μ A B m h
      cases k with
      | none => cases vs <;> exact h
      | some k =>
        cases vs with
        | nil => exact h
        | cons v vs => exact WE.mono h fun dk μ1 ⟨key, ek, h1⟩ => ⟨key, ek, WE.mono h1 fun dv μ2 h2 => ih (fun kvs μ3 h3 => m _ _ h3) h2⟩
  exact m (fun kvs μ1 q l n => ⟨l, _, rfl, mset_same, by rw [mdel_mset n]; exact q⟩) h

/-- d.update(e) -/
theorem mt_update : MtR X "dict.update" (fun x vs H Q => ∃ (a b : Addr) (ks ls : List (Key × V)), x = .ref a ∧ vs = [.ref b] ∧ H a = some (.dK ks) ∧ Rd H b (.dK ls) ∧ a ≠ b ∧ ks.length + ls.length ≤ sizeLine ∧ Q .non (upd H a (.dK (mergeK ks ls)))) := by
  intro pins s σ H x vs v us Q I rx rv h
  obtain ⟨a, b, ks, ls, rfl, rfl, ha, hb, hne, hz, q⟩ := h
  cases rx
  obtain ⟨u, rfl, ru⟩ := rv.one
  cases ru
  obtain ⟨z, hd, vs, rel, dd⟩ := dk_of I.hok ha
  obtain ⟨z', hd', vs', rel', dd'⟩ := dk_rd I.hok hb
  refine call_meetsIn PySem.F.slot_dict_update dd.typeIs PySem.F.entry_dict_update (PySem.F.args_dict_update_2 _ _) (meets_dict_update (mixKind X.prog X.w) a b hne hd')
    ⟨vs, vs', dd, dd', by rw [← rel.length, ← rel'.length]; exact hz, fun h' m1 m2 sb => ?_⟩
  have he : ∃ q, h'.get? a = some q := let ⟨q, _, _, hq, _⟩ := m1; ⟨q, hq⟩
  have hl : (mergeK ks ls).length ≤ sizeLine := by have := length_mergeK ls ks; omega
  exact ⟨.non, _, d_write (t' := s.toks) I (by rw [ha]; exact True.intro) sb he (dk_new hl hd (rel'.merge rel) m1), rfl, q⟩
theorem we_update (h : WE X T G μ o fun d0 μ1 => ∃ l, d0 = .ref l ∧ (∃ kvs, μ1 l = some (.md kvs)) ∧ WE X T G μ1 e fun d μ2 => ∃ kvs more, μ2 l = some (.md kvs) ∧ d = .dic more ∧ kvs.length + more.length ≤ sizeLine ∧ Q .non (mset μ2 l (.md (mergeD kvs more))))
    (hbase : attributeBase o "update" X.env (eval o X.env) = eval o X.env := by rfl) (hline : (apos.endLine == cpos.line) = true := by rfl) (hs : starEach [e] X.env = (false, eval e X.env) :: starEach [] X.env := by rfl)
    (hfew : ((backTo cpos (starEach [e] X.env)).all (fun x => !x.1) && (backToKw cpos (keywordEach [] X.env)).all (fun x => x.1.isSome)
      && decide ([e].length + ([] : List Keyword).length + (if ([] : List Keyword).isEmpty then 0 else 1) < 30)) = true := by rfl) : WE X T G μ (.Call (.Attribute o "update" apos) [e] [] cpos) Q :=
  we_bm PySem.F.plainAttrs_dict PySem.F.slot_dict_update PySem.F.type_dict_update mt_update (h.mono fun d0 μ1 ⟨l, e0, ⟨kvs0, em⟩, h1⟩ => ⟨by
    subst e0
    intro F R H x hs r
    cases r
    obtain ⟨ps, eh, _⟩ := hs.md em
    exact .inr (.inr (.inl ⟨rfl, .inl ⟨_, eh⟩⟩)), wa_one (h1.mono fun d μ2 ⟨kvs, more, em, ed, hz, q⟩ F0 F R H x vs s hs rx rv => by
    subst e0 ed; cases rx
    cases rv with
    | cons r t =>
      cases t
      obtain ⟨ps, eh, rr⟩ := hs.md em
      cases r with
      | dic hh r2 =>
        refine ⟨l, _, ps, _, rfl, rfl, eh, hs.dicF hh, ?_, by rw [← rr.length, ← r2.length]; exact hz, (fin_write hs em (.md (r2.merge rr)) .non q).back s⟩
        rintro rfl
        have := hs.f _ _ hh
        rw [eh] at this; cases this) hs⟩) hbase hfew hline hs (by rfl)
/-- list(d): its keys -/
theorem we_listD {x : Str} (hx : x = "list") (hm : X.mg "list" = none) (hc : X.calm = true) (h : WE X T G μ e fun d μ1 => ∃ kvs, Dc μ1 d kvs ∧ Q (.lst (kvs.map fun kv => kD kv.1)) μ1) (hg : Gl X "list" := by rfl)
    (he : starEach [e] X.env = (false, eval e X.env) :: starEach [] X.env := by rfl) : WE X T G μ (.Call (.Name x p) [e] [] pos) Q := by
  subst hx
  refine we_callTy (call_listD hc) hm (by decide +kernel) (wa_one (h.mono fun d μ1 ⟨kvs, dc, q⟩ F0 F R H vs s hs r => ?_) he) hg (by decide) (by decide) he (by rfl)
  cases r with
  | cons r t =>
    cases t
    obtain ⟨l, ps, rfl, hq, rr⟩ := dc.at hs r
    refine ⟨l, ps, rfl, hq, fun l n => (fin_lst hs n ?_ q).back s⟩
    have : ∀ {kvs : List (Key × D)} {ps : List (Key × V)}, RepK X.K F kvs ps → Reps X.K F (kvs.map fun kv => kD kv.1) (ps.map fun kv => kV kv.1) := by
      intro kvs ps rr
      induction kvs generalizing ps with
      | nil => cases rr; exact .nil
      | cons kv kvs ih => cases rr with | cons h t => exact .cons (key_rep _) (ih t)
    exact this rr
theorem RepK.keysI {K : PySem.W.Frag} {F : Hp} {kvs : List (Key × D)} {ps : List (Key × V)} {ks : List Int} (r : RepK K F kvs ps) (h : kvs.map (·.1) = ks.map Sum.inl) : ps.map (·.1) = ks.map Sum.inl := by
  rw [r.keys, h]
/-- sorted(..) -/
theorem we_sortedDI {x : Str} (hx : x = "sorted") (hm : X.mg "sorted" = none) (hc : X.calm = true) (h : WE X T G μ e fun d μ1 => ∃ (kvs : List (Key × D)) (ks : List Int), Dc μ1 d kvs ∧ kvs.map (·.1) = ks.map Sum.inl ∧ ks.length < 64 ∧ ∀ ys : List Int, ys.Perm ks → ys.Pairwise (· ≤ ·) → Q (.lst (ys.map .int)) μ1) (hg : Gl X "sorted" := by rfl)
    (he : starEach [e] X.env = (false, eval e X.env) :: starEach [] X.env := by rfl) : WE X T G μ (.Call (.Name x p) [e] [] pos) Q := by
  subst hx
  refine we_callB (call_sortedDI hc) hm (by decide +kernel) (wa_one (h.mono fun d μ1 ⟨kvs, ks, dc, ek, h64, q⟩ F0 F R H vs s hs r => ?_) he) hg (by decide) (by decide) he (by rfl)
  cases r with
  | cons r t =>
    cases t
    obtain ⟨l, ps, rfl, hq, rr⟩ := dc.at hs r
    exact ⟨l, ps, ks, rfl, hq, rr.keysI ek, h64, fun ys l h1 h2 n => (fin_lst hs n (Reps.ofInts _) (q ys h1 h2)).back s⟩
theorem we_sortedI {x : Str} (hx : x = "sorted") (hm : X.mg "sorted" = none) (h : WE X T G μ e fun d μ1 => ∃ ns : List Int, SqLi μ1 d (ns.map .int) ∧ ∀ ys : List Int, ys.Perm ns → ys.Pairwise (· ≤ ·) → Q (.lst (ys.map .int)) μ1) (hg : Gl X "sorted" := by rfl)
    (he : starEach [e] X.env = (false, eval e X.env) :: starEach [] X.env := by rfl) : WE X T G μ (.Call (.Name x p) [e] [] pos) Q := by
  subst hx
  refine we_callB cr_sortedI hm (by decide +kernel) (wa_one (h.mono fun d μ1 ⟨ns, sq, q⟩ F0 F R H vs s hs r => ?_) he) hg (by decide) (by decide) he (by rfl)
  cases r with
  | cons r t =>
    cases t
    obtain ⟨l, vs, rfl, hq, rr⟩ := sq.at hs r
    have := rr.ints; subst this
    exact ⟨l, ns, rfl, .of hq, fun ys l h1 h2 n => (fin_lst hs n (Reps.ofInts _) (q ys h1 h2)).back s⟩
theorem we_sortedS {x : Str} (hx : x = "sorted") (hm : X.mg "sorted" = none) (h : WE X T G μ e fun d μ1 => ∃ ns : List Str, SqLi μ1 d (ns.map .str) ∧ ns.length < 64 ∧ ∀ ys : List Str, ys.Perm ns → sortedS ys = true → Q (.lst (ys.map .str)) μ1) (hg : Gl X "sorted" := by rfl)
    (he : starEach [e] X.env = (false, eval e X.env) :: starEach [] X.env := by rfl) : WE X T G μ (.Call (.Name x p) [e] [] pos) Q := by
  subst hx
  refine we_callB cr_sortedS hm (by decide +kernel) (wa_one (h.mono fun d μ1 ⟨ns, sq, h64, q⟩ F0 F R H vs s hs r => ?_) he) hg (by decide) (by decide) he (by rfl)
  cases r with
  | cons r t =>
    cases t
    obtain ⟨l, vs, rfl, hq, rr⟩ := sq.at hs r
    have := rr.strs; subst this
    exact ⟨l, ns, rfl, .of hq, h64, fun ys l h1 h2 n => (fin_lst hs n (Reps.ofStrs _) (q ys h1 h2)).back s⟩
/-- min(i, j) -/
theorem we_min {x : Str} (hx : x = "min") (hm : X.mg "min" = none) (hc : X.calm = true) (h : WE X T G μ e fun d μ1 => WE X T G μ1 f fun d' μ2 => ∃ i j, d = .int i ∧ d' = .int j ∧ Q (.int (if j < i then j else i)) μ2) (hg : Gl X "min" := by rfl)
    (he : starEach [e, f] X.env = (false, eval e X.env) :: starEach [f] X.env := by rfl) (he' : starEach [f] X.env = (false, eval f X.env) :: starEach [] X.env := by rfl) (hpl : (backTo pos (starEach [f] X.env)).any (·.1) = false := by rfl) : WE X T G μ (.Call (.Name x p) [e, f] [] pos) Q := by
  subst hx
  refine we_callB (call_min2 hc) hm (by decide +kernel) (wa_two (h.mono fun d μ1 h1 => h1.mono fun d' μ2 ⟨i, j, e1, e2, q⟩ F0 F R H vs s hs r => ?_) he he') hg (by decide) (by decide) he hpl
  subst e1 e2
  cases r with
  | cons r t =>
    cases r
    cases t with
    | cons r' t => cases t; cases r'; exact ⟨i, j, rfl, (fin_now hs (.int _) q).back s⟩

/-! ### chains -/
theorem wt_chainI {op op' : CmpOp} {g g' : Int → Int → Bool} (ho : OpR X (compareOp op) (rI0 fun i j => .bl (g i j))) (ho' : OpR X (compareOp op') (rI0 fun i j => .bl (g' i j)))
    (h : WE X T G μ a fun d1 μ1 => WE X T G μ1 b fun d2 μ2 => ∃ i j, d1 = .int i ∧ d2 = .int j ∧ (g i j = false → P false μ2) ∧ (g i j = true → WE X T G μ2 c fun d3 μ3 => ∃ k, d3 = .int k ∧ P (g' j k) μ3)) (hm : lastMarks [op, op'] [b, c] = false := by with_unfolding_all rfl) : WT X T G μ (.Compare a [op, op'] [b, c] pos) P :=
  WT.of (pt_chain ho ho' (peW a) (peW b) (peW c) hm) fun F R H σ hs he => wE_mono (h F R H σ hs he) fun x H1 ⟨F1, d1, μ1, hs1, s1, r1, h1⟩ => wE_mono (h1 F1 R H1 σ hs1 (he.mono s1)) fun y H2 ⟨F2, d2, μ2, hs2, s2, r2, i, j, e1, e2, q1, q2⟩ => by
    subst e1 e2; cases r1; cases r2
    refine ⟨i, j, rfl, rfl, g i j, rfl, ?_⟩
    cases hg : g i j with
    | false => exact ⟨false, rfl, F2, μ2, hs2, s1.trans s2, q1 hg⟩
    | true =>
      show wE X c σ H2 _
      exact wE_mono (q2 hg F2 R H2 σ hs2 ((he.mono s1).mono s2)) fun z H3 ⟨F3, d3, μ3, hs3, s3, r3, k, e3, q3⟩ => by
        subst e3; cases r3
        exact ⟨j, k, rfl, rfl, _, rfl, F3, μ3, hs3, (s1.trans s2).trans s3, q3⟩

/-! ### isinstance -/
def tyD : D → Option String
  | .non => some "NoneType" | .bl _ => some "bool" | .int _ => some "int" | .str _ => some "str" | .lst _ => some "list" | .dic _ => some "dict" | _ => none
theorem tyx_of {K : PySem.W.Frag} {F R H : Hp} {d : D} {v : V} {t : String} (hs : Hs K T F μ R H) (h : tyD d = some t) (r : Rep K F d v) : TyX K H v (.type t) := by
  cases r <;> simp only [tyD, Option.some.injEq, reduceCtorEq] at h
  · subst h; exact .base .non
  · subst h; exact .base (.bl _)
  · subst h; exact .base (.int _)
  · subst h; exact .base (.str _)
  · rename_i h1 _; subst h; exact .base (.lst (hs.lstF h1))
  · rename_i h1 _; subst h; exact .fDict (hs.f _ _ h1)
theorem tyx_tup {K : PySem.W.Frag} {F R H : Hp} {ds : List D} {v : V} (hs : Hs K T F μ R H) (r : Rep K F (.tup ds) v) : TyX K H v (.type "tuple") := by
  cases r with
  | tup h _ =>
    rcases hs.tupF h with (h | ⟨o, h⟩) | ⟨o, n, its, h1, h2, h3, h4, h5⟩
    · exact .base (.tup h)
    · exact .fTuple h
    · exact .kTuple h1 h2
end
end Ws
/-! WS, part I: defs, comprehensions over typed lists. -/
namespace Ws
open PySem PyProof.Rows PySem.Spec L2

theorem defAt_of {P : Program} {w : World} {K : PySem.W.Frag} {mg : Str → Option Value} {base : Heap} {T : TabS} {x qual : Str} {params : Arguments} {body : List Stmt} {scope : Scope} {f : Addr} {fd : FuncData} {ps : List Str} {k : Nat} {S : DSp}
    (F : FunD K x qual params body scope [] [] f fd) (g : mg x = some (.ref f))
    (hb : ∀ (kV doc pm : Value) (an : Option Addr) (cdv ct : Value) (us : List Value), us.length = ps.length → bindArgs (PySem.W.fnOf x qual params body scope .none kV doc pm an cdv ct) ⟨us, []⟩ = pure (ps.zip us))
    (ok : FnOk P w K mg base CX0 k f fd ps (SpD K T S)) : DefAt P w K mg base T k x S := ⟨f, fd, ps, g, F.kp, F.bindsN hb, ok⟩

section
variable {X : Cx} {T : TabL} {G : GE} {μ : Mu} {scope : Scope} {ifs : List Expr} {elt : Expr} {Q : D → Mu → Prop} {i : Nat}
theorem WTs.mono {P P' : Bool → Mu → Prop} (h : WTs X T G μ ifs P) (m : ∀ k μ, P k μ → P' k μ) : WTs X T G μ ifs P' :=
  match ifs, h with
  | [], h => m _ _ h
  | [_], h => WT.mono h m
  | _ :: _ :: _, h => h
/-- a comprehension that changes nothing: over a typed list -/
theorem lc_fm {α : Type} (xs : List α) (dx : α → D) (p : α → Bool) (g : α → D) (q : Q (.lst ((xs.filter p).map g)) μ)
    (h : ∀ x ∈ xs, ∀ (s : Shared) (H : Hp) (C : Addr) (cl : List (Str × Addr)) (fp : List Addr), WTs (X.blk s H scope (compEnvC scope cl C X.env) fp) T (G.set i (some (dx x))) μ ifs fun k μ1 => k = p x ∧ μ1 = μ ∧ (p x = true → ∀ (s : Shared) (H : Hp) (C : Addr) (cl : List (Str × Addr)) (fp : List Addr),
      WE (X.blk s H scope (compEnvC scope cl C X.env) fp) T (G.set i (some (dx x))) μ elt fun y μ2 => y = g x ∧ μ2 = μ)) : LcOk X T G scope ifs elt i Q (xs.map dx) μ := by
  refine ⟨fun j acc μ' => acc = ((xs.take j).filter p).map g ∧ μ' = μ, ⟨rfl, rfl⟩, ?_, ?_⟩
  · rintro j d acc μ' ed ⟨rfl, rfl⟩ hl s H C cl fp
    rw [List.getElem?_map] at ed
    cases ex : xs[j]? with
    | none => rw [ex] at ed; cases ed
    | some x =>
      rw [ex] at ed; cases ed
      have hx : x ∈ xs := List.mem_of_getElem? ex
      have et : ∀ b, p x = b → ((xs.take (j + 1)).filter p).map g = ((xs.take j).filter p).map g ++ if b = true then [g x] else [] := by
        intro b hb
        rw [List.take_add_one, ex, Option.toList, List.filter_append, List.map_append, List.filter_cons, hb]
        cases b <;> simp
      have key : ∀ {k : Bool} {μ1 : Mu}, (k = p x ∧ μ1 = μ' ∧ (p x = true → ∀ (s : Shared) (H : Hp) (C : Addr) (cl : List (Str × Addr)) (fp : List Addr), WE (X.blk s H scope (compEnvC scope cl C X.env) fp) T (G.set i (some (dx x))) μ' elt fun y μ2 => y = g x ∧ μ2 = μ')) →
          if k = true then ∀ (s : Shared) (H : Hp) (C : Addr) (cl : List (Str × Addr)) (fp : List Addr), WE (X.blk s H scope (compEnvC scope cl C X.env) fp) T (G.set i (some (dx x))) μ1 elt (fun y μ4 => ((xs.take j).filter p).map g ++ [y] = ((xs.take (j + 1)).filter p).map g ∧ μ4 = μ') else ((xs.take j).filter p).map g = ((xs.take (j + 1)).filter p).map g ∧ μ1 = μ' := by
        rintro k μ1 ⟨hk, rfl, hh⟩
        subst hk
        cases hp : p x with
        | true =>
          rw [if_pos rfl]
          intro s H C cl fp
          exact (hh hp s H C cl fp).mono fun y μ2 ⟨e1, e2⟩ => ⟨by rw [et true hp, if_pos rfl, e1], e2⟩
        | false =>
          rw [if_neg (by simp)]
          exact ⟨by rw [et false hp]; simp, rfl⟩
      have q := h x hx s H C cl fp
      exact WTs.mono q fun k μ1 z => key z
  · rintro acc μ' ⟨rfl, rfl⟩ _
    rw [List.length_map, List.take_length]; exact q
end
end Ws
/-! WS, part J: constants of the module, isinstance, methods, fields, local calls, freezing. -/
namespace Ws
open PySem PyProof.Rows PySem.Spec L2

section
variable {X : Cx} {T : TabL} {G : GE} {μ : Mu} {pos pos' p apos cpos p2 : Pos} {e f o a b c value : Expr} {es : List Expr} {E : DE} {Q : D → Mu → Prop} {P : Bool → Mu → Prop} {st : Stmt} {sts : List Stmt}

/-! ### dicts that stand written -/
def TabAt (K : PySem.W.Frag) (w : World) (mg : Str → Option Value) (x : Str) (vals : Str → Option D) : Prop := ∃ a, mg x = some (.ref a) ∧ ∀ k d, vals k = some d → ∃ v, KDct K w a k v ∧ ∀ F, Rep K F d v
theorem we_tab {x : Str} {vals : Str → Option D} (ht : TabAt X.K X.w X.mg x vals) (h : WE X T G μ b fun d2 μ2 => ∃ k d, d2 = .str k ∧ vals k = some d ∧ Q d μ2) (hp : PlainIx b := by exact fun _ _ => rfl) (hg : Gl X x := by rfl) (hd : (x == ("__debug__" : Str)) = false := by decide) : WE X T G μ (.Subscript (.Name x p) b pos) Q := by
  obtain ⟨l, hm, hv⟩ := ht
  refine WE.of (pe_ix ix_kdict (pe_glob hg hm (v := .ref l) rfl hd) (peW b) hp) fun F R H σ hs he => wE_mono (h F R H σ hs he) fun y H2 ⟨F2, d2, μ2, hs2, s2, r2, k, d, e2, e3, q⟩ => ?_
  subst e2; cases r2
  obtain ⟨v, kd, r⟩ := hv k d e3
  exact ⟨l, k, v, rfl, rfl, kd, F2, d, μ2, hs2, s2, r F2, q⟩

/-- a constant of the module -/
def GlobD (K : PySem.W.Frag) (mg : Str → Option Value) (x : Str) (d : D) : Prop := ∃ v u, mg x = some u ∧ RelV v u ∧ ∀ F, Rep K F d v
theorem we_globD {x : Str} {d : D} (g : GlobD X.K X.mg x d) (q : Q d μ) (hg : Gl X x := by rfl) (hd : (x == ("__debug__" : Str)) = false := by decide) : WE X T G μ (.Name x pos) Q :=
  let ⟨v, u, h1, h2, h3⟩ := g
  we_glob h1 h2 h3 q hg hd
/-! ### isinstance -/
theorem we_ty {x : Str} {n : String} (hm : X.mg x = none) (hv : bootBuiltins x = some (.type n)) (q : Q (.ty n) μ) (hg : Gl X x := by rfl) (hn : x ≠ "__name__" := by decide) (hd : (x == ("__debug__" : Str)) = false := by decide) : WE X T G μ (.Name x pos) Q :=
  we_bltn hm hv (fun F R H F0 s hs => (fin_now hs (.ty n) q).back s) hg hn hd
theorem kit_eq {K : PySem.W.Frag} {t n : String} {b : Bool} (h : PySem.W.kitOne K (.type t) (.type n) = some b) : PySem.W.kitOne K (.type t) (.type n) = some b := h
/-- the type's name of a datum -/
inductive TyD : D → String → Prop
  | of {d : D} {t : String} (h : tyD d = some t) : TyD d t
  | tup {ds : List D} : TyD (.tup ds) "tuple"
theorem TyD.tyx {K : PySem.W.Frag} {F R H : Hp} {d : D} {v : V} {t : String} (h : TyD d t) (hs : Hs K T F μ R H) (r : Rep K F d v) : TyX K H v (.type t) := by
  cases h with
  | of h => exact tyx_of hs h r
  | tup => exact tyx_tup hs r
theorem we_isi {x : Str} (hx : x = "isinstance") (hm : X.mg "isinstance" = none) (h : WE X T G μ e fun d μ1 => WE X T G μ1 f fun d' μ2 => ∃ t n k, TyD d t ∧ d' = .ty n ∧ PySem.W.kitOne X.K (.type t) (.type n) = some k ∧ Q (.bl k) μ2) (hg : Gl X "isinstance" := by rfl)
    (he : starEach [e, f] X.env = (false, eval e X.env) :: starEach [f] X.env := by rfl) (he' : starEach [f] X.env = (false, eval f X.env) :: starEach [] X.env := by rfl) (hpl : (backTo pos (starEach [f] X.env)).any (·.1) = false := by rfl) : WE X T G μ (.Call (.Name x p) [e, f] [] pos) Q := by
  subst hx
  refine we_callB call_isi hm (by decide +kernel) (wa_two (h.mono fun d μ1 h1 => h1.mono fun d' μ2 ⟨t, n, k, ty, e2, hk, q⟩ F0 F R H vs s hs r => ?_) he he') hg (by decide) (by decide) he hpl
  subst e2
  cases r with
  | cons r t' =>
    cases t' with
    | cons r' t'' => cases t''; cases r'; exact ⟨_, .ty n, .type t, .type n, k, rfl, .ty n, ty.tyx hs r, hk, (fin_now hs (.bl _) q).back s⟩
theorem clsv_all {K : PySem.W.Frag} {F : Hp} : ∀ {ns : List String} {vs : List V}, Reps K F (ns.map D.ty) vs → Paired ClsV vs (ns.map Value.type)
  | [], _, r => by cases r; exact .nil
  | n :: ns, _, r => by cases r with | cons r t => cases r; exact .cons (.ty n) (clsv_all t)
theorem we_isiT {x : Str} {k0 : Nat} (hx : x = "isinstance") (hm : X.mg "isinstance" = none) (h : WE X T G μ e fun d μ1 => WA X T G μ1 es fun ds μ2 => ∃ t k, ∃ ns : List String, ds.length ≤ sizeLine ∧ TyD d t ∧ ds = ns.map .ty ∧ PySem.W.kitAny X.K (.type t) (ns.map .type) = some k ∧ Q (.bl k) μ2) (hg : Gl X "isinstance" := by rfl)
    (he : starEach [e, .Tuple es k0 p2] X.env = (false, eval e X.env) :: starEach [.Tuple es k0 p2] X.env := by rfl) (he' : starEach [.Tuple es k0 p2] X.env = (false, eval (.Tuple es k0 p2) X.env) :: starEach [] X.env := by rfl) (hpl : (backTo pos (starEach [.Tuple es k0 p2] X.env)).any (·.1) = false := by rfl) : WE X T G μ (.Call (.Name x p) [e, .Tuple es k0 p2] [] pos) Q := by
  subst hx
  refine WE.of (pe_callB call_isiT hg hm (by decide +kernel) (pa_cons (peW e) (pa_cons (pe_tup (paW es)) pa_nil he') he) (by decide) (by decide) he hpl) fun F R H σ hs hv => ?_
  refine wE_mono (h F R H σ hs hv) fun v H1 ⟨F1, d, μ1, hs1, s1, r1, h1⟩ => wA_mono (h1 F1 R H1 σ hs1 (hv.mono s1)) fun vs H2 ⟨F2, ds, μ2, hs2, s2, r2, t, k, ns, hz, ty, ed, hk, q⟩ => ⟨by rw [← r2.length]; exact hz, fun l n => ?_⟩
  subst ed
  have sm := same_upd (o := HO.tup vs) (hs2.noF n)
  exact ⟨v, l, vs, .type t, _, k, rfl, upd_same, clsv_all r2, ty.tyx (hs2.new n) ((r1.mono s2).mono sm), hk, _, .bl k, μ2, hs2.new n, (s1.trans s2).trans sm, .bl k, q⟩

/-! ### fields, methods -/
theorem RepF.look {K : PySem.W.Frag} {F : Hp} : ∀ {ds : List (Str × D)} {vs : List (Str × V)} (x : Str), RepF K F ds vs → (ds.lookup x = none ∧ vs.lookup x = none) ∨ ∃ d v, ds.lookup x = some d ∧ vs.lookup x = some v ∧ Rep K F d v
  | _, _, x, .nil => .inl ⟨rfl, rfl⟩
  | (k, d) :: ds, (_, v) :: vs, x, .cons h t => by
    by_cases e : (x == k) = true
    · exact .inr ⟨d, v, by simp [List.lookup, e], by simp [List.lookup, e], h⟩
    · have e' : (x == k) = false := by simpa using e
      have e1 : ((k, d) :: ds).lookup x = ds.lookup x := by simp [List.lookup, e']
      have e2 : ((k, v) :: vs).lookup x = vs.lookup x := by simp [List.lookup, e']
      rw [e1, e2]; exact t.look x
theorem we_fld {x : Str} (h : WE X T G μ e fun d0 μ1 => ∃ a C dx fs d, d0 = .ref a ∧ μ1 a = some (.mi C dx fs) ∧ Cls X.K C ∧ NoAttr X.K C x ∧ fs.lookup x = some d ∧ Q d μ1) (hb : attributeBase e x X.env (eval e X.env) = eval e X.env := by rfl) : WE X T G μ (.Attribute e x pos) Q :=
  WE.of (pe_fld (peW e) hb) fun F R H σ hs he => wE_mono (h F R H σ hs he) fun v H1 ⟨F1, d0, μ1, hs1, s1, r1, a, C, dx, fs, d, e0, em, hc, hn, hl, q⟩ => by
    subst e0; cases r1
    obtain ⟨gs, eh, rr⟩ := hs1.mi em
    rcases rr.look x with ⟨z, _⟩ | ⟨d', v', z1, z2, z3⟩
    · rw [z] at hl; cases hl
    · rw [z1] at hl; cases hl
      exact ⟨a, C, dx, gs, v', rfl, eh, hc, hn, z2, F1, d, μ1, hs1, s1, z3, q⟩
/-- a method of a class keeps S (level k) -/
structure MethAt (P : Program) (w : World) (K : PySem.W.Frag) (mg : Str → Option Value) (base : Heap) (T : TabS) (k : Nat) (C : Addr) (m : Str) (S : DSp) : Prop where
  ex : ∃ f fd ps, Cls K C ∧ Meth K C m f ∧ Binds K fd ps [] ∧ FnOk P w K mg base CX0 k f fd ps (SpD K T S)
theorem we_meth {k j : Nat} {m : Str} {C : Addr} {S : DSp} (d : MethAt X.prog X.w X.K X.mg X.base T.l k C m S) (hr : Room j X.A) (h : WE X T G μ o fun d0 μ1 => ∃ a dx fs, d0 = .ref a ∧ μ1 a = some (.mi C dx fs) ∧ fs.lookup m = none ∧ WA X T G μ1 (e :: es) fun ds μ2 => S (.ref a :: ds) μ2 Q) (hk : k ≤ j := by decide)
    (hst : starEach (e :: es) X.env = (false, eval e X.env) :: starEach es X.env := by rfl) (hpl : (backTo pos (starEach es X.env)).any (·.1) = false := by rfl) {pl : Sem Bool}
    (ht : eval (.Call (.Attribute o m apos) (e :: es) [] pos) X.env = (do
      let ov ← eval o X.env
      standAt apos.atName
      let (f, first) ← holding [ov] (getMethod ov m pl)
      callWith pos f first (backTo pos (starEach (e :: es) X.env)) (backToKw pos (keywordEach [] X.env))) := by rfl) : WE X T G μ (.Call (.Attribute o m apos) (e :: es) [] pos) Q := by
  obtain ⟨f, fd, ps, hc, hm, hb, F⟩ := d.ex
  refine WE.of (pe_meth (peW o) hc hm F (hr.mono hk) hb .nil pass0 (paW (e :: es)) hst hpl ht) fun F R H σ hs he => wE_mono (h F R H σ hs he) fun v H1 ⟨F1, d0, μ1, hs1, s1, r1, a, dx, fs, e0, em, hl, h1⟩ => ?_
  subst e0; cases r1
  obtain ⟨gs, eh, rr⟩ := hs1.mi em
  have hl' : gs.lookup m = none := by
    rcases rr.look m with ⟨_, z⟩ | ⟨d', v', z1, z2, z3⟩
    · exact z
    · rw [z1] at hl; cases hl
  exact ⟨a, dx, gs, rfl, eh, hl', wA_mono (h1 F1 R H1 σ hs1 (he.mono s1)) fun vs H2 ⟨F2, ds, μ2, hs2, s2, r2, q⟩ => ⟨F2, μ2, R, .ref a :: ds, Q, hs2.base, by rw [List.append_nil]; exact .cons (.ref a) r2, q, fun v H' z => (z.up hs2.lb hs2.rb).back (s1.trans s2)⟩⟩
theorem we_meth0 {k j : Nat} {m : Str} {C : Addr} {S : DSp} (d : MethAt X.prog X.w X.K X.mg X.base T.l k C m S) (hr : Room j X.A) (h : WE X T G μ o fun d0 μ1 => ∃ a dx fs, d0 = .ref a ∧ μ1 a = some (.mi C dx fs) ∧ fs.lookup m = none ∧ S [.ref a] μ1 Q) (hk : k ≤ j := by decide) {pl : Sem Bool}
    (ht : eval (.Call (.Attribute o m apos) [] [] pos) X.env = (do
      let ov ← eval o X.env
      standAt apos.atName
      let (f, first) ← holding [ov] (getMethod ov m pl)
      callWith pos f first (backTo pos (starEach [] X.env)) (backToKw pos (keywordEach [] X.env))) := by rfl) : WE X T G μ (.Call (.Attribute o m apos) [] [] pos) Q := by
  obtain ⟨f, fd, ps, hc, hm, hb, F⟩ := d.ex
  refine WE.of (pe_meth0 (peW o) hc hm F (hr.mono hk) hb .nil pass0 ht) fun F R H σ hs he => wE_mono (h F R H σ hs he) fun v H1 ⟨F1, d0, μ1, hs1, s1, r1, a, dx, fs, e0, em, hl, q⟩ => ?_
  subst e0; cases r1
  obtain ⟨gs, eh, rr⟩ := hs1.mi em
  have hl' : gs.lookup m = none := by
    rcases rr.look m with ⟨_, z⟩ | ⟨d', v', z1, z2, z3⟩
    · exact z
    · rw [z1] at hl; cases hl
  exact ⟨a, dx, gs, rfl, eh, hl', F1, μ1, R, [.ref a], Q, hs1.base, by simp only [List.append_nil]; exact .cons (.ref a) .nil, q, fun v H' z => (z.up hs1.lb hs1.rb).back s1⟩
/-- o.x = value -/
def putFD (x : Str) (d : D) (fs : List (Str × D)) : List (Str × D) := if (fs.any fun p => decide (p.1 = x)) = true then fs.map fun p => if p.1 = x then (p.1, d) else p else fs ++ [(x, d)]

/-! ### local names that hold a def -/
theorem we_callL {k j i : Nat} {x : Str} {g : Addr} {S : DSp} (hG : G[i]? = some (some (.ref g))) (d : Held X.prog X.w X.K X.mg X.base k g (SpD X.K T.l S)) (hr : Room j X.A) (h : WA X T G μ (e :: es) fun ds μ1 => S ds μ1 Q) (hk : k ≤ j := by decide) (hN : X.N[i]? = some x := by rfl) (hv : Vis X.env.scope x := by first | exact Or.inl rfl | exact Or.inr (Or.inl rfl) | exact Or.inr (Or.inr rfl))
    (hdb : (x == ("__debug__" : Str)) = false := by decide) (hcd : (x == ("__classdict__" : Str)) = false := by decide)
    (he : starEach (e :: es) X.env = (false, eval e X.env) :: starEach es X.env := by rfl) (hpl : (backTo pos (starEach es X.env)).any (·.1) = false := by rfl) : WE X T G μ (.Call (.Name x p) (e :: es) [] pos) Q := by
  obtain ⟨fd, ps, F, hkp, hb⟩ := d.ex
  refine WE.of (pe_callL (i := i) (f := g) (sp := SpD X.K T.l S) (dvs := []) (E := fun _ _ _ => False) F (hr.mono hk) hN hv hkp hb .nil (fun _ _ _ _ _ _ _ z => z.elim) (paW (e :: es)) hdb hcd he hpl) fun F R H σ hs hv => ?_
  obtain ⟨v, ev, rv⟩ := hv i _ hG
  cases rv
  exact ⟨ev, wA_mono (h F R H σ hs hv) fun vs H1 ⟨F1, ds, μ1, hs1, s1, r, q⟩ => ⟨F1, μ1, R, ds, Q, hs1.base, by rw [List.append_nil]; exact r, q, fun v H' z => (z.up hs1.lb hs1.rb).back s1⟩⟩
theorem DefAt.held {T : TabS} {P : Program} {w : World} {K : PySem.W.Frag} {mg : Str → Option Value} {base : Heap} {k : Nat} {x : Str} {S : DSp} (d : DefAt P w K mg base T k x S) : ∃ g, mg x = some (.ref g) ∧ Held P w K mg base k g (SpD K T S) :=
  let ⟨f, fd, ps, a, b, c, F⟩ := d.ex
  ⟨f, a, fd, ps, F, b, c⟩

theorem we_post (h : WE X T G μ e fun d μ1 => ∃ μ2, MSame μ2 μ1 ∧ Q d μ2) : WE X T G μ e Q := fun F R H σ hs he =>
  wE_mono (h F R H σ hs he) fun v H' ⟨F1, d, μ1, hs1, s1, r, μ2, m, q⟩ => ⟨F1, d, μ2, hs1.less m, s1, r, q⟩
theorem WSs.weak {ν : Mu} (h : WSs X T G ν sts E) (m : MSame ν μ) : WSs X T G μ sts E := fun F R H σ hs he => h F R H σ (hs.less m) he
theorem _root_.L2.Room.u1 {k : Nat} {A : Around} (r : Room k A) : A.units + 1 < cLine := by have := r.un; omega

/-! ### what changed is fixed from here on -/
theorem wss_fixL (i : Nat) {l : Addr} {ds : List D} (em : μ l = some (.ml ds)) (hG : G[i]? = some (some (.ref l))) (h : WSs X T (G.set i (some (.lst ds))) (mdel μ l) sts E) : WSs X T G μ sts E := fun F R H σ hs he => by
  obtain ⟨o, e1, mr, nF, hs2⟩ := hs.freeze em
  cases mr with
  | @ml _ vs rr =>
    have sm := same_upd (o := HO.lst vs) nF
    refine wSs_mono (h _ R H σ hs2 ?_) (endsD.back sm)
    intro j d ej
    by_cases hj : i = j
    · subst hj
      have hl : i < G.length := (List.getElem?_eq_some_iff.mp hG).1
      rw [List.getElem?_set_self hl] at ej; cases ej
      obtain ⟨v, ev, rv⟩ := he i _ hG
      cases rv
      exact ⟨.ref l, ev, .lst upd_same (rr.mono sm)⟩
    · rw [List.getElem?_set_ne hj] at ej
      obtain ⟨v, ev, rv⟩ := he j d ej
      exact ⟨v, ev, rv.mono sm⟩
theorem wss_fixD (i : Nat) {l : Addr} {kvs : List (Key × D)} (em : μ l = some (.md kvs)) (hG : G[i]? = some (some (.ref l))) (h : WSs X T (G.set i (some (.dic kvs))) (mdel μ l) sts E) : WSs X T G μ sts E := fun F R H σ hs he => wSs.mk fun pins s I => by
  obtain ⟨ps, e1, rr⟩ := hs.md em
  obtain ⟨od, J2⟩ := I.lock e1 trivial
  obtain ⟨nF, hs2⟩ := hs.freezeD (od := od) em e1 rr
  have sm := same_upd (o := HO.frz od (.dK ps)) nF
  refine (wSs_mono (h _ R _ σ hs2 ?_) (endsD.back sm)).run pins s J2
  intro j d ej
  by_cases hj : i = j
  · subst hj
    have hl : i < G.length := (List.getElem?_eq_some_iff.mp hG).1
    rw [List.getElem?_set_self hl] at ej; cases ej
    obtain ⟨v, ev, rv⟩ := he i _ hG
    cases rv
    exact ⟨.ref l, ev, .dic upd_same (rr.mono sm)⟩
  · rw [List.getElem?_set_ne hj] at ej
    obtain ⟨v, ev, rv⟩ := he j d ej
    exact ⟨v, ev, rv.mono sm⟩
end
end Ws
/-! WS, part K: comprehensions with two loops, dict comprehensions. -/
namespace Ws
open PySem PyProof.Rows PySem.Spec L2

section
variable {X : Cx} {T : TabL} {G : GE} {μ : Mu} {pos p tpos tpos1 pos' : Pos} {e elt iter iter1 kx vx tg : Expr} {scope : Scope} {E : DE} {Q : D → Mu → Prop} {i j : Nat}

def wIB (X : Cx) (scope : Scope) (tg iter : Expr) : TI := fun σ H R => ∀ (s0 : Shared) (H0 : Hp) (C : Addr) (cl : List (Str × Addr)) (fp : List Addr), wI (X.blk s0 H0 scope (compEnvC scope cl C X.env) fp) tg iter σ H R
theorem piB {scope : Scope} {tg iter : Expr} (s0 : Shared) (H0 : Hp) (C : Addr) (cl : List (Str × Addr)) (fp : List Addr) : PI (X.blk s0 H0 scope (compEnvC scope cl C X.env) fp) tg iter (wIB X scope tg iter) := ⟨fun pins s σ H R I h => (h s0 H0 C cl fp).run pins s I⟩
theorem wipe_two {α : Type} {σ : List (Option α)} {i j : Nat} {x : Option α} (hij : i ≠ j) : ((((σ.set j none).set i none).set i x).set j none).set i none = (σ.set j none).set i none := by
  have e1 : ((σ.set j none).set i none).set i x = (σ.set j none).set i x := List.set_set ..
  have e2 : ((σ.set j none).set i x).set j none = ((σ.set j none).set j none).set i x := List.set_comm _ _ hij
  have e3 : (σ.set j none).set j none = σ.set j none := List.set_set ..
  rw [e1, e2, e3, List.set_set]
/-- [elt for x in iter for y in iter1]: the inner loop's invariant too -/
def LcOk2 (X : Cx) (T : TabL) (G : GE) (scope : Scope) (tg1 iter1 elt : Expr) (i j : Nat) (Q : D → Mu → Prop) (ds : List D) (μ1 : Mu) : Prop :=
  ∃ P : Nat → List D → Mu → Prop, P 0 [] μ1 ∧
    (∀ (n : Nat) (d : D) (acc : List D) (μ' : Mu), ds[n]? = some d → P n acc μ' →
      ∀ (s : Shared) (H : Hp) (C : Addr) (cl : List (Str × Addr)) (fp : List Addr), WI (X.blk s H scope (compEnvC scope cl C X.env) fp) T (G.set i (some d)) μ' tg1 iter1 fun es μ2 =>
        ∃ P1 : Nat → List D → Mu → Prop, P1 0 acc μ2 ∧ (∀ (m : Nat) (d1 : D) (acc1 : List D) (μ3 : Mu), es[m]? = some d1 → P1 m acc1 μ3 → acc1.length < sizeLine ∧
          ∀ (s : Shared) (H : Hp) (C : Addr) (cl : List (Str × Addr)) (fp : List Addr), WE (X.blk s H scope (compEnvC scope cl C X.env) fp) T ((G.set i (some d)).set j (some d1)) μ3 elt fun y μ4 => P1 (m + 1) (acc1 ++ [y]) μ4) ∧
          ∀ acc1 μ3, P1 es.length acc1 μ3 → P (n + 1) acc1 μ3) ∧
    ∀ acc μ', P ds.length acc μ' → Q (.lst acc) μ'
theorem lc2_read {x y : Str} {elt : Expr} (h : WI X T G μ (.Name x tpos) iter (LcOk2 X T G scope (.Name y tpos1) iter1 elt i j Q)) {F R H : Hp} {σ : L2.St} (hi : i < σ.length) (hj : j < σ.length) (hij : i ≠ j) (hGj : ∀ d, G[j]? ≠ some (some d)) (hs : Hs X.K T F μ R H) (he : EnvR X.K F G σ) :
    tLc2 (wI X (.Name x tpos) iter) (gName i) tYes (wIB X scope (.Name y tpos1) iter1) (gName j) tYes (tElt X scope elt) [i, j] [j] σ H (Fin X.K T F R Q) := by
  refine wI_mono (h F R H σ hs he) fun J H1 ⟨F1, μ1, ds, hs1, s1, it, hz, PP, p0, step, done⟩ => ?_
  intro D hD
  have nR : R D = none := hs1.noR hD
  have nT : T.rb D = none := hs1.rb.free nR
  refine ⟨fun n m H => m = ds.length - n ∧ n ≤ ds.length ∧ ∃ F' μ' acc vs, Hs X.K T F' μ' (upd R D (.lst vs)) H ∧ Same F1 F' ∧ Reps X.K F' acc vs ∧ PP n acc μ', ⟨_, rfl, Nat.zero_le _, F1, μ1, [], [], frame_new hs1 hD, Same.refl _, .nil, p0⟩, ?_⟩
  rintro n m H3 ⟨rfl, hn, F', μ', acc, vs, hs3, s3, r3, hP⟩
  obtain ⟨go, stop, yld⟩ := it F' μ' _ H3 s3 hs3
  by_cases hlt : n < ds.length
  · refine .inr ⟨go n hlt, fun H' => ∃ F'' μ'' acc' vs', Hs X.K T F'' μ'' (upd R D (.lst vs')) H' ∧ Same F1 F'' ∧ Reps X.K F'' acc' vs' ∧ PP (n + 1) acc' μ'', fun H' ⟨F'', μ'', acc', vs', a, b, c, d⟩ => ⟨ds.length - (n + 1), by omega, rfl, hlt, F'', μ'', acc', vs', a, b, c, d⟩, fun x0 H4 y0 => ?_⟩
    have ed : ds[n]? = some ds[n] := by simp [hlt]
    obtain ⟨F4, hs4, s4, r4⟩ := yld n _ x0 H4 ed y0
    let σ2 : L2.St := (wipe σ [i, j]).set i (some x0)
    have he4 : EnvR X.K F4 (G.set i (some ds[n])) σ2 := by
      have e0 : EnvR X.K F4 G (σ.set j none) := by
        intro k d ek
        have hk : k ≠ j := by rintro rfl; exact hGj d ek
        obtain ⟨v, ev, rv⟩ := he k d ek
        exact ⟨v, by rw [List.getElem?_set_ne (Ne.symm hk)]; exact ev, rv.mono ((s1.trans s3).trans s4)⟩
      have e1 : σ2 = (σ.set j none).set i (some x0) := by
        show ((σ.set j none).set i none).set i (some x0) = _
        rw [List.set_set]
      rw [e1]
      exact e0.set (by simpa using hi) r4
    refine ⟨?_, ?_⟩
    · show ((((σ.set j none).set i none).set i (some x0)).set j none).set i none = (σ.set j none).set i none
      exact wipe_two hij
    · show wIB X scope (.Name y tpos1) iter1 σ2 H4 _
      intro s0 H0 C cl fp
      refine wI_mono (step n _ acc μ' ed hP s0 H0 C cl fp F4 _ H4 σ2 hs4 he4) fun J1 H5 ⟨F5, μ5, es, hs5, s5, it5, hz5, P1, p10, step1, done1⟩ => ?_
      refine ⟨fun n1 m1 H => m1 = es.length - n1 ∧ n1 ≤ es.length ∧ ∃ F' μ' acc vs, Hs X.K T F' μ' (upd R D (.lst vs)) H ∧ Same F5 F' ∧ Reps X.K F' acc vs ∧ P1 n1 acc μ', ⟨_, rfl, Nat.zero_le _, F5, μ5, acc, vs, hs5, Same.refl _, r3.mono (s4.trans s5), p10⟩, ?_⟩
      rintro n1 m1 H6 ⟨rfl, hn1, F6, μ6, acc6, vs6, hs6, s6, r6, hP6⟩
      obtain ⟨go6, stop6, yld6⟩ := it5 F6 μ6 _ H6 s6 hs6
      by_cases hlt1 : n1 < es.length
      · refine .inr ⟨go6 n1 hlt1, fun H' => ∃ F'' μ'' acc' vs', Hs X.K T F'' μ'' (upd R D (.lst vs')) H' ∧ Same F5 F'' ∧ Reps X.K F'' acc' vs' ∧ P1 (n1 + 1) acc' μ'', fun H' ⟨F'', μ'', acc', vs', a, b, c, d⟩ => ⟨es.length - (n1 + 1), by omega, rfl, hlt1, F'', μ'', acc', vs', a, b, c, d⟩, fun x1 H7 y1 => ?_⟩
        have ed1 : es[n1]? = some es[n1] := by simp [hlt1]
        obtain ⟨F7, hs7, s7, r7⟩ := yld6 n1 _ x1 H7 ed1 y1
        have hj2 : j < (wipe σ2 [j]).length := by show j < (σ2.set j none).length; simpa [σ2, wipe] using hj
        have he7 : EnvR X.K F7 ((G.set i (some ds[n])).set j (some es[n1])) ((wipe σ2 [j]).set j (some x1)) := by
          have e1 : (wipe σ2 [j]).set j (some x1) = σ2.set j (some x1) := by show (σ2.set j none).set j (some x1) = _; rw [List.set_set]
          rw [e1]
          exact (he4.mono ((s5.trans s6).trans s7)).set (by simpa [σ2, wipe] using hj) r7
        refine ⟨by show ((σ2.set j none).set j (some x1)).set j none = σ2.set j none; rw [List.set_set, List.set_set], ?_⟩
        obtain ⟨hlen, st⟩ := step1 n1 _ acc6 μ6 ed1 hP6
        show tElt X scope elt _ H7 _
        intro s0 H0 C cl fp
        refine wE_mono (st s0 H0 C cl fp F7 _ H7 _ hs7 he7) fun y8 H8 ⟨F8, d8, μ8, hs8, s8, r8, q8⟩ => ?_
        exact ⟨vs6, hs8.r D _ upd_same, by rw [← r6.length]; exact hlen, F8, μ8, acc6 ++ [d8], vs6 ++ [y8], frame_set hs8 nT, (s6.trans s7).trans s8, (r6.mono (s7.trans s8)).append (.cons r8 .nil), q8⟩
      · have e : n1 = es.length := by omega
        subst e
        exact .inl ⟨stop6, F6, μ6, acc6, vs6, hs6, ((s3.trans s4).trans s5).trans s6, r6, done1 _ _ hP6⟩
  · have e : n = ds.length := by omega
    subst e
    have nF := (hs3.fr D).resolve_right (by rw [upd_same]; simp)
    exact .inl ⟨stop, _, .lst acc, μ', frame_fix hs3 nR nT, (s1.trans s3).trans (same_upd nF), .lst upd_same (r3.mono (same_upd nF)), done acc μ' hP⟩
theorem we_lc2 (i j : Nat) {x y : Str} (hN : X.N.Nodup) (hc : X.calm = true) (ok : BlkOk X.N X.env.scope scope [(x, i), (y, j)]) (hGj : ∀ d, G[j]? ≠ some (some d)) (h : WI X T G μ (.Name x tpos) iter (LcOk2 X T G scope (.Name y tpos1) iter1 elt i j Q)) (hij : i ≠ j := by decide) (hi : X.N[i]? = some x := by rfl) (hj : X.N[j]? = some y := by rfl)
    (hx : ∀ (C : Addr) (cl : List (Str × Addr)), Loc (compEnvC scope cl C X.env).scope x := by intro _ _; first | exact Or.inl rfl | exact Or.inr rfl) (hf : ∀ (C : Addr) (cl : List (Str × Addr)), (scope.names.lookup x == some .cell) = true ∨ (compEnvC scope cl C X.env).scope.names.lookup x = some .local := by intro _ _; first | exact .inr rfl | exact .inl rfl)
    (hx' : ∀ (C : Addr) (cl : List (Str × Addr)), Loc (compEnvC scope cl C X.env).scope y := by intro _ _; first | exact Or.inl rfl | exact Or.inr rfl) (hf' : ∀ (C : Addr) (cl : List (Str × Addr)), (scope.names.lookup y == some .cell) = true ∨ (compEnvC scope cl C X.env).scope.names.lookup y = some .local := by intro _ _; first | exact .inr rfl | exact .inl rfl)
    (hs : ∀ x, foldedSetIterable iter X.env x = pure x := by intro _; rfl) (hs1 : ∀ env x, foldedSetIterable iter1 env x = pure x := by intro _ _; rfl) : WE X T G μ (.ListComp elt [⟨.Name x tpos, iter, [], 0⟩, ⟨.Name y tpos1, iter1, [], 0⟩] scope pos) Q := by
  intro F R H σ hs' he; refine ⟨fun pins s I => ?_⟩
  have hi' : i < σ.length := by rw [I.len]; exact getEl_lt hi
  have hj' : j < σ.length := by rw [I.len]; exact getEl_lt hj
  exact (wE_of (pe_lc2 (own := [(x, i), (y, j)]) (vs1 := [j]) (g := gName i) (g1 := gName j) hc hN (piW _ iter) ok (fun k hk => by simp at hk; subst hk; simp) (fun s H C cl fp => pg_name (i := i) hN hi (hx C cl) (hf C cl)) (fun _ _ _ _ _ => pts_nil) (piB (X := X))
    (fun s H C cl fp => pg_name (i := j) hN hj (hx' C cl) (hf' C cl)) (fun _ _ _ _ _ => pts_nil) (peI (X := X)) hs hs1) (lc2_read (x := x) (y := y) h hi' hj' hij hGj hs' he)).run pins s I
theorem ws_lc2 (k i j : Nat) {x y z : Str} {py : Pos} (hN : X.N.Nodup) (hc : X.calm = true) (ok : BlkOk X.N X.env.scope scope [(x, i), (y, j)]) (hGj : ∀ d, G[j]? ≠ some (some d)) (h : WI X T G μ (.Name x tpos) iter (LcOk2 X T G scope (.Name y tpos1) iter1 elt i j fun d μ1 => E.nx (G.set k (some d)) μ1)) (hij : i ≠ j := by decide) (hi : X.N[i]? = some x := by rfl) (hj : X.N[j]? = some y := by rfl) (hk : X.N[k]? = some z := by rfl)
    (hyl : X.env.scope.names.lookup z = some .local := by rfl) (hsw : swapsWith (.ListComp elt [⟨.Name x tpos, iter, [], 0⟩, ⟨.Name y tpos1, iter1, [], 0⟩] scope pos) (some (.Name z py)) pos'.line X.env = pure true := by exact sw_true rfl rfl rfl (by decide +kernel))
    (hx : ∀ (C : Addr) (cl : List (Str × Addr)), Loc (compEnvC scope cl C X.env).scope x := by intro _ _; first | exact Or.inl rfl | exact Or.inr rfl) (hf : ∀ (C : Addr) (cl : List (Str × Addr)), (scope.names.lookup x == some .cell) = true ∨ (compEnvC scope cl C X.env).scope.names.lookup x = some .local := by intro _ _; first | exact .inr rfl | exact .inl rfl)
    (hx' : ∀ (C : Addr) (cl : List (Str × Addr)), Loc (compEnvC scope cl C X.env).scope y := by intro _ _; first | exact Or.inl rfl | exact Or.inr rfl) (hf' : ∀ (C : Addr) (cl : List (Str × Addr)), (scope.names.lookup y == some .cell) = true ∨ (compEnvC scope cl C X.env).scope.names.lookup y = some .local := by intro _ _; first | exact .inr rfl | exact .inl rfl)
    (hs : ∀ x, foldedSetIterable iter X.env x = pure x := by intro _; rfl) (hs1 : ∀ env x, foldedSetIterable iter1 env x = pure x := by intro _ _; rfl) : WS X T G μ (.Assign [.Name z py] (.ListComp elt [⟨.Name x tpos, iter, [], 0⟩, ⟨.Name y tpos1, iter1, [], 0⟩] scope pos) pos') E := by
  intro F R H σ hs' he; refine ⟨fun pins s I => ?_⟩
  have hi' : i < σ.length := by rw [I.len]; exact getEl_lt hi
  have hj' : j < σ.length := by rw [I.len]; exact getEl_lt hj
  have hk' : k < σ.length := by rw [I.len]; exact getEl_lt hk
  have q := lc2_read (x := x) (y := y) h hi' hj' hij hGj hs' he
  have m : ∀ v H', Fin X.K T F R (fun d μ1 => E.nx (G.set k (some d)) μ1) v H' → gName k v σ H' (endsD X.K T F R E).nx := fun v H' ⟨F1, d, μ1, hs1, s1, r, q⟩ => ⟨F1, _, μ1, hs1, s1, (he.mono s1).set hk' r, q⟩
  refine (wS_of (D := endsD X.K T F R E) (ps_setLc2 (own := [(x, i), (y, j)]) (vs1 := [j]) (g := gName i) (g1 := gName j) hc hN hk hyl hsw (piW _ iter) ok (fun k hk => by simp at hk; subst hk; simp) (fun s H C cl fp => pg_name (i := i) hN hi (hx C cl) (hf C cl)) (fun _ _ _ _ _ => pts_nil) (piB (X := X))
    (fun s H C cl fp => pg_name (i := j) hN hj (hx' C cl) (hf' C cl)) (fun _ _ _ _ _ => pts_nil) (peI (X := X)) hs hs1) ?_).run pins s I
  exact wI_mono q fun J H1 z D hD => let ⟨W, w0, t⟩ := z D hD; ⟨W, w0, fun j mm H w => (t j mm H w).elim (fun ⟨a, b⟩ => .inl ⟨a, m _ _ b⟩) .inr⟩
/-- .. that changes nothing, the elements as they come -/
theorem lc2_fm {tg1 : Expr} {α : Type} (xs : List α) (dx : α → D) (ys : α → List D) (hlen : (xs.flatMap ys).length ≤ sizeLine) (q : Q (.lst (xs.flatMap ys)) μ)
    (h : ∀ x ∈ xs, ∀ (s : Shared) (H : Hp) (C : Addr) (cl : List (Str × Addr)) (fp : List Addr), WI (X.blk s H scope (compEnvC scope cl C X.env) fp) T (G.set i (some (dx x))) μ tg1 iter1 fun es μ2 => es = ys x ∧ μ2 = μ ∧
      ∀ d1 ∈ ys x, ∀ (s : Shared) (H : Hp) (C : Addr) (cl : List (Str × Addr)) (fp : List Addr), WE (X.blk s H scope (compEnvC scope cl C X.env) fp) T ((G.set i (some (dx x))).set j (some d1)) μ elt fun y μ4 => y = d1 ∧ μ4 = μ) : LcOk2 X T G scope tg1 iter1 elt i j Q (xs.map dx) μ := by
  refine ⟨fun n acc μ' => acc = (xs.take n).flatMap ys ∧ μ' = μ, ⟨rfl, rfl⟩, ?_, ?_⟩
  · rintro n d acc μ' ed ⟨rfl, rfl⟩ s H C cl fp
    rw [List.getElem?_map] at ed
    cases ex : xs[n]? with
    | none => rw [ex] at ed; cases ed
    | some x =>
      rw [ex] at ed; cases ed
      have hx : x ∈ xs := List.mem_of_getElem? ex
      have et : (xs.take (n + 1)).flatMap ys = (xs.take n).flatMap ys ++ ys x := by
        rw [List.take_add_one, ex, Option.toList, List.flatMap_append]; simp
      have hle : ((xs.take n).flatMap ys ++ ys x).length ≤ sizeLine := by
        rw [← et]
        have e2 : (xs.take (n + 1)).flatMap ys ++ (xs.drop (n + 1)).flatMap ys = xs.flatMap ys := by rw [← List.flatMap_append, List.take_append_drop]
        rw [← e2, List.length_append] at hlen
        omega
      intro F R H2 σ hs he
      refine wI_mono (h x hx s H C cl fp F R H2 σ hs he) fun J H1 ⟨F1, μ1, es, hs1, s1, it, hz, ee, e2, hh⟩ => ?_
      subst ee e2
      refine ⟨F1, μ1, ys x, hs1, s1, it, hz, fun m acc1 μ3 => acc1 = (xs.take n).flatMap ys ++ (ys x).take m ∧ μ3 = μ1, ⟨by simp, rfl⟩, ?_, ?_⟩
      · rintro m d1 acc1 μ3 ed1 ⟨rfl, rfl⟩
        have hm : m < (ys x).length := (List.getElem?_eq_some_iff.mp ed1).1
        refine ⟨?_, fun s H C cl fp => (hh d1 (List.mem_of_getElem? ed1) s H C cl fp).mono fun y μ4 ⟨e3, e4⟩ => ⟨?_, e4⟩⟩
        · rw [List.length_append] at hle ⊢
          rw [List.length_take]; omega
        · rw [e3, List.take_add_one, ed1, Option.toList, List.append_assoc]
      · rintro acc1 μ3 ⟨rfl, rfl⟩
        exact ⟨by rw [et, List.take_length], rfl⟩
  · rintro acc μ' ⟨rfl, rfl⟩
    rw [List.length_map, List.take_length]; exact q
end
end Ws
/-! WS, part L: sorted(set(..)) of a list of ints. -/
namespace Ws
open PySem PyProof.Rows PySem.Spec L2
section
variable {P : Program} {w : World} {A : Around} {E : Value → Shared → Prop} {s : Shared}
abbrev newSetO (w : World) : Obj := { cls := .type "set", dict := none, data := .set #[] 0 (.fresh 0 0 (!w.params.followText "set-order")) }
theorem of_wants {Q₁ : Value → Shared → Prop} {R : Result → Shared → Prop} (he : ∀ e s, E e s → R (.error e) s) (hv : ∀ v s, Q₁ v s → R (.ok (.ret v)) s) : ∀ r s, wants Q₁ E r s → R r s := fun r s h => by
  rcases r with e | fl
  · exact he e s h
  · cases fl <;> first | exact hv _ s h | exact False.elim h
/-- set.__init__(S, l): S the empty set just made, l a list of ints that stood before it -/
theorem init_setL {l : Addr} {its : Array Value} {ns : List Int} {h0 : Heap} {R : PySem.Fin → Shared → Prop} {E' : Value → Shared → Prop} (hh : A.handled = none) (hl : h0.IsList l its) (hi : IntsAre its.toList ns) (hb : ns.length + 1 < scanBound) (hs : s.heap = h0.push (newSetO w))
    (h : ∀ (s' : Shared) (c : Nat), s'.gens = s.gens → s'.drawn = s.drawn → s'.os = s.os → SetR w s'.heap h0.objs.size (fun j => decide (j ∈ ns)) c → c ≤ ns.length → (∀ b o, h0.get? b = some o → s'.heap.get? b = some o) → R (.done (.ret .none)) s') :
    wpAny (model P w) A.in1.in1 (Builtin.«set.__init__» ⟨[.ref h0.objs.size, .ref l], []⟩) R E' s := by
  have len : its.size = ns.length := (Array.length_toList (xs := its)).symm.trans hi.length
  obtain ⟨ol, e0, e1, n, e2⟩ := id hl
  have lt : l < h0.objs.size := Heap.lt_size e0
  have new : s.heap.get? h0.objs.size = some (newSetO w) := by rw [hs]; exact Heap.get?_push_size _ rfl
  have keep : ∀ b o, h0.get? b = some o → s.heap.get? b = some o := fun b o e => by rw [hs]; exact Heap.get?_push_of_some _ e
  have hz : s.heap.objs.size = h0.objs.size + 1 := by rw [hs, Heap.size_push]
  have lst : s.heap.IsList l its := ⟨ol, keep l ol e0, e1, n, e2⟩
  have at_l : s.heap.get? l = some { cls := .type "list", dict := ol.dict, data := .seq its n, slots := ol.slots } := by
    rw [keep l ol e0, ← e1, ← e2]
  have k1 := F.sub_list_set
  have k2 := F.sub_list_frozenset
  have k3 : (Value.type "list" == Value.type "dict") = false := by decide
  clear e0 e1 e2
  obtain ⟨hp, g, d, tk, os⟩ := s
  dsimp only at *
  unfold Builtin.«set.__init__» Builtin.Frozenset.updateFrom noKeywords
  generalize toIter : pyIter = it
  wp_walk
  subst toIter
  refine wpAny_pyIter_list lst (wpAny_bind (wpAny_runValue ?_))
  have past : ∀ {b : Addr}, b < h0.objs.size → b ≠ hp.objs.size := fun lb => Nat.ne_of_lt (hz ▸ Nat.lt_succ_of_lt lb)
  have item : ∀ (i : Nat) (v : Value), its[i]? = some v → ∃ k t, ns[i]? = some k ∧ v = .int k t := fun i v hv => by
    have small : i < ns.length := len ▸ (Array.getElem?_eq_some_iff.mp hv).1
    obtain ⟨t, e⟩ := hi.int_at i v (by simpa using hv)
    exact ⟨ns.getD i 0, t, by simp [List.getD_eq_getElem?_getD, List.getElem?_eq_getElem small], e⟩
  refine set_update_ints ((Walks.list (by simpa using hh) hp.objs.size l (past lt) its).toS) h0.objs.size ?_ ns len hb item its.size 0 _ rfl (Nat.zero_le _) ⟨⟨_, Heap.get?_push_size _ rfl, rfl, rfl⟩, lst.push _⟩ ⟨0, Nat.le_refl 0, setR_new_at (Heap.get?_push_of_some _ new)⟩ fun s' c mv hc r => ?_
  · simp only [List.mem_cons, List.not_mem_nil, or_false, not_or]
    exact ⟨Nat.ne_of_lt (hz ▸ Nat.lt_succ_self _), Nat.ne_of_gt lt⟩
  · refine wpAny_pure (wpAny_pure (h s' c mv.gens mv.drawn mv.os r (len ▸ hc) fun b o e => ?_))
    have lb := Heap.lt_size e
    exact mv.heap b o (by simp only [List.mem_cons, List.not_mem_nil, or_false, not_or]; exact ⟨Nat.ne_of_lt lb, past lb⟩) (Heap.get?_push_of_some _ (keep b o e))
/-- set(l), l a list of ints -/
theorem call_setL {l : Addr} {items : Array Value} (ns : List Int) {Q : Value → Shared → Prop} (hh : A.handled = none) (hl : s.heap.IsList l items) (hit : IntsAre items.toList ns) (hb : ns.length + 1 < scanBound)
    (h : ∀ (h' : Heap) (tk c : Nat), SetR w h' s.heap.objs.size (fun j => decide (j ∈ ns)) c → c ≤ ns.length → (∀ b o, s.heap.get? b = some o → h'.get? b = some o) → Q (.ref s.heap.objs.size) { s with heap := h', toks := tk }) : wpAny (model P w) A (call (.type "set") [.ref l]) Q E s := by
  obtain ⟨top, rest, order⟩ := F.called_set.mro
  have byNew := F.called_set.made
  have isSelf := F.called_set.sub
  have noMeta := F.called_set.notType
  have may := F.called_set.canCreate
  have one := F.typeCall_set_1 (.ref l)
  refine wpAny_call (codeAny_of_tree (show wpAny _ _ (callAny (.type "set") _) _ _ _ from wpAny_pure ⟨Code.quiet_builtin _ (by decide +kernel), codeAny_builtin F.entry_type_call ?_⟩))
  rw [Around.under_plain (weight_type_call_type "set" _ []) rfl]
  repeat (any_goals (first | assumption | wp_step))
  refine codeAny_mono (code_set_led1 _ (E := E) (Q₁ := fun v s1 => v = .ref s.heap.objs.size ∧ s1 = { s with heap := s.heap.push (newSetO w) }) ⟨rfl, rfl⟩) (of_wants (fun _ _ z => z) ?_)
  rintro _ _ ⟨rfl, rfl⟩
  have isSet : Shared.TypeIs { s with heap := s.heap.push (newSetO w) } (.ref s.heap.objs.size) "set" := ⟨_, Heap.get?_push_size _ rfl, rfl⟩
  have find := F.called_set.init.lookup
  have bound := F.called_set.init.bind (.ref s.heap.objs.size)
  repeat (any_goals (first | assumption | wp_step))
  refine codeAny_mono (codeAny_call_builtin (R := wants (fun v s₂ => v = .none ∧ Q (.ref s.heap.objs.size) s₂) E) F.called_set.init.plain F.entry_set_init (check_set_init_1 isSet (init_setL hh hl hit hb rfl fun s' c e1 e2 e3 r hc k => ⟨rfl, ?_⟩))) (of_wants (fun _ _ z => z) ?_)
  · have e : s' = { s with heap := s'.heap, toks := s'.toks } := by
      cases s'; cases s; cases e1; cases e2; cases e3; rfl
    rw [e]
    exact h _ _ c r hc k
  · rintro _ s₂ ⟨rfl, q⟩
    repeat (any_goals (first | assumption | wp_step))
end
section
variable {X : Cx} {T : TabL} {G : GE} {μ : Mu} {pos p p2 pos2 : Pos} {e : Expr} {Q : D → Mu → Prop}
def rSetL (w : World) : List V → Hp → VK → Prop := fun vs H Q => ∃ (a : Addr) (ns : List Int), vs = [.ref a] ∧ H a = some (.lst (ns.map V.int)) ∧ ns.length + 1 < scanBound ∧ ∀ p c, H p = none → c ≤ ns.length → Q (.ref p) (upd H p (SetO w p (fun j => decide (j ∈ ns)) c))
theorem cr_setL (hc : X.calm = true) : CallR X (.type "set") (rSetL X.w) := by
  intro pins s σ H vs us Q I r h
  obtain ⟨a, ns, rfl, ha, hb, q⟩ := h
  obtain ⟨its, rv, hl, _⟩ := I.list (.of ha)
  rw [Vals.ref1 r]
  refine call_setL ns (I.ok.hd hc) hl.isList (by simpa using ints_of_vals rv) hb fun h' tk c R hc' hk => ?_
  exact ⟨.ref _, _, I.laid (t' := tk) (fun b u e => hk b u e) (Nat.le_refl _) (setO_new R), rfl, q _ c (I.hok.fresh (Nat.le_refl _)) hc'⟩
/-- sorted(set(e)) -/
theorem we_sortedSet {x y : Str} (hx : x = "sorted") (hy : y = "set") (hm : X.mg "sorted" = none) (hm2 : X.mg "set" = none) (hc : X.calm = true) (h : WE X T G μ e fun d μ1 => ∃ ns : List Int, SqLi μ1 d (ns.map .int) ∧ ns.length < 64 ∧ ∀ ys : List Int, ys.Pairwise (· < ·) → (∀ k, k ∈ ys ↔ k ∈ ns) → Q (.lst (ys.map .int)) μ1)
    (hg : Gl X "sorted" := by rfl) (hg2 : Gl X "set" := by rfl) (he : starEach [e] X.env = (false, eval e X.env) :: starEach [] X.env := by rfl)
    (he2 : starEach [.Call (.Name y p2) [e] [] pos2] X.env = (false, eval (.Call (.Name y p2) [e] [] pos2) X.env) :: starEach [] X.env := by rfl) : WE X T G μ (.Call (.Name x p) [.Call (.Name y p2) [e] [] pos2] [] pos) Q := by
  subst hx hy
  refine WE.of (pe_callB (cr_sortedSet hc) hg hm (by decide +kernel) (pa_cons (pe_callTy (cr_setL hc) hg2 hm2 (by decide +kernel) (paW [e]) (by decide) (by decide) he (by rfl)) pa_nil he2) (by decide) (by decide) he2 (by rfl)) fun F R H σ hs hv => ?_
  have ha : WA X T G μ [e] fun ds μ1 => ∃ d, ds = [d] ∧ ∃ ns : List Int, SqLi μ1 d (ns.map .int) ∧ ns.length < 64 ∧ ∀ ys : List Int, ys.Pairwise (· < ·) → (∀ k, k ∈ ys ↔ k ∈ ns) → Q (.lst (ys.map .int)) μ1 := wa_one (h.mono fun d μ1 q => ⟨d, rfl, q⟩) he
  refine wA_mono (ha F R H σ hs hv) fun vs H1 ⟨F1, ds, μ1, hs1, s1, r, d, ed, ns, sq, h64, q⟩ => ?_
  subst ed
  cases r with
  | cons r t =>
    cases t
    obtain ⟨l, ws, rfl, hq, rr⟩ := sq.at hs1 r
    have := rr.ints; subst this
    refine ⟨l, ns, rfl, hq, by unfold scanBound; omega, fun p c n hc' => ?_⟩
    refine ⟨p, _, c, rfl, upd_same, by omega, fun ys l' hp hm _ n' => ?_⟩
    have hs2 := hs1.more (same_upd (o := SetO X.w p (fun j => decide (j ∈ ns)) c) n)
    exact (fin_lst hs2 n' (Reps.ofInts _) (q ys hp fun k => (hm k).trans (by simp))).back s1
end
end Ws
/-! WS, part M: a list against []. -/
namespace Ws
open PySem PyProof.Rows PySem.Spec L2
section
variable {X : Cx} {T : TabL} {G : GE} {μ : Mu} {pos : Pos} {a b : Expr} {Q : D → Mu → Prop} {P : Bool → Mu → Prop}
def rNil (K : PySem.W.Frag) (neg : Bool) : R2 := fun x y H Q => ∃ a b xs, x = .ref a ∧ y = .ref b ∧ SqL K H a xs ∧ SqL K H b [] ∧ Q (.bl (if neg then !xs.isEmpty else xs.isEmpty)) H
theorem op_eqNil (hu : X.A.units < cLine) : OpR X (compareOp .Eq) (rNil X.K false) := by
  intro pins s σ H x y v u Q I rx ry h
  obtain ⟨l, b, xs, rfl, rfl, ha, hb, q⟩ := h
  cases rx; cases ry
  obtain ⟨its, r1, h1, _⟩ := I.list ha
  obtain ⟨its2, r2, h2, _⟩ := I.list hb
  cases r2
  have hl := r1.length
  by_cases hx : its = []
  · subst hx
    have : xs = [] := by cases r1; rfl
    subst this
    exact SeqAt.eq_listAt h1.isList h2.isList rfl hu (e := fun _ => true) (fun j h => by simp at h) ⟨.bl true, H, I, rfl, q⟩
  · have hne : xs.isEmpty = false := by cases r1 with | nil => exact absurd rfl hx | cons _ _ => rfl
    rw [hne] at q
    exact SeqAt.eq_list_lengthsAt h1.isList h2.isList (by cases its with | nil => exact absurd rfl hx | cons _ _ => rfl) hu ⟨.bl false, H, I, rfl, q⟩
theorem op_neNil (hu : X.A.units < cLine) : OpR X (compareOp .NotEq) (rNil X.K true) := by
  intro pins s σ H x y v u Q I rx ry h
  obtain ⟨l, b, xs, rfl, rfl, ha, hb, q⟩ := h
  cases rx; cases ry
  obtain ⟨its, r1, h1, _⟩ := I.list ha
  obtain ⟨its2, r2, h2, _⟩ := I.list hb
  cases r2
  by_cases hx : its = []
  · subst hx
    have : xs = [] := by cases r1; rfl
    subst this
    exact (SeqAt.RcNeAt.lists h1.isList h2.isList rfl hu (e := fun _ => true) (fun j h => by simp at h)) _ _ _ _ ⟨.bl false, H, I, rfl, q⟩
  · have hne : xs.isEmpty = false := by cases r1 with | nil => exact absurd rfl hx | cons _ _ => rfl
    rw [hne] at q
    exact (SeqAt.RcNeAt.lists_lengths h1.isList h2.isList (by cases its with | nil => exact absurd rfl hx | cons _ _ => rfl) hu) _ _ _ _ ⟨.bl true, H, I, rfl, q⟩
theorem rNil_mono {K : PySem.W.Frag} {n : Bool} : ∀ (x y : V) (H : Hp) (Q Q' : VK), (∀ z H', Q z H' → Q' z H') → rNil K n x y H Q → rNil K n x y H Q' := fun _ _ _ _ _ m ⟨a, b, xs, e1, e2, h1, h2, q⟩ => ⟨a, b, xs, e1, e2, h1, h2, m _ _ q⟩
/-- xs == [] -/
theorem we_eqNil (hu : X.A.units + 1 < cLine) {p2 : Pos} (h : WE X T G μ a fun d1 μ1 => ∃ ds, SqLi μ1 d1 ds ∧ Q (.bl ds.isEmpty) μ1) : WE X T G μ (.Compare a [.Eq] [.List [] p2] pos) Q :=
  we_cmp (op_eqNil (by omega)) (nomark _) (h.mono fun d1 μ1 ⟨ds, sq, q⟩ => we_lst (wa_nil ⟨Nat.zero_le _, fun F0 F R H v w s hs r1 r2 => by
    obtain ⟨l, vs, rfl, hq, rr⟩ := sq.at hs r1
    obtain ⟨l', vs', rfl, hq', rr'⟩ := SqLi.at (μ := μ1) (.lst) hs r2
    cases rr'
    have e : vs.isEmpty = ds.isEmpty := by cases rr <;> rfl
    refine ⟨l, l', vs, rfl, rfl, .of hq, .of hq', ?_⟩
    rw [if_neg (by simp), e]
    exact (fin_now hs (.bl _) q).back s⟩))
theorem wt_eqNil (hu : X.A.units + 1 < cLine) {p2 : Pos} (h : WE X T G μ a fun d1 μ1 => ∃ ds, SqLi μ1 d1 ds ∧ P ds.isEmpty μ1) : WT X T G μ (.Compare a [.Eq] [.List [] p2] pos) P :=
  wt_cmp (op_eqNil (by omega)) (nomark _) rNil_mono (h.mono fun d1 μ1 ⟨ds, sq, q⟩ => we_lst (wa_nil ⟨Nat.zero_le _, fun F0 F R H v w s hs r1 r2 => by
    obtain ⟨l, vs, rfl, hq, rr⟩ := sq.at hs r1
    obtain ⟨l', vs', rfl, hq', rr'⟩ := SqLi.at (μ := μ1) (.lst) hs r2
    cases rr'
    have e : vs.isEmpty = ds.isEmpty := by cases rr <;> rfl
    refine ⟨l, l', vs, rfl, rfl, .of hq, .of hq', ?_⟩
    rw [if_neg (by simp), e]
    exact (fin_now (Q := fun d μ => ∃ k, d = D.bl k ∧ P k μ) hs (.bl _) ⟨_, rfl, q⟩).back s⟩))
theorem wt_neNil (hu : X.A.units + 1 < cLine) {p2 : Pos} (h : WE X T G μ a fun d1 μ1 => ∃ ds, SqLi μ1 d1 ds ∧ P (!ds.isEmpty) μ1) : WT X T G μ (.Compare a [.NotEq] [.List [] p2] pos) P :=
  wt_cmp (op_neNil (by omega)) (nomark _) rNil_mono (h.mono fun d1 μ1 ⟨ds, sq, q⟩ => we_lst (wa_nil ⟨Nat.zero_le _, fun F0 F R H v w s hs r1 r2 => by
    obtain ⟨l, vs, rfl, hq, rr⟩ := sq.at hs r1
    obtain ⟨l', vs', rfl, hq', rr'⟩ := SqLi.at (μ := μ1) (.lst) hs r2
    cases rr'
    have e : vs.isEmpty = ds.isEmpty := by cases rr <;> rfl
    refine ⟨l, l', vs, rfl, rfl, .of hq, .of hq', ?_⟩
    rw [if_pos rfl, e]
    exact (fin_now (Q := fun d μ => ∃ k, d = D.bl k ∧ P k μ) hs (.bl _) ⟨_, rfl, q⟩).back s⟩))
end
end Ws
/-! WS, part N: a, *rest = xs; dict comprehensions. -/
namespace Ws
open PySem PyProof.Rows PySem.Spec L2
section
variable {prog : Program} {w : World} {A : Around} {E : Value → Shared → Prop} {s : Shared}
/-- a, *rest = src: what the iterator gives is told by the four steps that ask it -/
theorem star2 {src it : Addr} {s1 : Shared} {x : Value} {xs : List Value} {Q : List Value → Shared → Prop} (few : xs.length ≤ sizeLine)
    (can : ∀ {Q' : Bool → Shared → Prop}, Q' false s → wpAny (model prog w) A (notIterableAtAll (.ref src)) Q' E s)
    (begin_ : ∀ {Q' : Value → Shared → Prop}, Q' (.ref it) s1 → wpAny (model prog w) A (pyIter (.ref src)) Q' E s)
    (first : ∀ {Q' : List Value → Shared → Prop}, (∀ s2, (∀ {Q2 : List Value → Shared → Prop}, (∀ (h' : Heap) (tk : Nat), (∀ b o, s.heap.get? b = some o → h'.get? b = some o) → Q2 xs { s with heap := h', toks := tk }) → wpAny (model prog w) A (collect (.ref it)) Q2 E s2) → Q' [x] s2) → wpAny (model prog w) A (draw (.ref it) 1) Q' E s1)
    (h : ∀ (h' : Heap) (tk : Nat), (∀ b o, s.heap.get? b = some o → h'.get? b = some o) → Q [x, .ref h'.objs.size] { s with heap := h'.push { cls := .type "list", data := .seq xs.toArray }, toks := tk }) : wpAny (model prog w) A (unpackItems (.ref src) 2 (some 1)) Q E s := by
  unfold unpackItems
  refine wpAny_bind (can ?_)
  rw [if_neg Bool.noConfusion]
  refine wpAny_bind (wpAny_holding (begin_ (wpAny_bind (wpAny_holding (first fun s2 others => ?_)))))
  show wpAny _ _ (if [x].length < 1 then _ else _) _ _ _
  rw [if_neg (by simp)]
  refine wpAny_bind (wpAny_holding (others fun h' tk keep => ?_))
  show wpAny _ _ (if xs.length < 0 then _ else newList (xs.take xs.length) >>= fun d => pure ([x] ++ [d] ++ xs.drop xs.length)) _ _ _
  rw [if_neg (Nat.not_lt_zero _), List.take_length, List.drop_length]
  exact wpAny_bind (wpAny_newList (wpAny_pure (h h' tk keep)) few)
theorem past_it {it : Addr} {o1 : Obj} {h1 h2 : Heap} (e : it = s.heap.objs.size) (a : Heap.SameBut it (s.heap.push o1) h1) (k : ∀ b o, b ≠ it → h1.get? b = some o → h2.get? b = some o) : ∀ b o, s.heap.get? b = some o → h2.get? b = some o := fun b o q => by
  have ne : b ≠ it := by rw [e]; exact Nat.ne_of_lt (Heap.lt_size q)
  exact k b o ne (a.extBut b o ne (Heap.get?_push_of_some _ q))
theorem star2_list {l : Addr} {items : Array Value} {x : Value} {xs : List Value} {Q : List Value → Shared → Prop} (hl : s.heap.IsList l items) (hh : A.handled = none) (hx : items.toList = x :: xs) (hz : items.size ≤ sizeLine)
    (h : ∀ (h' : Heap) (tk : Nat), (∀ b o, s.heap.get? b = some o → h'.get? b = some o) → Q [x, .ref h'.objs.size] { s with heap := h'.push { cls := .type "list", data := .seq xs.toArray }, toks := tk }) : wpAny (model prog w) A (unpackItems (.ref l) 2 (some 1)) Q E s := by
  obtain ⟨o, ho, _⟩ := id hl
  have ne : l ≠ s.heap.objs.size := Nat.ne_of_lt (Heap.lt_size ho)
  have size : items.size = xs.length + 1 := by rw [← Array.length_toList, hx]; rfl
  refine star2 (it := s.heap.objs.size) (by omega) (fun q => wpAny_bind (wpAny_specialOf hl.typeIs slot_list_iter.lookup (wpAny_pure q))) (fun q => wpAny_pyIter_list hl q) (fun k => ?_) h
  refine PySem.W.kun_draw ne 1 0 _ _ ⟨_, Heap.get?_push_size _ rfl, rfl, rfl⟩ (hl.push _) (by omega) fun h1 it1 same => ?_
  have l1 : h1.IsList l items := (hl.push _).extBut same.extBut ne
  obtain ⟨_, there, _⟩ := id it1
  obtain ⟨_, there', _⟩ := id l1
  rw [List.drop_zero, hx]
  refine k _ fun k2 => PySem.W.kun_collect (s := { s with heap := h1 }) (k := 1) (.inr (.inr (.inl rfl))) (Walks.list (A := A.in1) hh s.heap.objs.size l ne items) (fun j u st => st.1.typeIs) (by omega) ⟨it1, l1⟩ (Heap.lt_size there) (Heap.lt_size there') (fun h2 tk keep => ?_) hz
  rw [hx]
  exact k2 h2 tk (past_it rfl same keep)
theorem star2_tup {l : Addr} {items : Array Value} {x : Value} {xs : List Value} {Q : List Value → Shared → Prop} (hl : IsTup s.heap l items) (hh : A.handled = none) (hx : items.toList = x :: xs) (hz : items.size ≤ sizeLine)
    (h : ∀ (h' : Heap) (tk : Nat), (∀ b o, s.heap.get? b = some o → h'.get? b = some o) → Q [x, .ref h'.objs.size] { s with heap := h'.push { cls := .type "list", data := .seq xs.toArray }, toks := tk }) : wpAny (model prog w) A (unpackItems (.ref l) 2 (some 1)) Q E s := by
  obtain ⟨o, ho, _⟩ := id hl
  have ne : l ≠ s.heap.objs.size := Nat.ne_of_lt (Heap.lt_size ho)
  have size : items.size = xs.length + 1 := by rw [← Array.length_toList, hx]; rfl
  refine star2 (it := s.heap.objs.size) (by omega) (fun q => wpAny_bind (wpAny_specialOf hl.typeIs slot_tuple_iter.lookup (wpAny_pure q))) (fun q => iter_tuple hl q) (fun k => ?_) h
  refine draw_tuple ne 1 0 _ _ ⟨_, Heap.get?_push_size _ rfl, rfl, rfl⟩ (hl.push _) (by omega) fun h1 it1 same => ?_
  have l1 : IsTup h1 l items := (hl.push _).extBut same.extBut ne
  obtain ⟨_, there, _⟩ := id it1
  obtain ⟨_, there', _⟩ := id l1
  rw [List.drop_zero, hx]
  refine k _ fun k2 => PySem.W.kun_collect (s := { s with heap := h1 }) (k := 1) (.inr (.inr (.inr rfl))) (Walks.tuple (A := A.in1) hh s.heap.objs.size l ne items) (fun j u st => st.1.typeIs) (by omega) ⟨it1, l1⟩ (Heap.lt_size there) (Heap.lt_size there') (fun h2 tk keep => ?_) hz
  rw [hx]
  exact k2 h2 tk (past_it rfl same keep)
end
section
variable {X : Cx} {T : TabL} {G : GE} {μ : Mu} {pos : Pos} {es es' : List Expr} {ks : List Nat} {Q : GE → Mu → Prop}
/-- a, *rest = a list or tuple -/
theorem wg_star2 {k : Nat} {d : D} {t1 t2 : Expr} {sp : Pos} (hc : X.calm = true) (h : ∃ x xs, FSq d (x :: xs) ∧ WGs X T G μ [t1, t2] ks [x, .lst xs] Q) (hn : (assignEach [t1, .Starred t2 sp] X.env).length = 2 := by rfl) (hst : (assignEach [t1, .Starred t2 sp] X.env).findIdx? (·.1) = some 1 := by rfl) (hes : (assignEach [t1, .Starred t2 sp] X.env).map (·.2) = (assignEach [t1, t2] X.env).map (·.2) := by rfl) : WG X T G μ (.Tuple [t1, .Starred t2 sp] k pos) ks d Q := by
  intro F R H σ v hs he r; refine ⟨fun pins s u I ru => ?_⟩
  obtain ⟨x, xs, fs, h⟩ := h
  have fin : ∀ {a : Addr} {vs : List V} {its : List Value}, Reps X.K F (x :: xs) vs → Vals vs its → (∀ {Q2 : List Value → Shared → Prop} (y : Value) (ys : List Value), its = y :: ys → (∀ (h' : Heap) (tk : Nat), (∀ b o, s.heap.get? b = some o → h'.get? b = some o) → Q2 [y, .ref h'.objs.size] { s with heap := h'.push { cls := .type "list", data := .seq ys.toArray }, toks := tk }) →
      wpAny (model X.prog X.w) X.A (unpackItems (.ref a) 2 (some 1)) Q2 X.xe s) → vs.length ≤ sizeLine → wpAny (model X.prog X.w) X.A (assign (.Tuple [t1, .Starred t2 sp] k pos) X.env (.ref a)) (fun _ s' => ∃ σ' H', Inv X pins σ' H' s' ∧ (SameOff ks σ σ' ∧ FinS X.K T F R Q σ' H')) X.xe s := by
    intro a vs its rr rv hun hz
    cases rr with
    | @cons _ v1 _ vs' r1 rr' =>
      cases rv with
      | @cons _ u1 _ us' q1 q2 =>
        rw [assign_Tuple]
        refine wpAny_bind (wpAny_standAt ?_)
        unfold unpack
        rw [hn, hst]
        refine wpAny_bind (wpAny_holding (hun u1 us' rfl fun h' tk hk => ?_))
        rw [hes]
        have I0 : Inv X pins σ H { s with heap := h', toks := tk } := I.kept hk
        have n1 : H h'.objs.size = none := I0.hok.fresh (Nat.le_refl _)
        have I1 : Inv X pins σ (upd H h'.objs.size (.lst vs')) { s with heap := h'.push { cls := .type "list", data := .seq us'.toArray }, toks := tk } :=
          I0.laid (t' := tk) (a := h'.objs.size) (o := .lst vs') (fun b o e => Heap.get?_push_of_some _ e) (Nat.le_refl _) ⟨by rw [List.length_cons] at hz; omega, us', 0, q2, Heap.get?_push_size _ rfl⟩
        have sm := same_upd (o := HO.lst vs') (hs.noF n1)
        refine thn (h _ R _ σ [v1, .ref h'.objs.size] (hs.new n1) (he.mono sm) (.cons (r1.mono sm) (.cons (.lst upd_same (rr'.mono sm)) .nil)) pins _ [u1, .ref h'.objs.size] I1 (.cons q1 (.cons rfl .nil))) fun _ s' ⟨σ2, H2, J, so2, q2⟩ => ⟨σ2, H2, J, so2, q2.back sm⟩
  cases fs with
  | lst =>
    cases r with
    | lst hq rr =>
      cases ru
      obtain ⟨its, rv, ht, hz⟩ := I.list (.of (hs.lstF hq))
      exact fin rr rv (fun y ys e k => star2_list ht.isList (I.ok.hd hc) (by simpa using e) (by rw [List.size_toArray, ← rv.length]; exact hz) k) hz
  | tup =>
    cases r with
    | tup hq rr =>
      cases ru
      obtain ⟨its, rv, ht, hz⟩ := I.tuple (hs.tupF hq)
      exact fin rr rv (fun y ys e k => star2_tup ht (I.ok.hd hc) (by simpa using e) (by rw [List.size_toArray, ← rv.length]; exact hz) k) hz
end
end Ws
/-! WS, part P: lambdas. -/
namespace Ws
open PySem PyProof.Rows PySem.Spec L2
open LamX (CodeO Tabs TabB ExtN inv_table among_app codeO_ne)
open NdefX (NF NScope CellsAt Caps cells_of slotAt slotAt_of startF ncx inv_startN)

section
variable {X : Cx} {pins : List (Addr × Obj)} {σ : L2.St} {H : Hp} {s : Shared}
theorem lamO_laid {L : LamI} {t' : Nat} {pm ctv : Value} (I : Inv X pins σ H s) :
    Inv X pins σ (upd H s.heap.objs.size (LamO s.heap.objs.size L)) { s with heap := s.heap.push (PySem.W.kla_obj "<lambda>" L.qual L.params L.body L.scope L.cl pm L.c ctv), toks := t' } := by
  refine I.laid (a := s.heap.objs.size) (fun b u e => Heap.get?_push_of_some _ e) (Nat.le_refl _) ?_
  have e : (s.heap.push (PySem.W.kla_obj "<lambda>" L.qual L.params L.body L.scope L.cl pm L.c ctv)).get? s.heap.objs.size = some (PySem.W.kla_obj "<lambda>" L.qual L.params L.body L.scope L.cl pm L.c ctv) := Heap.get?_push_size _ rfl
  exact ⟨⟨_, _, pm, ctv, e⟩, ⟨_, e⟩, fun h1 h2 ⟨od, sl, p, t, z⟩ st => ⟨od, sl, p, t, st _ z⟩⟩
/-- the table at P tells one code object more: the one at c, which no one knew -/
theorem tabs_more {T : TabS} {P c : Addr} {q : Str} {ps : Array Value} (pos : Pos) (hT : Tabs T H) (hu : ∀ p ∈ T, p.1 = P → p.2 = q) (hP : H P = some (.tbl ps)) (nC : H c = none) {H2 : Hp}
    (e2 : H2 = upd (upd H P (.tbl (ps ++ #[rawInt pos.line, rawInt pos.col, .ref c]))) c (CodeO c q)) : ExtN H H2 ∧ Tabs T H2 := by
  have told : ∀ b, H2 b = if b = c then some (CodeO c q) else if b = P then some (.tbl (ps ++ #[rawInt pos.line, rawInt pos.col, .ref c])) else H b := fun b => by rw [e2]; rfl
  have x : ExtN H H2 := fun b o e n => by
    rw [told, if_neg (fun z => by rw [z, nC] at e; cases e), if_neg (fun z => by rw [z, hP] at e; cases e; exact n _ rfl), e]
  refine ⟨x, ?_⟩
  rintro ⟨P', q'⟩ hp
  obtain ⟨qs, h1, h2, h3⟩ := hT _ hp
  have old : ∀ p' v, codeAmong p' qs.toList = some v → ∃ d, v = .ref d ∧ H2 d = some (CodeO d q') := fun p' v e =>
    let ⟨d, a1, a2⟩ := h3 p' v e
    ⟨d, a1, x d _ a2 codeO_ne⟩
  have ne : P' ≠ c := fun z => by rw [z, nC] at h1; cases h1
  by_cases z : P' = P
  · subst z
    have eq : q' = q := hu _ hp rfl
    subst eq
    rw [hP] at h1
    cases h1
    refine ⟨_, (told P').trans ((if_neg ne).trans (if_pos rfl)), ?_, fun p' v e => ?_⟩
    · rw [Array.toList_append]; exact PySem.TriplesOk_snoc _ _ _ _ h2
    · rw [Array.toList_append] at e
      exact (among_app _ h2 e).elim (old p' v) fun z => ⟨c, z, (told c).trans (if_pos rfl)⟩
  · exact ⟨qs, (told P').trans ((if_neg ne).trans ((if_neg z).trans h1)), h2, old⟩
/-- the lambda's object is known from now on -/
theorem lam_known {T : TabS} {H1 : Hp} {L : LamI} {t' : Nat} (pm ctv : Value) (I1 : Inv X pins σ H1 s) (x : ExtN H H1) (t : Tabs T H1) (hc : H1 L.c = some (CodeO L.c L.qual)) :
    ∃ H2, Inv X pins σ H2 { s with heap := s.heap.push (PySem.W.kla_obj "<lambda>" L.qual L.params L.body L.scope L.cl pm L.c ctv), toks := t' } ∧ ExtN H H2 ∧ Tabs T H2 ∧ H2 s.heap.objs.size = some (LamO s.heap.objs.size L) ∧ H2 L.c = some (CodeO L.c L.qual) ∧ s.heap.objs.size ≠ L.c := by
  have n : H1 s.heap.objs.size = none := I1.hok.fresh (Nat.le_refl _)
  have sm := same_upd (o := LamO s.heap.objs.size L) n
  exact ⟨_, lamO_laid I1, fun b o e k => sm b o (x b o e k), t.ext sm, upd_same, sm _ _ hc, fun z => by rw [z, hc] at n; cases n⟩
/-- a lambda's expression: its code object is new, or the table tells it -/
theorem lam_make3 {T : TabS} {c P : Addr} {params : Arguments} {body : Expr} {scope : Scope} {pos : Pos} {E : Value → Shared → Prop} {Q : Value → Shared → Prop} (I : Inv X pins σ H s) (TB : TabB X.base X.mg c P) (hcode : X.env.code = .ref c)
    (hm : (P, X.env.qual ++ "<lambda>") ∈ T) (hu : ∀ p ∈ T, p.1 = P → p.2 = X.env.qual ++ "<lambda>") (hT : Tabs T H) (hdef : defaultsOf params X.env = ([], [])) (hfree : ∀ y ∈ scope.names, y.2 = .free → ∃ c, X.env.cells.lookup y.1 = some c)
    (h : ∀ (f c' : Addr) (H1 : Hp) (s' : Shared), Inv X pins σ H1 s' → ExtN H H1 → Tabs T H1 → H f = none → H1 f = some (LamO f ⟨params, body, scope, cloFrom X.env.cells scope.names [], X.env.qual ++ "<lambda>", c'⟩) → H1 c' = some (CodeO c' (X.env.qual ++ "<lambda>")) → f ≠ c' → Q (.ref f) s') :
    wpAny (model X.prog X.w) X.A (eval (.Lambda params body scope pos) X.env) Q E s := by
  refine PySem.W.kla_eval hdef ?_
  have glob := I.mod.glob.keeps I.bk
  have code := TB.code.keeps I.bk
  have names := TB.bm.keeps I.bk
  obtain ⟨ps, hP, ht, ha⟩ := hT _ hm
  have table := I.hok P _ hP
  match among : codeAmong pos ps.toList with
  | some v =>
    obtain ⟨c', ev, hco⟩ := ha pos v among
    subst ev
    refine PySem.W.kla_makeFunctionHit (closure_ok hfree) I.ok.glob glob hcode code table ht among names fun ctv h' tk hx _ => ?_
    have I1 := I.kept (t' := tk) hx
    obtain ⟨H2, I2, x2, t2, hf, hc, ne⟩ := lam_known (T := T) (L := ⟨params, body, scope, cloFrom X.env.cells scope.names [], X.env.qual ++ "<lambda>", c'⟩) (t' := tk) ((X.mg "__name__").getD .none) ctv I1 (LamX.ExtN.refl H) hT hco
    exact h _ c' H2 _ I2 x2 t2 (I1.hok.fresh (Nat.le_refl _)) hf hc ne
  | none =>
    refine PySem.W.kla_makeFunction (closure_ok hfree) I.ok.glob glob hcode code table ht among TB.gP names fun c' ctv h' tk hx hge hlt rec htb => ?_
    obtain ⟨c2, oc, vs, t, e2, r⟩ := rec
    cases e2
    obtain ⟨x1, t1⟩ := tabs_more pos hT hu hP (I.hok.fresh hge) rfl
    obtain ⟨H2, I2, x2, t2, hf, hc, ne⟩ := lam_known (L := ⟨params, body, scope, cloFrom X.env.cells scope.names [], X.env.qual ++ "<lambda>", c'⟩) (t' := tk) ((X.mg "__name__").getD .none) ctv (inv_table (t' := tk) I hP (fun b o n e => hx b o n e) htb hge ⟨oc, vs, t, r⟩) x1 t1 upd_same
    exact h _ c' H2 _ I2 x2 t2 (I.hok.fresh (Nat.le_of_lt (Nat.lt_of_le_of_lt hge hlt))) hf hc ne
end
theorem lamO_tbl {f : Addr} {L : LamI} (ps : Array Value) : LamO f L ≠ .tbl ps := fun z => by unfold LamO at z; cases z
/-- what the lambda leaves of the data -/
theorem Hs.lam {K : PySem.W.Frag} {T : TabL} {F R H H1 : Hp} {μ : Mu} {f : Addr} {L : LamI} (hs : Hs K T F μ R H) (e : ExtN H H1) (t1 : Tabs T.l H1) (hf : H f = none) (h1 : H1 f = some (LamO f L)) (h2 : H1 L.c = some (CodeO L.c L.qual)) (hne : f ≠ L.c) :
    ∃ F', Hs K T F' μ R H1 ∧ Same F F' ∧ Rep K F' (.lam L) (.ref f) := by
  have hF : ∀ b o, F b = some o → H1 b = some o := fun b o q => e b o (hs.f b o q) (hs.ntF b o q)
  have nFf : F f = none := hs.noF hf
  have nMf : μ f = none := hs.noM hf
  have nRf : R f = none := hs.noR hf
  have nMc : μ L.c = none := by
    cases z : μ L.c with
    | none => rfl
    | some mo =>
      obtain ⟨o, q1, q2⟩ := hs.m _ _ z
      have q3 := e _ _ q1 q2.noTbl
      rw [h2] at q3; cases q3; exact absurd rfl (q2.noCode L.c L.qual)
  have nRc : R L.c = none := by
    cases z : R L.c with
    | none => rfl
    | some o =>
      have q3 := e _ _ (hs.r _ _ z) (hs.ntR _ _ z).1
      rw [h2] at q3; cases q3; exact absurd rfl ((hs.ntR _ _ z).2 L.c L.qual)
  have cF : F L.c = none ∨ F L.c = some (CodeO L.c L.qual) := by
    cases z : F L.c with
    | none => exact .inl rfl
    | some o =>
      have q1 := hF _ _ z
      rw [h2] at q1; cases q1; exact .inr rfl
  have s1 : Same F (upd (upd F L.c (CodeO L.c L.qual)) f (LamO f L)) := fun b o q => by
    have hb : b ≠ f := by rintro rfl; rw [nFf] at q; cases q
    rw [upd_ne hb]
    by_cases hb2 : b = L.c
    · subst hb2
      rcases cF with z | z
      · rw [z] at q; cases q
      · rw [z] at q; cases q; exact upd_same
    · rw [upd_ne hb2]; exact q
  refine ⟨upd (upd F L.c (CodeO L.c L.qual)) f (LamO f L), ⟨fun b o q => ?_, fun b o q => ?_, fun b o q => ?_, fun b => ?_, fun b => ?_, hs.mr, t1, fun b o q => ?_, hs.ntR, hs.lb.trans s1, hs.rb⟩, s1, .lam upd_same ?_⟩
  · by_cases hb : b = f
    · subst hb; rw [upd_same] at q; cases q; exact h1
    · rw [upd_ne hb] at q
      by_cases hb2 : b = L.c
      · subst hb2; rw [upd_same] at q; cases q; exact h2
      · rw [upd_ne hb2] at q; exact hF b o q
  · obtain ⟨z, e1, r⟩ := hs.m b o q
    exact ⟨z, e _ _ e1 r.noTbl, r.mono s1⟩
  · exact e _ _ (hs.r b o q) (hs.ntR b o q).1
  · by_cases hb : b = f
    · subst hb; exact .inr nMf
    · rw [upd_ne hb]
      by_cases hb2 : b = L.c
      · subst hb2; exact .inr nMc
      · rw [upd_ne hb2]; exact hs.fm b
  · by_cases hb : b = f
    · subst hb; exact .inr nRf
    · rw [upd_ne hb]
      by_cases hb2 : b = L.c
      · subst hb2; exact .inr nRc
      · rw [upd_ne hb2]; exact hs.fr b
  · by_cases hb : b = f
    · subst hb; rw [upd_same] at q; cases q; exact lamO_tbl
    · rw [upd_ne hb] at q
      by_cases hb2 : b = L.c
      · subst hb2; rw [upd_same] at q; cases q; exact codeO_ne
      · rw [upd_ne hb2] at q; exact hs.ntF b o q
  · rw [upd_ne (Ne.symm hne), upd_same]
section
variable {X : Cx} {T : TabL} {G : GE} {μ : Mu} {pos p : Pos} {e : Expr} {es : List Expr} {Q : D → Mu → Prop}
theorem we_lambda {c P : Addr} {params : Arguments} {body : Expr} {scope : Scope} (TB : TabB X.base X.mg c P) (hcode : X.env.code = .ref c) (hm : (P, X.env.qual ++ "<lambda>") ∈ T.l) (hu : ∀ p ∈ T.l, p.1 = P → p.2 = X.env.qual ++ "<lambda>")
    (hfree : ∀ y ∈ scope.names, y.2 = .free → X.env.scope.names.lookup y.1 = some .cell ∨ X.env.scope.names.lookup y.1 = some .free)
    (h : ∀ c', Q (.lam ⟨params, body, scope, cloFrom X.env.cells scope.names [], X.env.qual ++ "<lambda>", c'⟩) μ) (hdef : defaultsOf params X.env = ([], []) := by rfl) : WE X T G μ (.Lambda params body scope pos) Q := by
  intro F R H σ hs he; refine ⟨fun pins s I => ?_⟩
  refine lam_make3 I TB hcode hm hu hs.tb hdef (fun y hy e => (hfree y hy e).elim (fun z => I.ok.has _ (.inl z)) fun z => I.ok.has _ (.inr z)) fun f c' H1 s' I1 e1 t1 hf h1 h2 hne => ?_
  obtain ⟨F', hs', sm, r⟩ := hs.lam e1 t1 hf h1 h2 hne
  exact ⟨.ref f, H1, I1, rfl, F', _, μ, hs', sm, r, h c'⟩
/-- the context of the lambda's body -/
abbrev nfOf (L : LamI) : NF := ⟨"<lambda>", L.qual, L.params, [], L.scope, L.cl, L.c⟩
/-- look(e): a local name holds a lambda of one parameter, whose cells belong to the frame that called us -/
theorem we_lamC {i j k : Nat} {x : Str} {L : LamI} {fr ps N : List Str} {caps : List D} (S : NScope N ps fr L.scope) (hG : G[i]? = some (some (.lamC L fr caps X.s_0.heap X.H_0 X.fs))) (hr : Room j X.A) (hk : k + 1 ≤ j)
    (hb : ∀ (pm ctv : Value) (us : List Value), us.length = ps.length → bindArgs (PySem.W.kla_fn "<lambda>" L.qual L.params L.body L.scope L.cl pm (.ref L.c) ctv) ⟨us, []⟩ = pure (ps.zip us)) (hex : X.ex = [] := by rfl)
    (h : WA X T G μ (e :: es) fun ds μ1 => ds.length = ps.length ∧ ∀ (f : Addr) (A : Around) (outer : List Env) (s : Shared) (H : Hp), Room k (A.deeper (NdefX.envF (nfOf L) f s.heap.objs.size)) →
      WE (ncx CX0 X.prog X.w X.K X.mg X.base N (nfOf L) f A outer s H (fun _ _ _ => False)).nox T (ds.map some ++ (caps.map some ++ List.replicate (N.length - ds.length - caps.length) none)) μ1 L.body Q)
    (hN : X.N[i]? = some x := by rfl) (hv : Vis X.env.scope x := by first | exact Or.inl rfl | exact Or.inr (Or.inl rfl) | exact Or.inr (Or.inr rfl))
    (hdb : (x == ("__debug__" : Str)) = false := by decide) (hcd : (x == ("__classdict__" : Str)) = false := by decide)
    (he : starEach (e :: es) X.env = (false, eval e X.env) :: starEach es X.env := by rfl) (hpl : (backTo pos (starEach es X.env)).any (·.1) = false := by rfl) : WE X T G μ (.Call (.Name x p) (e :: es) [] pos) Q := by
  intro F R H σ hs hev; refine ⟨fun pins s I => ?_⟩
  obtain ⟨v, ev, rv⟩ := hev i _ hG
  cases rv with
  | @lamC f _ _ _ ws _ _ _ hnf hf hc hcell rcaps =>
    refine wpAny_Call_Name_kw (thn ((pe_var (pos := p) hN hv hdb hcd).run pins s σ H (fun v H1 => v = .ref f ∧ H1 = H) I ⟨.ref f, ev, rfl, rfl⟩) fun u s1 ⟨v, H1, I1, r1, q1⟩ => ?_)
    obtain ⟨ev1, eH⟩ := q1
    subst ev1
    rw [eH] at I1
    obtain rfl : u = Value.ref f := r1
    obtain ⟨⟨od, sl, pm, ctv, ho⟩, _⟩ := I1.hok f _ (hs.f _ _ hf)
    refine PySem.W.callWith_F (first := []) ⟨_, _, _, _, ho⟩ (thn ((h F R H σ hs hev).run pos pins s1 I1) fun us s2 ⟨vs, H2, I2, r, F2, ds, μ2, hs2, sm2, rr, hlen, q⟩ => ?_) he hpl
    have hf2 := sm2 _ _ hf
    have hc2 := sm2 _ _ hc
    obtain ⟨⟨od2, sl2, pm2, ctv2, ho2⟩, _⟩ := I2.hok f _ (hs2.f _ _ hf2)
    obtain ⟨⟨oc, vsc, t, hoc, hdc, hvc⟩, _, _⟩ := I2.hok L.c _ (hs2.f _ _ hc2)
    refine ⟨⟨_, _, _, _, ho2⟩, ?_⟩
    show wpAny _ _ (call (.ref f) us) _ _ _
    have C2 : CellsAt L.cl fr (ws.map some) s2.heap H2 := by
      exact CellsAt.later hcell hnf (fun y c _ hz => by rw [hex] at hz; cases hz) I2
    have e0 := I2.env0
    have lim : s2.heap.NoLimit := e0.mod.nolimit.keeps fun b o e => (e0.bs b o e).1
    have hlv : vs.length = ps.length := by rw [← rr.length]; exact hlen
    have rc : codeAny (model X.prog X.w) X.A (.call (.ref f) ⟨us, []⟩) (CR CX0 X.stack X.prog X.w H2 s2 (Fin X.K T F R Q) (fun _ _ _ => False)) s2 := by
      refine PySem.W.kla_callFunE (hr.mono hk).depth ho2 rfl S.co S.gen rfl ⟨L.c, oc, vsc, t, rfl, hoc, hdc, hvc⟩ ?_
      rw [hb pm2 ctv2 us (by rw [← r.length]; exact hlv)]
      refine wpAny_pure (wpAny_newFunctionEnv S.nocell (fun ⟨n, _⟩ hy => S.par n (List.of_mem_zip hy).1) (fun h₁ hns hsb => ⟨lim.fresh _ hsb, ?_⟩) S.kind)
      show codeAny _ _ (.expr L.body (NdefX.envF (nfOf L) f s2.heap.objs.size)) _ _
      have kp : ∀ b o, s2.heap.get? b = some o → h₁.get? b = some o := fun b o e => hsb.extBut b o (Nat.ne_of_lt (Heap.lt_size e)) (Heap.get?_push_of_some _ e)
      have J : Inv (ncx CX0 X.prog X.w X.K X.mg X.base N (nfOf L) f X.A X.stack s2 H2 (fun _ _ _ => False)) [] (startF N vs (ws.map some)) H2 { s2 with heap := h₁, toks := s2.toks + (ps.zip us).length } :=
        inv_startN (F := nfOf L) S (hr.mono hk).hd e0 hlv r C2 hns kp
      have env : EnvR X.K F2 (ds.map some ++ (caps.map some ++ List.replicate (N.length - ds.length - caps.length) none)) (startF N vs (ws.map some)) := by
        unfold startF
        rw [List.length_map, ← rr.length, ← rcaps.length]
        refine fun i d ei => ?_
        by_cases h1 : i < ds.length
        · rw [List.getElem?_append_left (by simpa using h1), List.getElem?_map] at ei
          cases z : ds[i]? with
          | none => rw [z] at ei; cases ei
          | some d' =>
            rw [z] at ei
            cases (Option.some.inj (Option.some.inj ei) : d' = d)
            obtain ⟨v, e1, e2⟩ := rr.get z
            exact ⟨v, by rw [List.getElem?_append_left (by rw [List.length_map, ← rr.length]; exact h1), List.getElem?_map, e1]; rfl, e2⟩
        · rw [List.getElem?_append_right (by simpa using h1), List.length_map] at ei
          rw [List.getElem?_append_right (by rw [List.length_map, ← rr.length]; omega), List.length_map, ← rr.length]
          by_cases h2 : i - ds.length < caps.length
          · rw [List.getElem?_append_left (by simpa using h2), List.getElem?_map] at ei
            cases z : caps[i - ds.length]? with
            | none => rw [z] at ei; cases ei
            | some d' =>
              rw [z] at ei
              cases (Option.some.inj (Option.some.inj ei) : d' = d)
              obtain ⟨v, e1, e2⟩ := (rcaps.mono sm2).get z
              exact ⟨v, by rw [List.getElem?_append_left (by rw [List.length_map, ← rcaps.length]; exact h2), List.getElem?_map, e1]; rfl, e2⟩
          · rw [List.getElem?_append_right (by simpa using h2), List.getElem?_replicate] at ei
            split at ei <;> cases ei
      have q2 := q f X.A X.stack s2 H2 ((hr.mono hk).deeper _) F2 R H2 _ hs2 env
      refine PySem.W.kla_codeExpr (wpAny_mono (q2.run [] _ (J.wish _)) (fun v s' hq => ?_) fun e s' z => False.elim z)
      obtain ⟨w', H', J', rv, q⟩ := hq
      have J' := J'.unwish
      exact ⟨w', H', J'.os, J'.bare, J'.base, J'.hok, rv, q.back sm2⟩
    refine wpAny_call (codeAny_mono rc fun r s' hq => ?_)
    cases r with
    | error e => exact pass0 (X := X) pins σ H2 s2 e s' I2 hq
    | ok fl =>
      cases fl with
      | ret u => exact I2.after hq
      | next => exact False.elim hq
      | brk => exact False.elim hq
      | cont => exact False.elim hq
theorem caps_vals {K : PySem.W.Frag} {F : Hp} {σ : L2.St} : ∀ {js : List Nat} {caps : List D}, js.map (fun j => G[j]?) = caps.map (fun d => some (some d)) → EnvR K F G σ → ∃ ws : List V, js.map (slotAt σ) = ws.map some ∧ Reps K F caps ws
  | [], [], _, _ => ⟨[], rfl, .nil⟩
  | [], _ :: _, h, _ => by cases h
  | _ :: _, [], h, _ => by cases h
  | j :: js, d :: ds, h, he => by
    rw [List.map_cons, List.map_cons] at h
    obtain ⟨h1, h2⟩ := List.cons.inj h
    obtain ⟨ws, e1, e2⟩ := caps_vals h2 he
    obtain ⟨v, e3, e4⟩ := he j d h1
    exact ⟨v :: ws, by rw [List.map_cons, List.map_cons, e1, slotAt_of e3], .cons e4 e2⟩
/-- f(.., look, ..): a def of the module called, its body walked from the very state; the argument at place i is a lambda of this frame -/
theorem we_callS {x : Str} {params : Arguments} {body : List Stmt} {scope : Scope} {f : Addr} {fd : FuncData} {N ps fr : List Str} {k j i : Nat} {js : List Nat} {L : LamI} {caps : List D} (F : FunD X.K x x params body scope [] [] f fd) (sc : FnScope N ps scope) (hm : X.mg x = some (.ref f))
    (hb : ∀ (kV doc pm : Value) (an : Option Addr) (cdv ct : Value) (us : List Value), us.length = ps.length → bindArgs (PySem.W.fnOf x x params body scope .none kV doc pm an cdv ct) ⟨us, []⟩ = pure (ps.zip us)) (hr : Room j X.A) (hk : k + 1 ≤ j) (hcl : L.cl = cloFrom X.env.cells L.scope.names [])
    (hfree : ∀ y ∈ L.scope.names, y.2 = .free → X.env.scope.names.lookup y.1 = some .cell ∨ X.env.scope.names.lookup y.1 = some .free) (hfr : ∀ y ∈ fr, (y, NameKind.free) ∈ L.scope.names) (hjs : js.map (fun j => X.N[j]?) = fr.map some) (hcaps : js.map (fun j => G[j]?) = caps.map fun d => some (some d)) (hfn : ∀ y, X.fn y = true) (hst : X.stack = X.env :: X.outer) (hloc : X.env.frame = some X.env.locals)
    (h : WA X T G μ (e :: es) fun ds μ1 => ds.length = ps.length ∧ ds[i]? = some (.lam L) ∧ ∀ (cdv : Value) (s : Shared) (H : Hp) (E : XK), Room k (X.A.deeper (envOfC x scope s.heap.objs.size f cdv)) →
      WSs (cxOf CX0 X.prog X.w X.K X.mg X.base N x scope f cdv X.A X.stack s H E).nox T (startG N (ds.set i (.lamC L fr caps s.heap H (frs X.stack)))) μ1 body { nx := fun _ μ' => Q .non μ', rt := Q })
    (hg : Gl X x := by rfl) (hdb : (x == ("__debug__" : Str)) = false := by decide)
    (he : starEach (e :: es) X.env = (false, eval e X.env) :: starEach es X.env := by rfl) (hpl : (backTo pos (starEach es X.env)).any (·.1) = false := by rfl) : WE X T G μ (.Call (.Name x p) (e :: es) [] pos) Q := by
  intro F0 R H σ hs hev; refine ⟨fun pins s I => ?_⟩
  refine wpAny_Call_Name_kw (ld_glob I hg hm ?_ hdb)
  refine PySem.W.callWith_K (h₀ := X.base) I.ok.mod.kin F.kp (thn ((h F0 R H σ hs hev).run pos pins s I) fun us s2 ⟨vs, H2, I2, r, F2, ds, μ2, hs2, sm2, rr, hlen, hlam, q⟩ => ⟨I2.kIn, ?_⟩) he hpl
  show wpAny _ _ (call (.ref f) us) _ _ _
  obtain ⟨oc, od, dV, kV, doc, pm, an, cdv, ct, osl, hfd, lk, hcd, hdv, _⟩ := F.ex
  have edV : dV = .none := by
    rcases hdv with ⟨_, e⟩ | ⟨e, _⟩
    · exact e
    · exact absurd rfl e
  subst edV hfd
  have hlv : vs.length = ps.length := by rw [← rr.length]; exact hlen
  have cps : Caps X L.cl fr js := by rw [hcl]; exact Caps.made I2.ok hfree hfr hjs
  have C2 := cells_of I2 cps
  have capV := caps_vals hcaps (hev.mono sm2)
  obtain ⟨ws, ew, rw_⟩ := capV
  rw [ew] at C2
  obtain ⟨vl, el, rl⟩ := rr.get hlam
  have nf : ∀ y c, L.cl.lookup y = some c → c ∉ frs X.stack := fun y c hy hfs => by
    have hce := cps.sub y c hy
    rw [hst] at hfs
    unfold frs at hfs
    rw [List.filterMap_cons, hloc] at hfs
    rcases List.mem_cons.mp hfs with e | e
    · obtain ⟨v, o, ho, hd⟩ := I2.cell y c hce
      obtain ⟨m, ⟨o', es', ep', ho', hd', _⟩, _⟩ := I2.loc
      rw [← e, ho] at ho'; cases ho'
      rw [hd] at hd'; cases hd'
    · obtain ⟨_, o', ho', _⟩ := I2.ok.funs.mem e
      exact absurd (Heap.lt_size ho') (Nat.not_lt_of_le (I2.ok.cab y c (hfn y) hce))
  have rl2 : Rep X.K F2 (.lamC L fr caps s2.heap H2 (frs X.stack)) vl := by
    cases rl with
    | lam h1 h2 => exact .lamC nf h1 h2 C2 rw_
  have evs : vs.set i vl = vs := by
    have hi : i < vs.length := (List.getElem?_eq_some_iff.mp el).1
    exact List.ext_getElem? fun m => by
      by_cases hm : i = m
      · subst hm; rw [List.getElem?_set_self hi, el]
      · rw [List.getElem?_set_ne hm]
  have rr2 : Reps X.K F2 (ds.set i (.lamC L fr caps s2.heap H2 (frs X.stack))) vs := by
    have := rr.set rl2 i
    rwa [evs] at this
  have rc : codeAny (model X.prog X.w) X.A (.call (.ref f) ⟨us, []⟩) (CR CX0 X.stack X.prog X.w H2 s2 (Fin X.K T F0 R Q) (fun _ _ _ => False)) s2 := by
    refine LamX.run_ofS lk hcd sc (hr.mono hk) I2.env0 (.of_eq (hb kV doc pm an cdv ct us (by rw [← r.length]; exact hlv))) r hlv fun hroom => ⟨_, (pssW body).nox, ?_⟩
    have q2 := q cdv s2 H2 (fun _ _ _ => False) hroom F2 R H2 (L2.start N vs) hs2 (envr_start rr2)
    exact wSs_mono q2 ⟨fun σ' H' ⟨F3, G3, μ3, a, b, c, d⟩ => ⟨F3, .non, μ3, a, sm2.trans b, .non, d⟩, fun v H' z => z.back sm2, fun _ _ ⟨_, _, _, _, _, _, z⟩ => z, fun _ _ ⟨_, _, _, _, _, _, z⟩ => z⟩
  refine wpAny_call (codeAny_mono rc fun r s' hq => ?_)
  cases r with
  | error e => exact pass0 (X := X) pins σ H2 s2 e s' I2 hq
  | ok fl =>
    cases fl with
    | ret u => exact I2.after hq
    | next => exact False.elim hq
    | brk => exact False.elim hq
    | cont => exact False.elim hq
end
end Ws
/-! WS, part Q: a loop over a list that changes elsewhere. -/
namespace Ws
open PySem PyProof.Rows PySem.Spec L2
section
variable {X : Cx} {T : TabL} {G : GE} {μ : Mu} {pos : Pos} {iter tg : Expr} {body : List Stmt} {E : DE}
theorem ws_forM {ks : List Nat} (hc : X.calm = true) (h : WE X T G μ iter fun d μ1 => ∃ l ds, d = .ref l ∧ μ1 l = some (.ml ds) ∧ (ds.length ≤ sizeLine → ∃ I : Nat → GE → Mu → Prop, I 0 G μ1 ∧ (∀ i G' μ', I i G' μ' → μ' l = some (.ml ds)) ∧
      (∀ i d G' μ', ds[i]? = some d → I i G' μ' → WG X T G' μ' tg ks d fun G2 μ2 => WSs X T G2 μ2 body { nx := I (i + 1), ct := I (i + 1), bk := E.nx, rt := E.rt }) ∧ ∀ G' μ', I ds.length G' μ' → E.nx G' μ'))
    (hp : PassesOwn (model X.prog X.w) X.A X.env X.xe := by exact PassesOwn.never) (hs : ∀ x, foldedSetIterable iter X.env x = pure x := by intro _; rfl) : WS X T G μ (.For tg iter body [] pos) E := by
  refine WS.of (ps_for hp hc (pi_seq (peW iter)) (pgW tg) (pssW body) hs) fun F R H σ hs' he => ?_
  refine wE_mono (h F R H σ hs' he) fun v H1 ⟨F1, d, μ1, hs1, s1, r1, l, ds, ed, em, q⟩ => ?_
  subst ed
  cases r1
  obtain ⟨vs1, e1, rr1⟩ := hs1.ml em
  refine ⟨l, rfl, .inl ⟨vs1, .of e1, fun hz => ?_⟩⟩
  obtain ⟨I, i0, hinv, step, done⟩ := q (by rw [rr1.length]; exact hz)
  refine ⟨fun i m σ H => m = ds.length - i ∧ i ≤ ds.length ∧ ∃ F' G' μ', Hs X.K T F' μ' R H ∧ Same F1 F' ∧ EnvR X.K F' G' σ ∧ I i G' μ', ⟨_, rfl, Nat.zero_le _, F1, G, μ1, hs1, Same.refl _, he.mono s1, i0⟩, ?_⟩
  rintro i m σ3 H3 ⟨rfl, hi, F', G', μ', hs3, s3, he3, hI⟩
  obtain ⟨vs, e3, rr⟩ := hs3.ml (hinv i G' μ' hI)
  have hH : SqL X.K H3 l vs := .of e3
  by_cases hlt : i < ds.length
  · have hi' : i < vs.length := by rw [← rr.length]; exact hlt
    refine .inr ⟨⟨vs, vs[i], hH, by simp [hi']⟩, fun σ' H' => ∃ F'' G'' μ'', Hs X.K T F'' μ'' R H' ∧ Same F1 F'' ∧ EnvR X.K F'' G'' σ' ∧ I (i + 1) G'' μ'', fun σ' H' ⟨F'', G'', μ'', a, b, c, d⟩ => ⟨ds.length - (i + 1), by omega, rfl, hlt, F'', G'', μ'', a, b, c, d⟩, fun x H4 y => ?_⟩
    have ed : ds[i]? = some ds[i] := by simp [hlt]
    obtain ⟨ey, ey2⟩ := y
    subst ey
    obtain ⟨v, h1, h2⟩ := rr.get ed
    have := ey2 vs hH
    rw [h1] at this; cases this
    refine wG_mono (step i _ G' μ' ed hI F' R H4 σ3 x hs3 he3 h2) fun σ5 H5 ⟨_, F5, G5, μ5, hs5, s5, he5, q5⟩ => ?_
    have s15 : Same F1 F5 := s3.trans s5
    have sF : Same F F5 := s1.trans s15
    exact wSs_mono (q5 F5 R H5 σ5 hs5 he5) ⟨fun σ' H' ⟨F6, G6, μ6, a, b, c, d⟩ => ⟨F6, G6, μ6, a, s15.trans b, c, d⟩, fun _ _ z => Fin.back sF z, fun _ _ z => FinS.back sF z, fun σ' H' ⟨F6, G6, μ6, a, b, c, d⟩ => ⟨F6, G6, μ6, a, s15.trans b, c, d⟩⟩
  · have e : i = ds.length := by omega
    subst e
    exact .inl ⟨⟨vs, hH, Nat.le_of_eq rr.length.symm⟩, F', G', μ', hs3, s1.trans s3, he3, done G' μ' hI⟩
theorem reps_rg {K : PySem.W.Frag} {F : Hp} (n : Nat) : Reps K F (rngD n) (rgV 0 n) := by
  unfold rngD rgV
  have e : ((n : Int) - 0).toNat = n := by omega
  rw [e]
  generalize List.range n = l
  induction l with
  | nil => exact .nil
  | cons i l ih => rw [List.map_cons, List.map_cons, Int.zero_add]; exact .cons (.int _) ih
/-- list(range(e)) -/
theorem we_listRange {a : Expr} {x y : Str} {p p2 pos2 : Pos} {Q : D → Mu → Prop} (hx : x = "list") (hy : y = "range") (hc : X.calm = true) (hm : X.mg "list" = none) (hm2 : X.mg "range" = none) (h : WE X T G μ a fun d μ1 => ∃ n : Nat, d = .int n ∧ n ≤ 100000 ∧ Q (.lst (rngD n)) μ1) (hg : Gl X "list" := by rfl) (hg2 : Gl X "range" := by rfl)
    (na : starEach [a] X.env = (false, eval a X.env) :: starEach [] X.env := by rfl) (na2 : starEach [.Call (.Name y p2) [a] [] pos2] X.env = (false, eval (.Call (.Name y p2) [a] [] pos2) X.env) :: starEach [] X.env := by rfl) : WE X T G μ (.Call (.Name x p) [.Call (.Name y p2) [a] [] pos2] [] pos) Q := by
  subst hx hy
  refine WE.of (pe_listRg hc hg hm (prg_1 hg2 hm2 (peW a) na) na2) fun F R H σ hs he => wE_mono (h F R H σ hs he) fun v H1 ⟨F1, d, μ1, hs1, s1, r, n, ed, hn, q⟩ => ?_
  subst ed; cases r
  exact ⟨_, rfl, .of_le (by omega) (by omega) (by omega) (by omega), fun l nl => (fin_lst hs1 nl (reps_rg n) q).back s1⟩
theorem we_listRangeM {a : Expr} {x y : Str} {p p2 pos2 : Pos} {Q : D → Mu → Prop} (hx : x = "list") (hy : y = "range") (hc : X.calm = true) (hm : X.mg "list" = none) (hm2 : X.mg "range" = none) (h : WE X T G μ a fun d μ1 => ∃ n : Nat, d = .int n ∧ n ≤ 100000 ∧ ∀ l, μ1 l = none → Q (.ref l) (mset μ1 l (.ml (rngD n)))) (hg : Gl X "list" := by rfl) (hg2 : Gl X "range" := by rfl)
    (na : starEach [a] X.env = (false, eval a X.env) :: starEach [] X.env := by rfl) (na2 : starEach [.Call (.Name y p2) [a] [] pos2] X.env = (false, eval (.Call (.Name y p2) [a] [] pos2) X.env) :: starEach [] X.env := by rfl) : WE X T G μ (.Call (.Name x p) [.Call (.Name y p2) [a] [] pos2] [] pos) Q := by
  subst hx hy
  refine WE.of (pe_listRg hc hg hm (prg_1 hg2 hm2 (peW a) na) na2) fun F R H σ hs he => wE_mono (h F R H σ hs he) fun v H1 ⟨F1, d, μ1, hs1, s1, r, n, ed, hn, q⟩ => ?_
  subst ed; cases r
  exact ⟨_, rfl, .of_le (by omega) (by omega) (by omega) (by omega), fun l nl => (fin_new hs1 nl (.ml (reps_rg n)) (q l (hs1.noM nl))).back s1⟩
end
end Ws
/-! WS, part R: raise, try .. except X as e, isinstance of what was caught. -/
namespace Ws
open PySem PyProof.Rows PySem.Spec L2

/-! ### an own class over ArithmeticError -/
structure ExA (K : PySem.W.Frag) (C : Addr) : Prop where
  cls : ∃ nm q N bs sn sub ab col dd k0 k1 k2 k3 k5, K.lookup C = some (excClassObj nm q C N bs aeMro true sn sub ab col dd k0 k1 k2 k3 k5 "ArithmeticError.__new__")
  raisable : PySem.W.subIn K (.ref C) (.type "BaseException") = some true
  metatype : PySem.W.typeIn K (.ref C) = some (.type "type")
  lasting : PySem.W.keepIn K (.ref C) = true
theorem typ_AE : typeOf (.type "ArithmeticError") = pure (.type "type") := by kernel_rfl
/-- what the own __init__ promises -/
def SpI (K : PySem.W.Frag) (C : Addr) : Sp := fun vs H Q _ => ∃ a, vs = [.ref a] ∧ H a = some (exo a C none) ∧ ExA K C ∧ Q .non H
section
variable {X : Cx} {pins : List (Addr × Obj)} {σ : L2.St} {H : Hp} {s : Shared} {a C : Addr} {A : Around} {E : Value → Shared → Prop}
theorem upd_id {o : HO} (e : H a = some o) : upd H a o = H := funext fun b => by
  by_cases z : b = a
  · subst z; exact upd_same.trans e.symm
  · exact upd_ne z
theorem ainit_ok {us : List Value} {Q : Value → Shared → Prop} (T : ExA X.K C) (I : Inv X pins σ H s) (e : H a = some (exo a C none)) (hl : us.length ≤ sizeLine) (h : ∀ s', Inv X pins σ H s' → Q .none s') :
    wpAny (model X.prog X.w) A (call (.builtin "ArithmeticError.__init__") (.ref a :: us)) Q E s := by
  obtain ⟨_, _, _, _, _, _, _, _, _, _, _, _, _, _, hC⟩ := T.cls
  obtain ⟨_, at_a⟩ := exo_at I.hok e
  obtain ⟨hp, g, d, t, os⟩ := s
  refine wpAny_call (PySem.HandSPX.init_base F.excBase_ArithmeticError (fun Y => rfl) (I.kIn _ _ hC) at_a hl fun h' _ others new => h _ ?_)
  exact upd_id e ▸ I.write (t' := t) (x := a) (e := a) (o := exo a C none) (e ▸ True.intro) (.inl rfl) others ⟨_, new⟩ (exo_ok new)
def tAeI (K : PySem.W.Frag) (ta : TA) : TE := fun σ H Q => ta σ H fun vs H1 => ∃ (a C : Addr) (ws : List V), vs = .ref a :: ws ∧ ws.length ≤ 1000 ∧ ExA K C ∧ H1 a = some (exo a C none) ∧ Q .non H1
theorem pe_aeinit {p1 p2 pos : Pos} {e : Expr} {es : List Expr} {ta : TA} {pl : Sem Bool} (hg : Gl X "ArithmeticError") (hm : X.mg "ArithmeticError" = none) (vV : PySem.W.findCls X.K (.type "ArithmeticError") (.type "type") "__init__" = some (.val (.builtin "ArithmeticError.__init__"))) (ha : PA X (e :: es) ta)
    (hc : eval (.Call (.Attribute (.Name "ArithmeticError" p1) "__init__" p2) (e :: es) [] pos) X.env = (do
      let ov ← eval (.Name "ArithmeticError" p1) X.env; standAt p2.atName
      let (f, first) ← holding [ov] (getMethod ov "__init__" pl); callWith pos f first (backTo pos (starEach (e :: es) X.env)) (backToKw pos (keywordEach [] X.env))) := by rfl)
    (he : starEach (e :: es) X.env = (false, eval e X.env) :: starEach es X.env := by rfl)
    (hpl : (backTo pos (starEach es X.env)).any (·.1) = false := by rfl) : PE X (.Call (.Attribute (.Name "ArithmeticError" p1) "__init__" p2) (e :: es) [] pos) (tAeI X.K ta) := by
  refine ⟨fun pins s σ H Q I h => ?_⟩
  obtain ⟨_, fr⟩ := I.fr
  refine PySem.W.methodCall_KW (ld_blt I hg hm (u := .type "ArithmeticError") (by decide +kernel) (PySem.W.method_type fr I.ok.mod.kin typ_AE (by decide +kernel) vV (by decide +kernel) ?_) (by decide) (by decide)) hc
  show wpAny _ _ (callWith pos (Value.builtin "ArithmeticError.__init__") [] (backTo pos (starEach (e :: es) X.env)) []) _ _ _
  refine PyProof.Rows.callWith_method1 (thn (ha.run pos pins _ σ H _ (I.tok _) h) fun us s1 ⟨vs, H1, I1, paired, a, C, ws, ev, few, T, at_a, q⟩ => ?_) he hpl
  subst ev
  cases paired with
  | cons first more =>
    cases first
    exact ainit_ok T I1 at_a (by have z := Paired.length more; rw [sizeLine_eq]; omega) fun s' J => ⟨.non, H1, J, rfl, q⟩
/-- what is at a is ours and no one names it: the heap without it -/
theorem without {o : HO} {H1 : Hp} {hp hp2 h2 : Heap} {g1 g2 : Array GenState} {d1 d2 : Drawn} {t1 t2 : Nat} {os1 os2 : OsState} (I1 : Inv X pins σ H1 ⟨hp, g1, d1, t1, os1⟩) (own : ∀ x, o ≠ .own x) (tup : ∀ xs, o ≠ .tup xs) (above : hp.objs.size ≤ a)
    (k : ∀ b u, hp.get? b = some u → hp2.get? b = some u) (un : Un (frs X.stack) [] (upd H1 a o) (upd H1 a o) hp2 h2) (hok : HOk X.prog X.w (upd H1 a o) h2) (ho : os2 = os1) (hb : AllBare g2) :
    ∃ G : Heap, (∀ b, b ≠ a → G.get? b = h2.get? b) ∧ G.get? a = none ∧ Inv X pins σ H1 ⟨G, g2, d2, t2, os2⟩ := by
  obtain ⟨G, g1, g2⟩ := restrict h2 (fun b => decide (b ≠ a))
  have same : ∀ {b}, b ≠ a → G.get? b = h2.get? b := fun n => g1 _ (decide_eq_true n)
  have old : ∀ {b u}, hp.get? b = some u → b ≠ a := fun q => Nat.ne_of_lt (Nat.lt_of_lt_of_le (Heap.lt_size q) above)
  have free : H1 a = none := I1.hok.fresh above
  have other : ∀ {c u}, upd H1 a o c = some u → o ≠ u → c ≠ a := fun q n z => n (Option.some.inj (upd_same.symm.trans (z ▸ q)))
  refine ⟨G, fun b => same, g2 a (by simp), I1.call' (ch := []) ho
    ⟨fun b u q n f x => (same (old q)).trans (un.keep b u (k b u q) ((upd_ne (old q)).trans n) f x), fun b u q n f x => ?_, fun _ _ _ n _ => n, fun b u q x => ?_, fun _ _ z => z, fun _ _ _ z => z, fun b ps z => ⟨#[], by rw [z]; simp⟩⟩ (fun b u z => ?_) hb (fun _ z => nomatch z)⟩
  · rw [same (old q)]; exact un.slot b u (k b u q) ((upd_ne (old q)).trans n) f x
  · rw [same (old q)]; exact un.there b u (k b u q) x
  · have ne : b ≠ a := ne_of_none z free
    exact (hok b u ((upd_ne ne).trans z)).stay (fun c v hc y => (same (hc.elim (fun z => z ▸ ne) fun z => other z (own b))).trans y) (fun c hc => (upd_ne (other hc (own b))).symm.trans hc) fun c xs hc => (upd_ne (other hc (tup xs))).symm.trans hc
/-- the end of C(): the exception is let go -/
theorem amk_end {H1 : Hp} {Q : XK} {hp hp2 h2 : Heap} {g1 g2 : Array GenState} {d1 d2 : Drawn} {t1 t2 : Nat} {os1 os2 : OsState} (T : Raises X (.ref C)) (I1 : Inv X pins σ H1 ⟨hp, g1, d1, t1, os1⟩)
    (ha : hp.objs.size ≤ a) (k : ∀ b o, hp.get? b = some o → hp2.get? b = some o) (un : Un (frs X.stack) [] (upd H1 a (exo a C none)) (upd H1 a (exo a C none)) hp2 h2) (hok : HOk X.prog X.w (upd H1 a (exo a C none)) h2) (ho : os2 = os1) (hb : AllBare g2)
    (q : Q (.ref C) none H1) : MkP X pins σ Q (.ref a) ⟨h2, g2, d2, t2, os2⟩ := by
  obtain ⟨t0, at_a⟩ := exo_at hok upd_same
  obtain ⟨G, same, gone, J⟩ := without (d2 := d2) (t2 := t2) I1 (fun _ => exo_own) (fun _ => exo_tup) ha k un hok ho hb
  exact ⟨a, _, _, _, _, .ref C, none, rfl, J, fun b o z => (same b fun e => by rw [e] at z; exact nomatch (show G.get? a = some o from z).symm.trans gone).symm.trans z, gone, at_a, ⟨rfl, rfl⟩, rfl, rfl, I1.hok.fresh ha, rfl, hb, T, q⟩
/-- C(), of an own class over ArithmeticError -/
theorem pmk_aex {x : Str} {fI : Addr} {k : Nat} {fd : FuncData} {ps : List Str} {p pos : Pos} (T : ExA X.K C) (iC : PySem.W.findIn X.K (.ref C) "__init__" = some (some (.ref fI))) (tI : PySem.W.typeIn X.K (.ref fI) = some (.type "function"))
    (F1 : FnOk X.prog X.w X.K X.mg X.base CX0 k fI fd ps (SpI X.K C)) (hr : Room (k + 1) X.A) (hb : Binds X.K fd ps []) (hg : Gl X x) (hm : X.mg x = some (.ref C))
    (hdb : (x == ("__debug__" : Str)) = false := by decide) :
    PMk X (.Call (.Name x p) [] [] pos) (fun _ H Q => Q (.ref C) none H) := by
  intro pins s σ H Q I h
  obtain ⟨nm, q, N, bs, sn, sub, ab, col, dd, k0, k1, k2, k3, k5, hC⟩ := T.cls
  refine wpAny_Call_Name_kw (ld_glob I hg hm ?_ hdb)
  refine PySem.W.callWith_K0 I.kIn T.lasting ?_
  show wpAny _ _ (call (.ref C) []) _ _ _
  obtain ⟨hp, g, dr, tk, os⟩ := s
  have above : hp.objs.size ≤ hp.objs.size + 1 := Nat.le_succ hp.objs.size
  have stays : ∀ b o, hp.get? b = some o → ((hp.push (PySem.W.kdv_tup [])).push (PySem.HandSPX.excO C hp.objs.size)).get? b = some o := fun b o e => Heap.get?_push_of_some _ (Heap.get?_push_of_some _ e)
  have new : ((hp.push (PySem.W.kdv_tup [])).push (PySem.HandSPX.excO C hp.objs.size)).get? (hp.objs.size + 1) = some (PySem.HandSPX.excO C hp.objs.size) := by heap_get
  have I2 := I.laid (t' := tk) (o := exo (hp.objs.size + 1) C none) stays above (exo_ok new)
  have self : Vals [V.ref (hp.objs.size + 1)] [Value.ref (hp.objs.size + 1)] := .cons rfl .nil
  have promise : SpI X.K C [V.ref (hp.objs.size + 1)] (upd H (hp.objs.size + 1) (exo (hp.objs.size + 1) C none)) (fun v H2 => v = .non ∧ H2 = upd H (hp.objs.size + 1) (exo (hp.objs.size + 1) C none)) (fun _ _ _ => False) := ⟨_, rfl, upd_same, T, rfl, rfl⟩
  have bound := hb _ [Value.ref (hp.objs.size + 1)] I2.kIn (by rw [List.append_nil]; exact (self.length.symm.trans (F1.len _ _ _ _ promise)))
  rw [List.append_nil] at bound
  have walked := F1.run _ X.stack _ _ ⟨[Value.ref (hp.objs.size + 1)], []⟩ [Value.ref (hp.objs.size + 1)] _ _ (fun _ _ _ => False) (hr.make C [] []) (I2.env0.make C [] []) bound self promise
  refine wpAny_call (PySem.HandSPX.call_own F.excBase_ArithmeticError (fun Y => rfl) (I.kIn _ _ hC) (PySem.W.looks_findIn I.kIn iC) (fun self => PySem.W.bind_fn I.kIn self tI) (Nat.zero_le _) (codeAny_mono walked fun r s' out => ?_))
  rcases r with _ | fl
  · exact out.elim
  · cases fl with
    | ret u =>
      obtain ⟨v, H2, same_os, bare2, un2, hok2, rv, ev, eH⟩ := out
      subst ev eH
      exact ⟨rv, amk_end (os2 := s'.os) (raises_own T.raisable T.metatype) I above stays un2 hok2 same_os bare2 h⟩
    | _ => exact out.elim
end
end Ws
/-! WS, part S: promises of defs that raise, the raise statement, try .. except X as e. -/
namespace Ws
open PySem PyProof.Rows PySem.Spec L2

section
variable {K : PySem.W.Frag} {T : TabL} {F F' : Hp} {μ : Mu} {R H : Hp}
theorem Hs.low {T' : TabL} (h : Hs K T' F μ R H) (hl : T'.l = T.l) (e : Same T.lb T'.lb) (e2 : Same T.rb T'.rb) : Hs K T F μ R H :=
  ⟨h.f, h.m, h.r, h.fm, h.fr, h.mr, hl ▸ h.tb, h.ntF, h.ntR, e.trans h.lb, e2.trans h.rb⟩
theorem endsD.low {T' : TabL} {E : DE} (hl : T'.l = T.l) (e : Same T.lb T'.lb) (e2 : Same T.rb T'.rb) : EndsLe (endsD K T' F R E) (endsD K T F R E) :=
  ⟨fun _ _ ⟨A, d, m, a, b, c, q⟩ => ⟨A, d, m, a.low hl e e2, b, c, q⟩, fun _ _ ⟨A, d, m, a, b, c, q⟩ => ⟨A, d, m, a.low hl e e2, b, c, q⟩, fun _ _ ⟨A, d, m, a, b, c, q⟩ => ⟨A, d, m, a.low hl e e2, b, c, q⟩, fun _ _ ⟨A, d, m, a, b, c, q⟩ => ⟨A, d, m, a.low hl e e2, b, c, q⟩⟩
end

/-! ### promises -/
abbrev DSpX := List D → Mu → (D → Mu → Prop) → (Mu → Prop) → Prop
def SpDX (K : PySem.W.Frag) (T : TabS) (C : Addr) (S : DSpX) : Sp := fun vs H Q E => ∃ F μ R ds P PE, Hs K (tab0 T) F μ R H ∧ Reps K F ds vs ∧ S ds μ P PE ∧ (∀ v H', Fin K (tab0 T) F R P v H' → Q v H') ∧
  ∀ F' μ' H', Hs K (tab0 T) F' μ' R H' → Same F F' → PE μ' → E (.ref C) none H'
structure DefAtX (P : Program) (w : World) (K : PySem.W.Frag) (mg : Str → Option Value) (base : Heap) (T : TabS) (k : Nat) (x : Str) (C : Addr) (S : DSpX) : Prop where
  ex : ∃ f fd ps, mg x = some (.ref f) ∧ PySem.W.keepIn K (.ref f) = true ∧ Binds K fd ps [] ∧ FnOk P w K mg base (L2.CX P w) k f fd ps (SpDX K T C S)
theorem DefAtX.imp {P : Program} {w : World} {K : PySem.W.Frag} {mg : Str → Option Value} {base : Heap} {T : TabS} {k : Nat} {x : Str} {C : Addr} {S S' : DSpX} (d : DefAtX P w K mg base T k x C S) (h : ∀ ds μ Q PE, S' ds μ Q PE → S ds μ Q PE) : DefAtX P w K mg base T k x C S' :=
  let ⟨f, fd, ps, a, b, c, F⟩ := d.ex
  ⟨f, fd, ps, a, b, c, F.imp fun vs H Q E ⟨F, μ, R, ds, P, PE, h1, h2, h3, h4, h5⟩ => ⟨F, μ, R, ds, P, PE, h1, h2, h _ _ _ _ h3, h4, h5⟩⟩
theorem DefAtX.mono {P : Program} {w : World} {K : PySem.W.Frag} {mg : Str → Option Value} {base : Heap} {T : TabS} {j k : Nat} {x : Str} {C : Addr} {S : DSpX} (d : DefAtX P w K mg base T j x C S) (h : j ≤ k) : DefAtX P w K mg base T k x C S :=
  let ⟨f, fd, ps, a, b, c, F⟩ := d.ex
  ⟨f, fd, ps, a, b, c, F.mono h⟩
/-- where the slots are as G has them and PE is true, an exception of C is taken -/
def TakesD (X : Cx) (T : TabL) (C : Addr) (G : GE) (PE : Mu → Prop) : Prop := ∃ W : WX, Takes X W ∧ ∀ F' μ' H' σ', Hs X.K (tab0 T.l) F' μ' T.rb H' → Same T.lb F' → EnvR X.K F' G σ' → PE μ' → W (.ref C) none σ' H'
theorem fn_okDX {P : Program} {w : World} {K : PySem.W.Frag} {mg : Str → Option Value} {base : Heap} {T : TabS} {x qual : Str} {params : Arguments} {body : List Stmt} {scope : Scope} {dvs : List V} {kws : List (Str × V)} {f : Addr} {fd : FuncData} {N ps : List Str} {k : Nat} {C : Addr} {S : DSpX}
    (F : FunD K x qual params body scope dvs kws f fd) (sc : FnScope N ps scope) (len : ∀ ds μ Q PE, S ds μ Q PE → ds.length = ps.length)
    (hbody : ∀ (cdv : Value) (A : Around) (outer : List Env) (s : Shared) (H : Hp) (E : XK) (ds : List D) (μ : Mu) (Q : D → Mu → Prop) (PE : Mu → Prop) (lb rb : Hp), Room k (A.deeper (envOfC qual scope s.heap.objs.size f cdv)) → S ds μ Q PE →
      (∀ G, TakesD (cxOf (L2.CX P w) P w K mg base N qual scope f cdv A outer s H E) ⟨T, lb, rb⟩ C G PE) →
      WSs (cxOf (L2.CX P w) P w K mg base N qual scope f cdv A outer s H E) ⟨T, lb, rb⟩ (startG N ds) μ body { nx := fun _ μ' => Q .non μ', rt := Q }) : FnOk P w K mg base (L2.CX P w) (k + 1) f fd ps (SpDX K T C S) := by
  refine F.ok sc (fun vs H Q E h => ?_) (fun cdv A outer s H vs Q E hr h => ?_)
  · obtain ⟨F, μ, R, ds, P', PE, h1, h2, h3, _⟩ := h
    rw [← h2.length]; exact len _ _ _ _ h3
  · obtain ⟨F', μ, R, ds, P', PE, h1, h2, h3, h4, h5⟩ := h
    refine ⟨_, pssW body, ?_⟩
    have q := hbody cdv A outer s H E ds μ P' PE F' R hr h3 (fun G => ⟨fun cls d _ H => E cls d H, takes_of rfl rfl rfl rfl, fun F2 μ2 H2 σ2 hs2 s2 _ p2 => h5 F2 μ2 H2 hs2 s2 p2⟩) F' R H (start N vs) (h1.up (T := ⟨T, F', R⟩) (Same.refl _) (Same.refl _)) (envr_start h2)
    exact wSs_mono q ⟨fun σ' H' ⟨F2, G2, μ2, a, b, c, d⟩ => h4 _ _ ⟨F2, .non, μ2, a.base, b, .non, d⟩, fun v H' ⟨F2, d2, μ2, a, b, c, d⟩ => h4 v H' ⟨F2, d2, μ2, a.base, b, c, d⟩, fun _ _ ⟨_, _, _, _, _, _, z⟩ => z, fun _ _ ⟨_, _, _, _, _, _, z⟩ => z⟩

section
variable {X : Cx} {T : TabL} {G : GE} {μ : Mu} {pos p pos' np : Pos} {e : Expr} {es : List Expr} {Q : D → Mu → Prop} {E : DE} {C : Addr}
/-- a call of a def that may raise, in a statement that begins at the slots G -/
theorem we_callX {k j : Nat} {x : Str} {S : DSpX} {PE : Mu → Prop} (d : DefAtX X.prog X.w X.K X.mg X.base T.l k x C S) (hr : Room j X.A) (tk : TakesD X T C G PE) (h : WA X T G μ (e :: es) fun ds μ1 => S ds μ1 Q PE) (hk : k ≤ j := by decide) (hg : Gl X x := by rfl) (hdb : (x == ("__debug__" : Str)) = false := by decide)
    (he : starEach (e :: es) X.env = (false, eval e X.env) :: starEach es X.env := by rfl) (hpl : (backTo pos (starEach es X.env)).any (·.1) = false := by rfl) : WE X T G μ (.Call (.Name x p) (e :: es) [] pos) Q := by
  obtain ⟨f, fd, ps, hm, hkp, hb, F⟩ := d.ex
  obtain ⟨W, tkW, hW⟩ := tk
  refine WE.of (pe_callS (E := fun σ cls dd H => W cls dd σ H) F (hr.mono hk) hg hm hkp hb (passAt tkW) (paW (e :: es)) hdb he hpl) fun F R H σ hs hv => wA_mono (h F R H σ hs hv) fun vs H1 ⟨F1, ds, μ1, hs1, s1, r, q⟩ => ?_
  exact ⟨F1, μ1, R, ds, Q, PE, hs1.base, r, q, fun v H' z => (z.up hs1.lb hs1.rb).back s1, fun F' μ' H' hs' s' p' => hW F' μ' H' σ (hs'.lessR hs1.rb T.l rfl) (hs1.lb.trans s') (hv.mono (s1.trans s')) p'⟩
/-- raise C(), of an own class over ArithmeticError -/
theorem ws_raiseA {x : Str} {fI : Addr} {k j : Nat} {fd : FuncData} {ps : List Str} {PE : Mu → Prop} (hc : X.calm = true) (tk : TakesD X T C G PE) (A : ExA X.K C) (iC : PySem.W.findIn X.K (.ref C) "__init__" = some (some (.ref fI))) (tI : PySem.W.typeIn X.K (.ref fI) = some (.type "function"))
    (F1 : FnOk X.prog X.w X.K X.mg X.base CX0 k fI fd ps (SpI X.K C)) (hr : Room j X.A) (hb : Binds X.K fd ps []) (hm : X.mg x = some (.ref C)) (hp : PE μ) (hk : k + 1 ≤ j := by decide) (hg : Gl X x := by rfl)
    (hdb : (x == ("__debug__" : Str)) = false := by decide) : WS X T G μ (.Raise (some (.Call (.Name x p) [] [] pos)) none pos') E := by
  obtain ⟨W, tkW, hW⟩ := tk
  refine WS.of (ps_raise hc tkW (pmk_aex A iC tI F1 (hr.mono hk) hb hg hm hdb)) fun F R H σ hs he => ?_
  exact hW F μ H σ (hs.lessR hs.rb T.l rfl) hs.lb he hp

/-! ### a caught exception, tracked -/
def ExcH (a C : Addr) : HO := .ext fun h => ∃ (oe : Obj) (vs : Array Value), h.get? a = some oe ∧ Zc (.ref C) none oe ∧ oe.data = .fields vs
theorem excH_ok {P : Program} {w : World} {H : Hp} {h : Heap} {a C : Addr} {oe : Obj} {vs : Array Value} (e : h.get? a = some oe) (z : Zc (.ref C) none oe) (d : oe.data = .fields vs) : ObjOk P w H h a (ExcH a C) :=
  ⟨⟨oe, vs, e, z, d⟩, ⟨_, e⟩, fun h1 h2 ⟨o, v, q, z, d⟩ k => ⟨o, v, k _ q, z, d⟩⟩
theorem excH_at {P : Program} {w : World} {H : Hp} {h : Heap} {a C : Addr} (hok : HOk P w H h) (he : H a = some (ExcH a C)) : ∃ (oe : Obj) (vs : Array Value), h.get? a = some oe ∧ Zc (.ref C) none oe ∧ oe.data = .fields vs := by
  have x : ObjOk P w H h a (.ext fun h => ∃ (oe : Obj) (vs : Array Value), h.get? a = some oe ∧ Zc (.ref C) none oe ∧ oe.data = .fields vs) := hok a _ he
  exact x.1
theorem _root_.L2.Inv.trackE {pins : List (Addr × Obj)} {σ : L2.St} {H : Hp} {s : Shared} {a : Addr} {oe : Obj} {vs : Array Value} (I : Inv X pins σ H s) (e : s.heap.get? a = some oe) (z : Zc (.ref C) none oe) (d : oe.data = .fields vs) (n : H a = none) (nL : a ≠ X.env.locals)
    (n0 : X.s_0.heap.get? a = none) (np : ∀ p ∈ X.pn ++ pins, p.1 ≠ a) : Inv X pins σ (upd H a (ExcH a C)) s := by
  refine ⟨I.ok, I.os, I.bare, ⟨I.base.keep, I.base.slot, fun b o q n' hx => ?_, I.base.there, fun b xs q => ?_, fun b o u q => ?_, fun b ps q => ?_⟩, I.loc, I.cell, ?_, fun x c hc => ?_, fun p hp => ?_, fun b u q => ?_, I.len⟩
  · rw [upd_ne (by rintro rfl; rw [n0] at q; cases q)]; exact I.base.free b o q n' hx
  · rw [upd_ne (ne_of_none (I.base.tups b xs q) n)]; exact I.base.tups b xs q
  · rw [upd_ne (ne_of_none (I.base.frzs b o u q) n)]; exact I.base.frzs b o u q
  · obtain ⟨more, q2⟩ := I.base.tbls b ps q
    exact ⟨more, by rw [upd_ne (ne_of_none q2 n)]; exact q2⟩
  · rw [upd_ne (Ne.symm nL)]; exact I.free
  · have hca : c ≠ a := by
      rintro rfl
      obtain ⟨v, o2, e1, e2⟩ := I.cell x _ hc
      rw [e] at e1; cases e1
      rw [d] at e2; cases e2
    rw [upd_ne hca]; exact I.freeC x c hc
  · obtain ⟨p1, p2, p3, p4, p5⟩ := I.pin p hp
    exact ⟨p1, by rw [upd_ne (np p hp)]; exact p2, p3, p4, p5⟩
  · by_cases hb : b = a
    · subst hb; rw [upd_same] at q; cases q; exact excH_ok e z d
    · rw [upd_ne hb] at q
      exact (I.hok b u q).stay (fun c v _ y => y) (fun c hc => by rw [upd_ne (ne_of_none hc n)]; exact hc) fun c xs hc => by rw [upd_ne (ne_of_none hc n)]; exact hc
end
end Ws
/-! WS, part T: try .. except X as e with the exception kept. -/
namespace Ws
open PySem PyProof.Rows PySem.Spec L2

/-- what the clause wishes; behind the suite the exception stands in H -/
def wAsT (K : PySem.W.Frag) (c : Value) (C : Addr) (i : Nat) (ts : Addr → TS) (D : Ends) : WX := fun cls d σ H =>
  cls = .ref C ∧ d = none ∧ PySem.W.exmOne K cls c = some true ∧ ∀ a, H a = none → ts a { nx := fun σ' H' => H' a = none → D.nx (σ'.set i none) (upd H' a (ExcH a C)), rt := fun _ _ => False, bk := fun _ _ => False, ct := fun _ _ => False } (σ.set i (some (.ref a))) H

section
variable {X : Cx} {pins : List (Addr × Obj)} {σ : L2.St} {H : Hp} {sI : Shared} {a C : Addr}
/-- the place of the caught exception is no one else's -/
structure Lone (X : Cx) (pins : List (Addr × Obj)) (a : Addr) : Prop where
  loc : a ≠ X.env.locals
  fs : a ∉ X.fs
  past : X.s_0.heap.get? a = none
  pin : ∀ p ∈ X.pn ++ pins, p.1 ≠ a
theorem lone_of {B h : Heap} {o : Obj} {vs : Array Value} (hs : X.stack = X.env :: X.outer) (hf : X.env.frame = some X.env.locals) (hex : X.ex = []) (J : Inv X pins σ H sI) (ff : h.FunFrames B X.stack) (e : h.get? a = some o)
    (ed : o.data = .fields vs) (nB : B.get? a = none) (nb : ∀ b o, sI.heap.get? b = some o → b ∉ frs X.stack → B.get? b = some o) : Lone X pins a := by
  have off : a ∉ frs X.stack := fun m => by
    obtain ⟨_, o', q, no⟩ := ff.mem m
    rw [e] at q
    exact no vs (Option.some.inj q ▸ ed)
  have gone : sI.heap.get? a = none := Option.eq_none_iff_forall_ne_some.mpr fun u q => nomatch nB.symm.trans (nb a u q off)
  have up : ∀ (e : Env) (b : Addr), e ∈ X.env :: X.outer → e.frame = some b → b ∈ frs X.stack := fun e b m q => by
    rw [hs]
    exact List.mem_filterMap.mpr ⟨e, m, q⟩
  refine ⟨fun z => off (z ▸ up _ _ (.head _) hf), fun m => ?_, Option.eq_none_iff_forall_ne_some.mpr fun u q => ?_, fun p hp z => ?_⟩
  · obtain ⟨e, m, q⟩ := List.mem_filterMap.mp m
    exact off (up e a (.tail _ m) q)
  · obtain ⟨_, z⟩ := J.base.there a u q (hex ▸ List.not_mem_nil)
    exact nomatch gone.symm.trans z
  · have q := (J.pin p hp).1
    rw [z] at q
    exact nomatch gone.symm.trans q
/-- an end of the body, told of our own context -/
theorem sp_tr {xe : Value → Shared → Prop} {D : Ends} {fl : Flow} {s : Shared} (ok : X.Ok) (h : SP (X.tr (X.pn ++ pins) xe) [] D fl s) : SP X pins D fl s := by
  cases fl with
  | ret u =>
    obtain ⟨v, σ₁, H₁, J, r⟩ := h
    exact ⟨v, σ₁, H₁, J.ofTry ok, r⟩
  | _ =>
    obtain ⟨σ₁, H₁, J, q⟩ := h
    exact ⟨σ₁, H₁, J.ofTry ok, q⟩
variable {x n : Str} {c : Value} {i : Nat} {body suite : List Stmt} {b₀ : Stmt} {np pos pos' : Pos} {tb : WX → TS} {ts : Addr → TS}
/-- the clause's class is asked by its name -/
theorem clause_name {pn : List (Addr × Obj)} {s : Shared} {Q : Value → Shared → Prop} {E : Value → Shared → Prop} (hc : Names X x c) (S : Inv (X.suite a pn) [] σ H s) (q : Q c s) : wpAny (model X.prog X.w) (X.A.mark (some (.ref a))) (eval (.Name x np) X.env) Q E s := by
  rcases hc with ⟨g, nd, m | ⟨m, v, nn⟩⟩
  · exact ld_glob (X := X.suite a pn) S g m q nd
  · exact ld_blt (X := X.suite a pn) S g m v q nn nd
/-- the clause takes it: the exception stands in H behind the suite -/
theorem clause_ok {B : Heap} {s' : Shared} {D : Ends} (hs : X.stack = X.env :: X.outer) (hf : X.env.frame = some X.env.locals) (hN : X.N.Nodup) (hi : X.N[i]? = some n) (hln : X.env.kindOf n = some .local) (hex : X.ex = []) (hc : Names X x c)
    (hsu : ∀ (a : Addr) (oe : Obj) (pn : List (Addr × Obj)), PSs (X.suite a ((a, oe) :: pn)) (b₀ :: suite) (ts a))
    (J : Inv X pins σ H sI) (nb : ∀ b o, sI.heap.get? b = some o → b ∉ frs X.stack → B.get? b = some o) (up : sI.heap.UpToSlots s'.heap) (sky : Sky B X.stack a (Zc (.ref C) none) X.env.locals s'.heap) (na : H a = none) (os : s'.os = sI.os) (ag : AllBare s'.gens)
    (yes : PySem.W.exmOne X.K (.ref C) c = some true) (go : ts a { nx := fun σ' H' => H' a = none → D.nx (σ'.set i none) (upd H' a (ExcH a C)), rt := fun _ _ => False, bk := fun _ _ => False, ct := fun _ _ => False } (σ.set i (some (.ref a))) H) :
    wpAny (model X.prog X.w) X.A (noteFrame (.ref a) X.env) (fun _ s₂ => wpAny (model X.prog X.w) X.A (setFlight (.ref a) none) (fun _ s₃ =>
      wpAny (model X.prog X.w) X.A (handleBy (.ref a) X.env [.ExceptHandler (some (.Name x np)) (some n) (b₀ :: suite) pos']) (SP X pins D) X.xe s₃) X.xe s₂) X.xe s' := by
  rw [hs] at sky
  refine Sky.land Zc.steady (by rw [J.ok.frames, hs]) hf sky fun h₁ air u₁ => ?_
  have J₁ : Inv X pins σ H { s' with heap := h₁ } := J.landed nb air.1 (up.trans u₁) os ag
  obtain ⟨o₁, vs₁, at₁, z₁, d₁⟩ := air.there
  have L : Lone X pins a := lone_of hs hf hex J (hs ▸ air.2.2.1) at₁ d₁ air.2.1 nb
  have cls₁ : PySem.W.Looks (model X.prog X.w) h₁ (typeOf (.ref a)) (.ref C) := fun A Q E s k q => wpAny_typeOf_ref (k a o₁ at₁) (z₁.1.symm ▸ q)
  have match₁ := PySem.W.exm_one (M := model X.prog X.w) J₁.kIn cls₁ yes
  have S₁ := J₁.suite at₁ d₁ na L.loc L.fs
  refine wpAny_handleBy_cons (codeAny_handlers_test ?_) nofun
  refine clause_name hc S₁ ?_
  refine match₁.here ?_
  refine codeAny_handlers_suite_as ?_
  refine HandSPX.lands_againZ air fun h₂ air₂ u₂ => ?_
  have J₂ : Inv X pins σ H { s' with heap := h₂ } := J.landed nb air₂.1 ((up.trans u₁).trans u₂) os ag
  obtain ⟨o₂, vs₂, at₂, z₂, d₂⟩ := air₂.there
  refine store_ok (X := X.suite a ((a, o₂) :: (X.pn ++ pins))) (v := .ref a) (J₂.suite at₂ d₂ na L.loc L.fs) hN hi (.inl hln) rfl (fun s₃ S₃ => wpAny_mono ((hsu a o₂ (X.pn ++ pins)).run [] s₃ _ H _ S₃ go) (fun fl s₄ z => ?_) (fun _ _ z => False.elim z)) (.inr hln)
  cases fl with
  | ret u =>
    obtain ⟨_, _, _, _, _, q⟩ := z
    exact False.elim q
  | brk =>
    obtain ⟨_, _, _, q⟩ := z
    exact False.elim q
  | cont =>
    obtain ⟨_, _, _, q⟩ := z
    exact False.elim q
  | next =>
    obtain ⟨σ₄, H₄, S₄, q⟩ := z
    obtain ⟨at₄, n₄, _⟩ := S₄.pin _ (List.mem_append_left _ (.head _))
    exact gone_ok ((S₄.unsuite J.ok).trackE at₄ z₂ d₂ n₄ L.loc L.past L.pin) hN hi hln fun s₅ J₅ => ⟨_, _, J₅, q n₄⟩
theorem ps_try_asT (hs : X.stack = X.env :: X.outer) (hf : X.env.frame = some X.env.locals) (hN : X.N.Nodup) (hi : X.N[i]? = some n) (hln : X.env.kindOf n = some .local) (hex : X.ex = []) (hc : Names X x c)
    (hb : ∀ (W : WX) (pn : List (Addr × Obj)) (xe : Value → Shared → Prop), Takes (X.tr pn xe) W → PassesOwn (model X.prog X.w) X.A X.env xe → PSs (X.tr pn xe) body (tb W))
    (hsu : ∀ (a : Addr) (oe : Obj) (pn : List (Addr × Obj)), PSs (X.suite a ((a, oe) :: pn)) (b₀ :: suite) (ts a)) :
    PS X (.Try body [.ExceptHandler (some (.Name x np)) (some n) (b₀ :: suite) pos'] [] [] pos) (fun D σ H => tb (wAsT X.K c C i ts D) D σ H) := by
  refine ⟨fun pins s σ H D I h => wpAny_Try_except (wpAny_mono ((hb _ (X.pn ++ pins) _ (fun u s' xx => ?_) PassesOwn.looking).run [] s σ H D (I.toTry _) h) (fun fl s₁ z => ?_) fun _ _ z => z)⟩
  · obtain ⟨a, B, sI, pins', σ', H', cls, d, eu, J, nb, up, sky, na, os, ag, ec, ed, yes, go⟩ := xx
    subst eu ec ed
    exact clause_ok hs hf hN hi hln hex hc hsu (J.ofTry I.ok) nb up sky na os ag yes (go a na)
  · have q : SP X pins D fl s₁ := sp_tr I.ok z
    cases fl with
    | next => exact wpAny_execs_nil q
    | _ => exact q
end

section
variable {X : Cx} {T : TabL} {G : GE} {μ : Mu} {x n : Str} {c : Value} {C : Addr} {i : Nat} {body suite rest : List Stmt} {b₀ : Stmt} {np pos pos' : Pos} {E : DE}
theorem wss_try (PE : Mu → Prop) (hs : X.stack = X.env :: X.outer) (hf : X.env.frame = some X.env.locals) (hN : X.N.Nodup) (hi : X.N[i]? = some n) (hln : X.env.kindOf n = some .local) (hex : X.ex = []) (hc : Names X x c)
    (hm : PySem.W.exmOne X.K (.ref C) c = some true)
    (hb : ∀ (pn : List (Addr × Obj)) (xe : Value → Shared → Prop) (lb rb : Hp), TakesD (X.tr pn xe) ⟨T.l, lb, rb⟩ C G PE → PassesOwn (model X.prog X.w) X.A X.env xe →
      WSs (X.tr pn xe) ⟨T.l, lb, rb⟩ G μ body { nx := fun G' μ' => WSs X T G' μ' rest E, rt := E.rt, bk := E.bk, ct := E.ct })
    (hsu : ∀ (a : Addr) (oe : Obj) (pn : List (Addr × Obj)) (T' : TabL) (μ' : Mu), T'.l = T.l → PE μ' → WSs (X.suite a ((a, oe) :: pn)) T' (G.set i (some (.ref a))) μ' (b₀ :: suite)
      { nx := fun G2 μ2 => ∀ lb, lb a = some (ExcH a C) → WSs X ⟨T.l, lb, T.rb⟩ (G2.set i none) μ2 rest E, rt := fun _ _ => False }) :
    WSs X T G μ (.Try body [.ExceptHandler (some (.Name x np)) (some n) (b₀ :: suite) pos'] [] [] pos :: rest) E := by
  refine WSs.of (pss_cons (ps_try_asT (C := C) (tb := fun W D σ H => ∀ (pn : List (Addr × Obj)) (xe : Value → Shared → Prop), Takes (X.tr pn xe) W → PassesOwn (model X.prog X.w) X.A X.env xe → wSs (X.tr pn xe) body D σ H)
    (ts := fun a D σ H => ∀ (oe : Obj) (pn : List (Addr × Obj)), wSs (X.suite a ((a, oe) :: pn)) (b₀ :: suite) D σ H) hs hf hN hi hln hex hc
    (fun W pn xe tk po => ⟨fun pins s σ H D I h => (h pn xe tk po).run pins s I⟩) (fun a oe pn => ⟨fun pins s σ H D I h => (h oe pn).run pins s I⟩)) (pssW rest)) fun F R H σ h0 he => ?_
  intro pn xe tk po
  have q := hb pn xe F R ⟨_, tk, fun F' μ' H' σ' hs' s' he' p' => ⟨rfl, rfl, hm, fun a na oe pn2 => ⟨fun pins s I => ?_⟩⟩⟩ po F R H σ (h0.base.up (T := ⟨T.l, F, R⟩) (Same.refl _) (Same.refl _)) he
  · refine wSs_mono q ⟨?_, ?_, ?_, ?_⟩
    · rintro σ1 H1 ⟨F1, G1, μ1, hs1, s1, he1, q1⟩
      exact wSs_mono (q1 F1 R H1 σ1 (hs1.low rfl h0.lb h0.rb) he1) (endsD.back s1)
    · exact (endsD.low (T' := ⟨T.l, F, R⟩) (T := T) (E := E) rfl h0.lb h0.rb).rt
    · exact (endsD.low (T' := ⟨T.l, F, R⟩) (T := T) (E := E) rfl h0.lb h0.rb).bk
    · exact (endsD.low (T' := ⟨T.l, F, R⟩) (T := T) (E := E) rfl h0.lb h0.rb).ct
  · have hlen : i < σ'.length := by
      have e := I.len
      rw [List.length_set] at e
      rw [e]; exact getEl_lt hi
    have hs2 : Hs X.K ⟨T.l, F', R⟩ F' μ' R H' := hs'.up (T := ⟨T.l, F', R⟩) (Same.refl _) (Same.refl _)
    have he2 : EnvR X.K F' (G.set i (some (.ref a))) (σ'.set i (some (.ref a))) := he'.set hlen (.ref a)
    refine (wSs_mono (hsu a oe pn2 ⟨T.l, F', R⟩ μ' rfl p' F' R H' _ hs2 he2) ⟨?_, ?_, ?_, ?_⟩).run pins s I
    · rintro σ1 H1 ⟨F1, G1, μ1, hs1, s1, he1, q1⟩ n1
      have sm := same_upd (o := ExcH a C) (hs1.noF n1)
      have q2 := q1 (upd F1 a (ExcH a C)) upd_same (upd F1 a (ExcH a C)) R (upd H1 a (ExcH a C)) (σ1.set i none)
        (Hs.up (T := ⟨T.l, upd F1 a (ExcH a C), T.rb⟩) ((hs1.new n1 (fun ps z => by unfold ExcH at z; cases z)).base) (Same.refl _) h0.rb) (fun j d ej => by
          by_cases hj : i = j
          · subst hj
            by_cases hl : i < G1.length
            · rw [List.getElem?_set_self hl] at ej; cases ej
            · rw [List.getElem?_eq_none (by simpa using hl)] at ej; cases ej
          · rw [List.getElem?_set_ne hj] at ej ⊢
            exact (he1.mono sm) j d ej)
      have l0 : Same T.lb (upd F1 a (ExcH a C)) := ((h0.lb.trans s').trans s1).trans sm
      refine wSs_mono q2 ⟨?_, ?_, ?_, ?_⟩
      · exact fun σ2 H2 z => (endsD.back (((s'.trans s1).trans sm))).nx _ _ ((endsD.low (T' := ⟨T.l, upd F1 a (ExcH a C), T.rb⟩) (T := T) (E := E) rfl l0 (Same.refl _)).nx _ _ z)
      · exact fun σ2 H2 z => (endsD.back (E := E) (((s'.trans s1).trans sm))).rt _ _ ((endsD.low (T' := ⟨T.l, upd F1 a (ExcH a C), T.rb⟩) (T := T) (E := E) rfl l0 (Same.refl _)).rt _ _ z)
      · exact fun σ2 H2 z => (endsD.back (E := E) (((s'.trans s1).trans sm))).bk _ _ ((endsD.low (T' := ⟨T.l, upd F1 a (ExcH a C), T.rb⟩) (T := T) (E := E) rfl l0 (Same.refl _)).bk _ _ z)
      · exact fun σ2 H2 z => (endsD.back (E := E) (((s'.trans s1).trans sm))).ct _ _ ((endsD.low (T' := ⟨T.l, upd F1 a (ExcH a C), T.rb⟩) (T := T) (E := E) rfl l0 (Same.refl _)).ct _ _ z)
    · rintro v H1 ⟨_, _, _, _, _, _, z⟩; exact z
    · rintro v H1 ⟨_, _, _, _, _, _, z⟩; exact z
    · rintro v H1 ⟨_, _, _, _, _, _, z⟩; exact z
/-! ### isinstance of such -/
variable {Q : D → Mu → Prop} {e f : Expr} {p : Pos}
def rIsX (K : PySem.W.Frag) : List V → Hp → VK → Prop := fun xs H Q => ∃ (a C : Addr) (c : V) (cv : Value) (b : Bool), xs = [.ref a, c] ∧ ExcC K C ∧ H a = some (ExcH a C) ∧ (∀ u, RelV c u → u = cv) ∧ PySem.W.kitOne K (.ref C) cv = some b ∧ Q (.bl b) H
theorem call_isX : CallR X (.builtin "isinstance") (rIsX X.K) := by
  intro pins s σ H xs us Q I r h
  obtain ⟨a, C, c, cv, b, rfl, hC, hH, hcv, e, q⟩ := h
  cases r with
  | cons rx rr =>
    cases rr with
    | cons rt rr =>
      cases rr
      cases rx
      have ec := hcv _ rt
      subst ec
      obtain ⟨oe, vs, hget, hz, hv⟩ := excH_at I.hok hH
      have J : PySem.W.InstAt s.heap a oe C none := by
        obtain ⟨oc, od, oda, osl⟩ := oe
        obtain ⟨h1, h2⟩ := hz
        dsimp only at h1 h2 hv
        subst h1 h2 hv
        exact ⟨hget, rfl, rfl, trivial⟩
      exact PySem.W.kia_one (PySem.W.handS_kitx_exc hC.hg hC.hk hC.hs hC.hd hC.ha hC.hn hC.ht hC.hm) I.kIn J e (fun z => nomatch z) fun tk => ⟨.bl b, H, I.kept (t' := tk) fun _ _ z => z, rfl, q⟩
theorem we_isiE {x : Str} (hx : x = "isinstance") (hm : X.mg "isinstance" = none) (h : WE X T G μ e fun d μ1 => WE X T G μ1 f fun d' μ2 => ∃ a C n k, d = .ref a ∧ T.lb a = some (ExcH a C) ∧ ExcC X.K C ∧ d' = .ty n ∧ PySem.W.kitOne X.K (.ref C) (.type n) = some k ∧ Q (.bl k) μ2) (hg : Gl X "isinstance" := by rfl)
    (he : starEach [e, f] X.env = (false, eval e X.env) :: starEach [f] X.env := by rfl) (he' : starEach [f] X.env = (false, eval f X.env) :: starEach [] X.env := by rfl) (hpl : (backTo pos (starEach [f] X.env)).any (·.1) = false := by rfl) : WE X T G μ (.Call (.Name x p) [e, f] [] pos) Q := by
  subst hx
  refine we_callB call_isX hm (by decide +kernel) (wa_two (h.mono fun d μ1 h1 => h1.mono fun d' μ2 ⟨a, C, n, k, e1, hl, hC, e2, hk, q⟩ F0 F R H vs s hs r => ?_) he he') hg (by decide) (by decide) he hpl
  subst e1 e2
  cases r with
  | cons r t' =>
    cases t' with
    | cons r' t'' =>
      cases t''
      cases r
      cases r'
      exact ⟨a, C, .ty n, .type n, k, rfl, hC, hs.f _ _ (hs.lb _ _ hl), fun u ru => (by cases ru; rfl), hk, (fin_now hs (.bl _) q).back s⟩
end
end Ws
/-! WS, part U: sorted(..) by what is collected; a tuple of ints sorted. -/
namespace Ws
open PySem PyProof.Rows PySem.Spec L2

section
variable {prog : Program} {w : World} {A : Around} {E : Value → Shared → Prop} {s : Shared}
theorem sorted_by {v : Value} {Q : Value → Shared → Prop} (hcol : wpAny (model prog w) A.in1 (collect v) (fun vs s1 => vs.length ≤ sizeLine ∧
      wpAny (model prog w) A.in1 (call (.builtin "list.sort") [.ref s1.heap.objs.size]) (fun _ s2 => Q (.ref s1.heap.objs.size) s2) (fun _ _ => False) { s1 with heap := s1.heap.push (seqObj "list" vs.toArray 0) }) (fun _ _ => False) s) :
    wpAny (model prog w) A (call (.builtin "sorted") [v]) Q E s := by
  refine Calls.call_function_entry kind_sorted plain_sorted entry_sorted (args_sorted1 v) (show wpAny _ _ (Builtin.«sorted» _) _ _ _ from ?_)
  unfold Builtin.«sorted»
  refine wpAny_bind (m := checkCount "sorted" 1 1 1) (wpAny_pure (wpAny_bind (wpAny_mono hcol (fun vs s1 ⟨few, sorted⟩ => ?_) fun _ _ z => z.elim)))
  refine wpAny_bind (wpAny_newList (wpAny_bind (wpAny_holding (wpAny_mono sorted (fun u s2 q => ?_) fun _ _ z => z.elim))) few)
  exact wpAny_pure ⟨_, rfl, q⟩
end

/-! ### a tuple of ints -/
def rSortIT (K : PySem.W.Frag) : List V → Hp → VK → Prop := fun vs H Q => ∃ (a : Addr) (ns : List Int), vs = [V.ref a] ∧ SqT K H a (ns.map V.int) ∧
  ∀ (ns' : List Int) (p : Addr), ns'.Perm ns → ns'.Pairwise (· ≤ ·) → H p = none → Q (.ref p) (upd H p (.lst (ns'.map V.int)))
theorem cr_sortIT {X : Cx} : CallR X (.builtin "sorted") (rSortIT X.K) := by
  intro pins s σ H vs us Q I given h
  obtain ⟨a, ns, ev, tup, q⟩ := h
  subst ev
  obtain ⟨its, vals, ⟨o, ho, hc, n, hd⟩, few⟩ := I.tuple tup
  rw [Vals.ref1 given]
  have areInts := vals.ints
  have few' : its.length ≤ sizeLine := vals.length ▸ few
  refine sorted_by (wpAny_collect_seq a (.inr rfl) ho hc hd (fun h1 kept => ⟨by simpa using few', ?_⟩) (by simpa using few'))
  rw [show its.toArray.toList = its from by simp]
  have none0 : s.heap.get? h1.objs.size = none := Option.eq_none_iff_forall_ne_some.mpr fun o e => Nat.lt_irrefl _ (Heap.lt_size (kept _ _ e))
  have new : (h1.push (seqObj "list" its.toArray 0)).get? h1.objs.size = some (seqObj "list" its.toArray 0) := Heap.get?_push_size _ rfl
  refine wpAny_call_entry PyProof.Rows.slot_list_sort ⟨_, new, rfl⟩ PyProof.Rows.entry_list_sort (SrtO.list_sort_ord SrtO.swo_int new few' (fun h2 => SrtO.ints_sortable areInts h2) fun out q1 q2 => ⟨.none, rfl, ?_⟩) (PyProof.Rows.args_list_sort _)
  obtain ⟨vals', perm, sorted⟩ := SrtO.ints_out areInts q1 q2
  obtain ⟨ep, at_⟩ := PyProof.Rows.sortedHeap_at (out := out.toArray) new
  have few2 : ((out.map SrtO.iv).map V.int).length ≤ sizeLine := by rw [List.length_map, perm.length_eq, ← List.length_map (f := V.int)]; exact few
  refine ⟨.ref _, upd H h1.objs.size (.lst ((out.map SrtO.iv).map V.int)), I.laidN (t' := s.toks) (fun b u hu => ?_) none0 (I.hok.gone none0) ⟨few2, out, ep, vals_of_ints vals', at_⟩, rfl, q _ _ perm sorted (I.hok.gone none0)⟩
  have below := Heap.lt_size (kept b u hu)
  rw [PyProof.Rows.sortedHeap_old (Nat.ne_of_lt below) (by rw [size_push']; exact Nat.lt_succ_of_lt below)]
  exact Heap.get?_push_of_some _ (kept b u hu)

section
variable {X : Cx} {T : TabL} {G : GE} {μ : Mu} {pos p : Pos} {e : Expr} {Q : D → Mu → Prop}
/-- sorted of a fixed list, a fixed tuple of ints -/
theorem we_sortedF {x : Str} (hx : x = "sorted") (hm : X.mg "sorted" = none) (h : WE X T G μ e fun d μ1 => ∃ ns : List Int, FSq d (ns.map .int) ∧ ∀ ys : List Int, ys.Perm ns → ys.Pairwise (· ≤ ·) → Q (.lst (ys.map .int)) μ1) (hg : Gl X "sorted" := by rfl)
    (he : starEach [e] X.env = (false, eval e X.env) :: starEach [] X.env := by rfl) : WE X T G μ (.Call (.Name x p) [e] [] pos) Q := by
  subst hx
  refine we_callB (id := "sorted") (r := fun vs H Q => rSortedI X.K vs H Q ∨ rSortIT X.K vs H Q) (fun pins s σ H xs us Q I r h => ?_) hm (by decide +kernel) (wa_one (h.mono fun d μ1 ⟨ns, sq, q⟩ F0 F R H vs s hs r => ?_) he) hg (by decide) (by decide) he (by rfl)
  · rcases h with h | h
    · exact cr_sortedI pins s σ H xs us Q I r h
    · exact cr_sortIT pins s σ H xs us Q I r h
  · cases r with
    | cons r t =>
      cases t
      cases sq with
      | lst =>
        cases r with
        | lst h rr =>
          have := rr.ints; subst this
          exact .inl ⟨_, ns, rfl, .of (hs.lstF h), fun ys l h1 h2 n => (fin_lst hs n (Reps.ofInts _) (q ys h1 h2)).back s⟩
      | tup =>
        cases r with
        | tup h rr =>
          have := rr.ints; subst this
          exact .inr ⟨_, ns, rfl, hs.tupF h, fun ys l h1 h2 n => (fin_lst hs n (Reps.ofInts _) (q ys h1 h2)).back s⟩
/-- what is compared of lists of ints -/
theorem pd_ints : ∀ ns : List Int, pds (ns.map D.int) = some (ns.map PyData.int)
  | [] => rfl
  | n :: ns => by
    show (match pd (.int n), pds (ns.map D.int) with | some x, some xs => some (x :: xs) | _, _ => none) = _
    rw [pd_ints ns]; rfl
theorem eqv_ints : ∀ xs ys : List Int, PyData.eqvAll (xs.map .int) (ys.map .int) = decide (xs = ys)
  | [], [] => by simp [PyData.eqvAll]
  | [], _ :: _ => by simp [PyData.eqvAll]
  | _ :: _, [] => by simp [PyData.eqvAll]
  | x :: xs, y :: ys => by
    show PyData.eqvAll (.int x :: xs.map .int) (.int y :: ys.map .int) = _
    rw [PyData.eqvAll, eqv_ints xs ys]
    by_cases h : x = y
    · subst h; simp [PyData.eqv]
    · simp [PyData.eqv, h]
theorem eqv_lints (xs ys : List Int) : PyData.eqv (.list (xs.map .int)) (.list (ys.map .int)) = decide (xs = ys) := by rw [PyData.eqv]; exact eqv_ints xs ys
end
end Ws
namespace Ws
open PySem PyProof.Rows PySem.Spec L2
theorem canLay_ints : ∀ ns : List Int, PyData.canLayAll0 (ns.map .int) = true
  | [] => by simp [PyData.canLayAll0]
  | n :: ns => by
    show PyData.canLayAll0 (.int n :: ns.map .int) = true
    rw [PyData.canLayAll0, canLay_ints ns]
    simp [PyData.canLay0]
theorem shaped_ints (ns : List Int) : SeqAt.shaped (.list (ns.map .int)) = true := by
  unfold SeqAt.shaped
  rw [PyData.canLay0, canLay_ints, PyData.depth, PySem.W.depth_ints]
  rfl
end Ws
/-! D1: the data of rows; the defs of websplit.questions. -/
namespace Ws
open PySem PyProof.Rows PySem.Spec L2
abbrev FnP (K : PySem.W.Frag) (x : Str) (st : Stmt) (f : Addr) (fd : FuncData) : Prop := FunD K x x (defArgs st) (defBody st) (defScope st) [] [] f fd
/-- the built-in names that the module leaves as they are -/
structure Free (mg : Str → Option Value) : Prop where
  len : mg "len" = none
  list : mg "list" = none
  isinstance : mg "isinstance" = none
  sorted : mg "sorted" = none
  all : mg "all" = none
  any : mg "any" = none
  range : mg "range" = none
  tuple : mg "tuple" = none
  dict : mg "dict" = none
  set : mg "set" = none
  int : mg "int" = none
  bool : mg "bool" = none
  str : mg "str" = none
  abs : mg "abs" = none
  min : mg "min" = none

/-! ### rows -/
inductive PRow where
  | knot (v k : Str) | any (v : Str) | holds (v n w : Str) (o : D) | tie (v k u : Str) | way (v k u : Str) (m : Int) | unlike (v u : Str)
inductive Row where
  | p (r : PRow) | no (rs : List PRow)
def PRow.kd : PRow → Str
  | .knot _ _ => "knot" | .any _ => "any" | .holds _ _ _ _ => "holds" | .tie _ _ _ => "tie" | .way _ _ _ _ => "way" | .unlike _ _ => "unlike"
def PRow.args : PRow → List D
  | .knot v k => [.str v, .str k]
  | .any v => [.str v]
  | .holds v n w o => [.str v, .str n, .str w, o]
  | .tie v k u => [.str v, .str k, .str u]
  | .way v k u m => [.str v, .str k, .str u, .int m]
  | .unlike v u => [.str v, .str u]
def dPR (r : PRow) : D := .tup (.str r.kd :: r.args)
def Row.kd : Row → Str
  | .p r => r.kd
  | .no _ => "no"
def Row.args : Row → List D
  | .p r => r.args
  | .no rs => [.tup (rs.map dPR)]
def dRow (r : Row) : D := .tup (.str r.kd :: r.args)
theorem dRow_p (r : PRow) : dRow (.p r) = dPR r := rfl
def Row.isP : Row → Bool
  | .p _ => true
  | .no _ => false
theorem kd_no (r : Row) : decide (r.kd = "no") = !r.isP := by
  cases r with
  | p r => cases r <;> rfl
  | no rs => rfl
theorem atI_zero {d : D} {ds : List D} : atI (d :: ds) 0 = some d := by
  unfold atI ixN; simp
def PRow.vs : PRow → List Str
  | .knot v _ => [v] | .any v => [v] | .holds v _ _ _ => [v] | .tie v _ u => [v, u] | .way v _ u _ => [v, u] | .unlike v u => [v, u]
/-- each once, in the order of the first -/
def uniq (xs : List Str) : List Str := xs.foldl (fun acc x => if x ∈ acc then acc else acc ++ [x]) []
def prVars (r : PRow) : List Str := uniq r.vs
def Row.vars : Row → List Str
  | .p r => prVars r
  | .no rs => uniq (rs.flatMap prVars)
def varsIn (rs : List Row) : List Str := uniq (rs.flatMap Row.vars)
/-- a worth: an int, a text -/
inductive IsWo : D → Prop
  | int (i : Int) : IsWo (.int i)
  | str (x : Str) : IsWo (.str x)
def PRow.ok : PRow → Prop
  | .holds _ _ _ o => IsWo o
  | .way _ _ _ m => 0 ≤ m ∧ m ≤ 4
  | _ => True
def Row.fine : Row → Prop
  | .p r => r.ok
  | .no rs => rs.length ≤ 10 ∧ ∀ r ∈ rs, r.ok
theorem prVars_len (r : PRow) : (prVars r).length ≤ 2 := by
  cases r <;> (unfold prVars uniq PRow.vs; simp [List.foldl]) <;> (split <;> simp)
theorem flat_len {α : Type} {f : α → List Str} {n : Nat} : ∀ (rs : List α), (∀ r ∈ rs, (f r).length ≤ n) → (rs.flatMap f).length ≤ rs.length * n
  | [], _ => by simp
  | r :: rs, h => by
    rw [List.flatMap_cons, List.length_append, List.length_cons, Nat.succ_mul]
    have h1 := h r List.mem_cons_self
    have h2 := flat_len rs fun x hx => h x (List.mem_cons_of_mem _ hx)
    omega
theorem uniq_snoc (xs : List Str) (x : Str) : uniq (xs ++ [x]) = if x ∈ uniq xs then uniq xs else uniq xs ++ [x] := by
  unfold uniq; rw [List.foldl_append]; rfl
theorem uniq_len (xs : List Str) : (uniq xs).length ≤ xs.length := by
  have key : ∀ (xs acc : List Str), (xs.foldl (fun acc x => if x ∈ acc then acc else acc ++ [x]) acc).length ≤ acc.length + xs.length := by
    intro xs
    induction xs with
    | nil => intro acc; simp
    | cons x xs ih =>
      intro acc
      rw [List.foldl_cons]
      refine Nat.le_trans (ih _) ?_
      split <;> simp <;> omega
  simpa [uniq] using key xs []
theorem fine_len {rs : List PRow} (h : (Row.no rs).fine) : (rs.flatMap prVars).length ≤ 10000 := by
  have := flat_len (f := prVars) rs (n := 2) fun r _ => prVars_len r
  have h : rs.length ≤ 10 := h.1
  omega
theorem vars_len {r : Row} (h : r.fine) : r.vars.length ≤ 20 := by
  cases r with
  | p r => have := prVars_len r; show (prVars r).length ≤ 20; omega
  | no rs =>
    have h1 := flat_len (f := prVars) rs (n := 2) fun r _ => prVars_len r
    have h2 := uniq_len (rs.flatMap prVars)
    have h : rs.length ≤ 10 := h.1
    show (uniq (rs.flatMap prVars)).length ≤ 20
    omega
/-- rows as they come -/
def RowsOk (rs : List Row) : Prop := rs.length ≤ 20 ∧ ∀ r ∈ rs, r.fine
theorem RowsOk.filter {rs : List Row} (h : RowsOk rs) (p : Row → Bool) : RowsOk (rs.filter p) := ⟨Nat.le_trans (List.length_filter_le _ _) h.1, fun r hr => h.2 r ((List.mem_filter.mp hr).1)⟩
theorem RowsOk.flat {rs : List Row} (h : RowsOk rs) : (rs.flatMap Row.vars).length ≤ 10000 := by
  have := flat_len (f := Row.vars) rs (n := 20) fun r hr => vars_len (h.2 r hr)
  have := h.1
  omega
def dicT (xs : List Str) : List (Key × D) := xs.map fun x => (.inr x, .bl true)
theorem putD_dicT (xs : List Str) (x : Str) : putD (dicT xs) (.inr x) (.bl true) = dicT (if x ∈ xs then xs else xs ++ [x]) := by
  unfold putD dicT
  have e : ((xs.map fun x => ((Sum.inr x : Key), D.bl true)).any fun kv => decide (kv.1 = .inr x)) = decide (x ∈ xs) := by
    induction xs with
    | nil => simp
    | cons y ys ih => rw [List.map_cons, List.any_cons, ih]; by_cases h : y = x <;> simp [h, eq_comm]
  rw [e]
  by_cases h : x ∈ xs
  · rw [if_pos (by simpa using h), if_pos h, List.map_map]
    refine List.map_congr_left fun y _ => ?_
    show (if (Sum.inr y : Key) = .inr x then _ else _) = _
    split <;> rfl
  · rw [if_neg (by simpa using h), if_neg h]; simp

section
variable {P : Program} {w : World} {K : PySem.W.Frag} {mg : Str → Option Value} {base : Heap} {T : TabS} {f : Addr} {fd : FuncData}

/-! ### unlike_ones -/
def S_unlike : DSp := fun ds μ Q => ∃ d, ∃ xs : List Str, ds = [d] ∧ FSq d (xs.map .str) ∧ Q (.lst ((uniq xs).map .str)) μ
theorem sc9 : FnScope ["some", "found", "one"] ["some"] (defScope (top 9)) := ⟨rfl, rfl, rfl, by decide +kernel, rfl, by decide +kernel, by decide +kernel⟩
theorem d_unlike (fr : Free mg) (F : FnP K "unlike_ones" (top 9) f fd) (g : mg "unlike_ones" = some (.ref f)) : DefAt P w K mg base T 1 "unlike_ones" S_unlike := by
  refine defAt_of F g (ps := ["some"]) (fun _ _ _ _ _ _ us hl => match us, hl with | [_], _ => rfl) (fn_okD F sc9 (fun ds μ Q ⟨_, _, h, _⟩ => by rw [h]; rfl) fun cdv A outer s H E ds μ Q hr ⟨d, xs, e, fs, q⟩ => ?_)
  subst e
  refine wss_cons (ws_set 1 sc9.nd (we_dict0M fun a n => ?_))
  refine wss_cons (ws_for (ks := [2]) rfl (wi_seq (we_var 0 rfl ⟨_, fs, fun hz => ⟨fun j G' μ' => ∃ o, G' = [some d, some (.ref a), o] ∧ μ' = mset μ a (.md (dicT (uniq (xs.take j)))), ⟨_, rfl, rfl⟩, ?_, ?_⟩⟩)))
  · rintro j d1 _ _ ed ⟨o, rfl, rfl⟩
    rw [List.getElem?_map] at ed
    cases ex : xs[j]? with
    | none => rw [ex] at ed; cases ed
    | some x =>
      rw [ex] at ed; cases ed
      have hj : j < xs.length := (List.getElem?_eq_some_iff.mp ex).1
      refine wg_name 2 sc9.nd (wss_one (ws_dput hr.u1 (we_bl (we_var 1 rfl (we_var 2 rfl ⟨a, _, .inr x, rfl, rfl, mset_same, ?_, ?_⟩)))))
      · have := uniq_len (xs.take j)
        rw [List.length_take] at this
        rw [List.length_map] at hz
        simp [dicT]; omega
      · refine ⟨_, rfl, ?_⟩
        rw [mset_mset, putD_dicT, List.take_add_one, ex, Option.toList, uniq_snoc]
  · rintro _ _ ⟨o, rfl, rfl⟩
    refine wss_one (ws_ret (we_post (we_listD rfl fr.list rfl (we_var 1 rfl ⟨_, .md mset_same, μ, (MSame.refl μ).new n, ?_⟩))))
    rw [List.length_map, List.take_length, dicT, List.map_map]
    exact q

/-! ### variables_of, variables_in -/
def placesV (k : Str) : Option D :=
  if k = "knot" then some (.tup [.int 1]) else if k = "any" then some (.tup [.int 1]) else if k = "holds" then some (.tup [.int 1]) else
  if k = "tie" then some (.tup [.int 1, .int 3]) else if k = "way" then some (.tup [.int 1, .int 3]) else if k = "unlike" then some (.tup [.int 1, .int 2]) else none
def PRow.pl : PRow → List Int
  | .knot _ _ => [1] | .any _ => [1] | .holds _ _ _ _ => [1] | .tie _ _ _ => [1, 3] | .way _ _ _ _ => [1, 3] | .unlike _ _ => [1, 2]
theorem places_kd (r : PRow) : placesV r.kd = some (.tup (r.pl.map .int)) := by cases r <;> rfl
theorem pl_vs (r : PRow) : r.pl.map (fun i => (atI (.str r.kd :: r.args) i).getD .non) = r.vs.map .str := by cases r <;> rfl
theorem pl_at (r : PRow) : ∀ i ∈ r.pl, atI (.str r.kd :: r.args) i = some ((atI (.str r.kd :: r.args) i).getD .non) := by
  cases r <;> (intro i hi; simp [PRow.pl] at hi; rcases hi with rfl | rfl <;> rfl)
theorem sc10 : FnScope ["row", "place"] ["row"] (defScope (top 10)) := ⟨rfl, rfl, rfl, by decide +kernel, rfl, by decide +kernel, by decide +kernel⟩
def S_vinG {α : Type} (dx : α → D) (vs : α → List Str) : DSp := fun ds μ Q => ∃ d, ∃ rs : List α, ds = [d] ∧ FSq d (rs.map dx) ∧ (rs.flatMap vs).length ≤ 10000 ∧ Q (.lst ((uniq (rs.flatMap vs)).map .str)) μ
def S_varG {α : Type} (dx : α → D) (vs : α → List Str) : DSp := fun ds μ Q => ∃ r : α, ds = [dx r] ∧ Q (.lst ((vs r).map .str)) μ
theorem filter_true {α : Type} (xs : List α) : xs.filter (fun _ => true) = xs := List.filter_eq_self.mpr fun _ _ => rfl
theorem d_var1 (hU : DefAt P w K mg base T 1 "unlike_ones" S_unlike) (hT : TabAt K w mg "PLACES" placesV) (F : FnP K "variables_of" (top 10) f fd) (g : mg "variables_of" = some (.ref f)) : DefAt P w K mg base T 2 "variables_of" (S_varG dPR prVars) := by
  refine defAt_of F g (ps := ["row"]) (fun _ _ _ _ _ _ us hl => match us, hl with | [_], _ => rfl) (fn_okD F sc10 (fun ds μ Q ⟨_, h, _⟩ => by rw [h]; rfl) fun cdv A outer s H E ds μ Q hr ⟨r, e, q⟩ => ?_)
  subst e
  refine wss_cons (ws_if (wt_eq (we_ix (we_var 0 rfl (we_int ⟨_, _, _, .tup, rfl, atI_zero, we_str ⟨_, scal_str, ?_⟩⟩)))))
  have e0 := kd_no (.p r)
  rw [show (Row.p r).kd = r.kd from rfl] at e0
  rw [e0]
  refine wss_nil ?_
  refine wss_one (ws_ret (we_call hU hr (wa_one (we_lc 1 sc10.nd rfl (blkOk_by (by kernel_rfl)) (wi_seq (we_tab hT (we_ix (we_var 0 rfl (we_int ⟨_, _, _, .tup, rfl, atI_zero, _, _, rfl, places_kd r, ⟨_, .tup, fun hz => ?_⟩⟩)))))))))
  refine lc_fm r.pl .int (fun _ => true) (fun i => (atI (.str r.kd :: r.args) i).getD .non) ⟨_, r.vs, rfl, by rw [filter_true, pl_vs]; exact .lst, q⟩ fun i hi s H C cl fp => ⟨rfl, rfl, fun _ s H C cl fp => ?_⟩
  exact we_ix (we_var 0 rfl (we_var 1 rfl ⟨_, _, _, .tup, rfl, pl_at r i hi, rfl, rfl⟩))

theorem sc11 : FnScope ["rows", "row", "one"] ["rows"] (defScope (top 11)) := ⟨rfl, rfl, rfl, by decide +kernel, rfl, by decide +kernel, by decide +kernel⟩
theorem flatMap_map {α : Type} (rs : List α) (vs : α → List Str) : (rs.flatMap fun r => (vs r).map D.str) = (rs.flatMap vs).map .str := by
  rw [List.map_flatMap]
theorem d_vin {α : Type} {dx : α → D} {vs : α → List Str} {k : Nat} (hk : 1 ≤ k) (hU : DefAt P w K mg base T 1 "unlike_ones" S_unlike) (hV : DefAt P w K mg base T k "variables_of" (S_varG dx vs)) (F : FnP K "variables_in" (top 11) f fd) (g : mg "variables_in" = some (.ref f)) : DefAt P w K mg base T (k + 1) "variables_in" (S_vinG dx vs) := by
  refine defAt_of F g (ps := ["rows"]) (fun _ _ _ _ _ _ us hl => match us, hl with | [_], _ => rfl) (fn_okD F sc11 (fun ds μ Q ⟨_, _, h, _⟩ => by rw [h]; rfl) fun cdv A outer s H E ds μ Q hr ⟨d, rs, e, fs, h4, q⟩ => ?_)
  subst e
  refine wss_one (ws_ret (we_call hU hr (wa_one (we_lc2 1 2 sc11.nd rfl (blkOk_by (by kernel_rfl)) (fun d h => nomatch h) (wi_seq (we_var 0 rfl ⟨_, fs, fun hz => ?_⟩)))) hk))
  refine lc2_fm rs dx (fun r => (vs r).map .str) (by rw [flatMap_map, List.length_map, sizeLine_eq]; omega) ⟨_, rs.flatMap vs, rfl, by rw [flatMap_map]; exact .lst, q⟩ fun r hr' s H C cl fp => ?_
  refine wi_seq (we_call hV hr (wa_one (we_var 1 rfl ⟨r, rfl, _, .lst, fun hz => ⟨rfl, rfl, fun d1 hd s H C cl fp => ?_⟩⟩)) (Nat.le_refl _))
  exact we_var 2 rfl ⟨rfl, rfl⟩
/-- variables_of, any row -/
theorem d_var (hU : DefAt P w K mg base T 1 "unlike_ones" S_unlike) (hT : TabAt K w mg "PLACES" placesV) (hV : DefAt P w K mg base T 3 "variables_in" (S_vinG dPR prVars)) (F : FnP K "variables_of" (top 10) f fd) (g : mg "variables_of" = some (.ref f)) : DefAt P w K mg base T 4 "variables_of"
    (fun ds μ Q => ∃ r : Row, ds = [dRow r] ∧ r.fine ∧ Q (.lst (r.vars.map .str)) μ) := by
  refine defAt_of F g (ps := ["row"]) (fun _ _ _ _ _ _ us hl => match us, hl with | [_], _ => rfl) (fn_okD F sc10 (fun ds μ Q ⟨_, h, _⟩ => by rw [h]; rfl) fun cdv A outer s H E ds μ Q hr ⟨r, e, hs, q⟩ => ?_)
  subst e
  refine wss_cons (ws_if (wt_eq (we_ix (we_var 0 rfl (we_int ⟨_, _, _, .tup, rfl, atI_zero, we_str ⟨_, scal_str, ?_⟩⟩)))))
  rw [kd_no r]
  cases r with
  | p r =>
    refine wss_nil ?_
    refine wss_one (ws_ret (we_call hU hr (wa_one (we_lc 1 sc10.nd rfl (blkOk_by (by kernel_rfl)) (wi_seq (we_tab hT (we_ix (we_var 0 rfl (we_int ⟨_, _, _, .tup, rfl, atI_zero, _, _, rfl, places_kd r, ⟨_, .tup, fun hz => ?_⟩⟩)))))))))
    refine lc_fm r.pl .int (fun _ => true) (fun i => (atI (.str r.kd :: r.args) i).getD .non) ⟨_, r.vs, rfl, by rw [filter_true, pl_vs]; exact .lst, q⟩ fun i hi s H C cl fp => ⟨rfl, rfl, fun _ s H C cl fp => ?_⟩
    exact we_ix (we_var 0 rfl (we_var 1 rfl ⟨_, _, _, .tup, rfl, pl_at r i hi, rfl, rfl⟩))
  | no rs =>
    exact wss_one (ws_ret (we_call hV hr (wa_one (we_ix (we_var 0 rfl (we_int ⟨_, _, _, .tup, rfl, rfl, _, rs, rfl, .tup, fine_len hs, q⟩))))))

/-! ### the rest of websplit.questions -/
def S_var : DSp := fun ds μ Q => ∃ r : Row, ds = [dRow r] ∧ r.fine ∧ Q (.lst (r.vars.map .str)) μ
def S_vin : DSp := fun ds μ Q => ∃ d, ∃ rs : List Row, ds = [d] ∧ FSq d (rs.map dRow) ∧ RowsOk rs ∧ Q (.lst ((varsIn rs).map .str)) μ
theorem sc12 : FnScope ["rows", "row"] ["rows"] (defScope (top 12)) := ⟨rfl, rfl, rfl, by decide +kernel, rfl, by decide +kernel, by decide +kernel⟩
theorem sc13 : FnScope ["question"] ["question"] (defScope (top 13)) := ⟨rfl, rfl, rfl, by decide +kernel, rfl, by decide +kernel, by decide +kernel⟩
theorem sc14 : FnScope ["rows", "row"] ["rows"] (defScope (top 14)) := ⟨rfl, rfl, rfl, by decide +kernel, rfl, by decide +kernel, by decide +kernel⟩
theorem sc15 : FnScope ["row", "outer", "one"] ["row", "outer"] (defScope (top 15)) := ⟨rfl, rfl, rfl, by decide +kernel, rfl, by decide +kernel, by decide +kernel⟩
def outer (rs : List Row) : List Row := rs.filter Row.isP
def S_outer : DSp := fun ds μ Q => ∃ d, ∃ rs : List Row, ds = [d] ∧ FSq d (rs.map dRow) ∧ Q (.lst ((outer rs).map dRow)) μ
theorem d_outer (F : FnP K "outer_rows" (top 12) f fd) (g : mg "outer_rows" = some (.ref f)) : DefAt P w K mg base T 1 "outer_rows" S_outer := by
  refine defAt_of F g (ps := ["rows"]) (fun _ _ _ _ _ _ us hl => match us, hl with | [_], _ => rfl) (fn_okD F sc12 (fun ds μ Q ⟨_, _, h, _⟩ => by rw [h]; rfl) fun cdv A outer s H E ds μ Q hr ⟨d, rs, e, fs, q⟩ => ?_)
  subst e
  refine wss_one (ws_ret (we_lc 1 sc12.nd rfl (blkOk_by (by kernel_rfl)) (wi_seq (we_var 0 rfl ⟨_, fs, fun hz => ?_⟩))))
  refine lc_fm rs dRow Row.isP dRow q fun r _ s H C cl fp => ?_
  refine wt_ne (we_ix (we_var 1 rfl (we_int ⟨_, _, _, .tup, rfl, atI_zero, we_str ⟨_, scal_str, ?_, rfl, fun hp s H C cl fp => we_var 1 rfl ⟨rfl, rfl⟩⟩⟩)))
  rw [kd_no]; simp
def dQ (shown : List Str) (rs : List Row) : D := .tup [.tup (shown.map .str), .tup (rs.map dRow)]
def S_ovars : DSp := fun ds μ Q => ∃ shown rs, ds = [dQ shown rs] ∧ RowsOk rs ∧ (outer rs).length ≤ 20 ∧ ∀ ys : List Str, ys.Perm (varsIn (outer rs)) → Q (.lst (ys.map .str)) μ
theorem outer_vars_len {rs : List Row} (h : rs.length ≤ 20) : (varsIn (outer rs)).length < 64 := by
  have h1 := uniq_len ((outer rs).flatMap Row.vars)
  have h2 := flat_len (f := Row.vars) (outer rs) (n := 2) fun r hr => by
    have hp := (List.mem_filter.mp hr).2
    cases r with
    | p r => exact prVars_len r
    | no rs => cases hp
  have h3 : (outer rs).length ≤ rs.length := List.length_filter_le _ _
  show (uniq ((outer rs).flatMap Row.vars)).length < 64
  omega
theorem d_ovars (fr : Free mg) (hV : DefAt P w K mg base T 5 "variables_in" S_vin) (hO : DefAt P w K mg base T 1 "outer_rows" S_outer) (F : FnP K "outer_variables" (top 13) f fd) (g : mg "outer_variables" = some (.ref f)) : DefAt P w K mg base T 6 "outer_variables" S_ovars := by
  refine defAt_of F g (ps := ["question"]) (fun _ _ _ _ _ _ us hl => match us, hl with | [_], _ => rfl) (fn_okD F sc13 (fun ds μ Q ⟨_, _, h, _⟩ => by rw [h]; rfl) fun cdv A outer s H E ds μ Q hr ⟨sh, rs, e, ok, h20, q⟩ => ?_)
  subst e
  refine wss_one (ws_ret (we_sortedS rfl fr.sorted (we_call hV hr (wa_one (we_call hO hr (wa_one (we_ix (we_var 0 rfl (we_int ⟨_, _, _, .tup, rfl, rfl, _, rs, rfl, .tup, _, _, rfl, .lst, ok.filter _, varsIn (Ws.outer rs), .lst, outer_vars_len ok.1, ?_⟩)))))))))
  exact fun ys h1 _ => q ys h1
def Row.isB : Row → Bool
  | .p (.knot _ _) => true | .p (.any _) => true | .p (.tie _ _ _) => true | .p (.way _ _ _ _) => true | _ => false
def bindingD : List D := [.str "knot", .str "any", .str "tie", .str "way"]
theorem in_binding (r : Row) : inD (.str r.kd) bindingD = some r.isB := by
  cases r with
  | p r => cases r <;> rfl
  | no rs => rfl
def boundIn (rs : List Row) : List Str := varsIn (rs.filter Row.isB)
def S_bound : DSp := fun ds μ Q => ∃ d, ∃ rs : List Row, ds = [d] ∧ FSq d (rs.map dRow) ∧ RowsOk rs ∧ Q (.lst ((boundIn rs).map .str)) μ
theorem d_bound (hV : DefAt P w K mg base T 5 "variables_in" S_vin) (hB : GlobD K mg "BINDING" (.tup bindingD)) (F : FnP K "bound_in" (top 14) f fd) (g : mg "bound_in" = some (.ref f)) : DefAt P w K mg base T 6 "bound_in" S_bound := by
  refine defAt_of F g (ps := ["rows"]) (fun _ _ _ _ _ _ us hl => match us, hl with | [_], _ => rfl) (fn_okD F sc14 (fun ds μ Q ⟨_, _, h, _⟩ => by rw [h]; rfl) fun cdv A outer s H E ds μ Q hr ⟨d, rs, e, fs, ok, q⟩ => ?_)
  subst e
  refine wss_one (ws_ret (we_call hV hr (wa_one (we_lc 1 sc14.nd rfl (blkOk_by (by kernel_rfl)) (wi_seq (we_var 0 rfl ⟨_, fs, fun hz => ?_⟩))))))
  refine lc_fm rs dRow Row.isB dRow ⟨_, rs.filter Row.isB, rfl, .lst, ok.filter _, q⟩ fun r _ s H C cl fp => ?_
  exact wt_in rfl (we_ix (we_var 1 rfl (we_int ⟨_, _, _, .tup, rfl, atI_zero, we_globD hB ⟨_, _, .tup, in_binding r, rfl, rfl, fun hp s H C cl fp => we_var 1 rfl ⟨rfl, rfl⟩⟩⟩)))
/-- bindings: names to knots -/
abbrev Bind := List (Str × Int)
def dB (at_ : Bind) : D := .dic (at_.map fun p => (.inr p.1, .int p.2))
def hasV (at_ : Bind) (x : Str) : Bool := at_.any fun p => decide (p.1 = x)
theorem valD_has (at_ : Bind) (x : Str) : (valD (at_.map fun p => ((.inr p.1 : Key), D.int p.2)) (.inr x)).isSome = hasV at_ x := by
  induction at_ with
  | nil => rfl
  | cons p ps ih =>
    unfold valD at ih ⊢
    unfold hasV at ih ⊢
    rw [List.map_cons, List.find?_cons, List.any_cons]
    by_cases h : p.1 = x
    · simp [h]
    · have e1 : decide ((Sum.inr p.1 : Key) = .inr x) = false := by simp [h]
      have e2 : decide (p.1 = x) = false := by simp [h]
      simp only [e1, e2]
      simpa using ih
def S_alone : DSp := fun ds μ Q => ∃ (r : Row) (b : Bind), ds = [dRow r, dB b] ∧ r.fine ∧ Q (.lst ((r.vars.filter fun x => !hasV b x).map .str)) μ
theorem d_alone (hV : DefAt P w K mg base T 4 "variables_of" S_var) (F : FnP K "alone_in" (top 15) f fd) (g : mg "alone_in" = some (.ref f)) : DefAt P w K mg base T 5 "alone_in" S_alone := by
  refine defAt_of F g (ps := ["row", "outer"]) (fun _ _ _ _ _ _ us hl => match us, hl with | [_, _], _ => rfl) (fn_okD F sc15 (fun ds μ Q ⟨_, _, h, _⟩ => by rw [h]; rfl) fun cdv A outer s H E ds μ Q hr ⟨r, b, e, hf, q⟩ => ?_)
  subst e
  refine wss_one (ws_ret (we_lc 2 sc15.nd rfl (blkOk_by (by kernel_rfl)) (wi_seq (we_call hV hr (wa_one (we_var 0 rfl ⟨r, rfl, hf, _, .lst, fun hz => ?_⟩))))))
  refine lc_fm r.vars .str (fun x => !hasV b x) .str q fun x _ s H C cl fp => ?_
  exact wt_dnotin hr.u1 (we_var 2 rfl (we_var 1 rfl ⟨_, .inr x, .dic, rfl, by rw [valD_has], rfl, fun _ s H C cl fp => we_var 2 rfl ⟨rfl, rfl⟩⟩))
end
end Ws
/-! D2: is_whole, the methods of Web. -/
namespace Ws
open PySem PyProof.Rows PySem.Spec L2

/-! ### is_whole -/
def wholeD : D → Bool
  | .int _ => true
  | _ => false
/-- a thing whose type is told -/
inductive Told : D → Prop
  | of {d : D} {t : String} (h : tyD d = some t) : Told d
  | tup {ds : List D} : Told (.tup ds)
section
variable {P : Program} {w : World} {K : PySem.W.Frag} {mg : Str → Option Value} {base : Heap} {T : TabS} {f : Addr} {fd : FuncData}
def intB : D → Bool
  | .int _ => true | .bl _ => true | _ => false
def blB : D → Bool
  | .bl _ => true | _ => false
theorem told_ty {d : D} (h : Told d) : ∃ t, TyD d t ∧ PySem.W.kitOne K (.type t) (.type "int") = some (intB d) ∧ PySem.W.kitOne K (.type t) (.type "bool") = some (blB d) := by
  cases h with
  | tup => exact ⟨_, .tup, rfl, rfl⟩
  | of h =>
    cases d <;> simp only [tyD, Option.some.injEq, reduceCtorEq] at h
    all_goals exact ⟨_, .of rfl, rfl, rfl⟩
def S_whole : DSp := fun ds μ Q => ∃ d, ds = [d] ∧ Told d ∧ Q (.bl (wholeD d)) μ
theorem sc5 : FnScope ["thing"] ["thing"] (defScope (top 5)) := ⟨rfl, rfl, rfl, by decide +kernel, rfl, by decide +kernel, by decide +kernel⟩
theorem d_whole (fr : Free mg) (F : FnP K "is_whole" (top 5) f fd) (g : mg "is_whole" = some (.ref f)) : DefAt P w K mg base T 1 "is_whole" S_whole := by
  refine defAt_of F g (ps := ["thing"]) (fun _ _ _ _ _ _ us hl => match us, hl with | [_], _ => rfl) (fn_okD F sc5 (fun ds μ Q ⟨_, h, _⟩ => by rw [h]; rfl) fun cdv A outer s H E ds μ Q hr ⟨d, e, td, q⟩ => ?_)
  subst e
  obtain ⟨t, ty, k1, k2⟩ := told_ty (K := K) td
  refine wss_one (ws_ret (we_and (we_isi rfl fr.isinstance (we_var 0 rfl (we_ty fr.int (by decide +kernel) ⟨t, "int", _, ty, rfl, k1, _, rfl, ?_⟩)))))
  cases h1 : intB d with
  | true =>
    refine we_one (we_not (we_isi rfl fr.isinstance (we_var 0 rfl (we_ty fr.bool (by decide +kernel) ⟨t, "bool", _, ty, rfl, k2, _, rfl, ?_⟩))))
    cases d <;> first | exact q | cases h1
  | false => cases d <;> first | exact q | cases h1

/-! ### webs -/
structure Wb where
  knots : List (Int × Str × List (Str × D))
  ties : List (Int × Str × Int × Int × Int)
  outs : List (Int × List Int)
  ins : List (Int × List Int)
def wsD (ws : List (Str × D)) : D := .dic (ws.map fun p => (.inr p.1, p.2))
def ptD (p : Str × List (Str × D)) : D := .tup [.str p.1, wsD p.2]
def tieD (t : Str × Int × Int × Int) : D := .tup [.str t.1, .int t.2.1, .int t.2.2.1, .int t.2.2.2]
def ptsD (W : Wb) : List (Key × D) := W.knots.map fun p => (.inl p.1, ptD p.2)
def lksD (W : Wb) : List (Key × D) := W.ties.map fun t => (.inl t.1, tieD t.2)
def adjD (xs : List (Int × List Int)) : List (Key × D) := xs.map fun p => (.inl p.1, .lst (p.2.map .int))
def webF (W : Wb) : List (Str × D) := [("points", .dic (ptsD W)), ("links", .dic (lksD W)), ("going", .dic (adjD W.outs)), ("coming", .dic (adjD W.ins))]
/-- d is the web W -/
def WebAt (C : Addr) (μ : Mu) (d : D) (W : Wb) : Prop := ∃ a dx, d = .ref a ∧ μ a = some (.mi C dx (webF W))
/-- the class, seen from the fragment -/
structure WebC (K : PySem.W.Frag) (C : Addr) : Prop where
  cls : Cls K C
  points : NoAttr K C "points"
  links : NoAttr K C "links"
  going : NoAttr K C "going"
  coming : NoAttr K C "coming"
end
abbrev MfP (K : PySem.W.Frag) (x q : Str) (st : Stmt) (f : Addr) (fd : FuncData) : Prop := FunD K x q (defArgs st) (defBody st) (defScope st) [] [] f fd
theorem methAt_of {P : Program} {w : World} {K : PySem.W.Frag} {mg : Str → Option Value} {base : Heap} {T : TabS} {x qual m : Str} {params : Arguments} {body : List Stmt} {scope : Scope} {f C : Addr} {fd : FuncData} {ps : List Str} {k : Nat} {S : DSp}
    (F : FunD K x qual params body scope [] [] f fd) (c : Cls K C) (hm : Meth K C m f)
    (hb : ∀ (kV doc pm : Value) (an : Option Addr) (cdv ct : Value) (us : List Value), us.length = ps.length → bindArgs (PySem.W.fnOf x qual params body scope .none kV doc pm an cdv ct) ⟨us, []⟩ = pure (ps.zip us))
    (ok : FnOk P w K mg base CX0 k f fd ps (SpD K T S)) : MethAt P w K mg base T k C m S := ⟨f, fd, ps, c, hm, F.bindsN hb, ok⟩
def look {α : Type} (n : Int) (xs : List (Int × α)) : Option α := (xs.find? fun p => decide (p.1 = n)).map (·.2)
theorem valD_map {α : Type} (g : α → D) (n : Int) (xs : List (Int × α)) : valD (xs.map fun p => ((.inl p.1 : Key), g p.2)) (.inl n) = (look n xs).map g := by
  induction xs with
  | nil => rfl
  | cons p ps ih =>
    unfold valD look at ih ⊢
    rw [List.map_cons, List.find?_cons, List.find?_cons]
    by_cases h : p.1 = n
    · simp [h]
    · have e1 : decide ((Sum.inl p.1 : Key) = .inl n) = false := by simp [h]
      have e2 : decide (p.1 = n) = false := by simp [h]
      simp only [e1, e2]
      exact ih
section
variable {P : Program} {w : World} {K : PySem.W.Frag} {mg : Str → Option Value} {base : Heap} {T : TabS} {f C : Addr} {fd : FuncData}
theorem sm3 : FnScope ["self"] ["self"] (defScope (meth 3)) := ⟨rfl, rfl, rfl, by decide +kernel, rfl, by decide +kernel, by decide +kernel⟩
theorem sm5 : FnScope ["self", "knot"] ["self", "knot"] (defScope (meth 5)) := ⟨rfl, rfl, rfl, by decide +kernel, rfl, by decide +kernel, by decide +kernel⟩
theorem sm6 : FnScope ["self", "knot"] ["self", "knot"] (defScope (meth 6)) := ⟨rfl, rfl, rfl, by decide +kernel, rfl, by decide +kernel, by decide +kernel⟩
theorem sm7 : FnScope ["self", "knot"] ["self", "knot"] (defScope (meth 7)) := ⟨rfl, rfl, rfl, by decide +kernel, rfl, by decide +kernel, by decide +kernel⟩
theorem sm8 : FnScope ["self", "knot"] ["self", "knot"] (defScope (meth 8)) := ⟨rfl, rfl, rfl, by decide +kernel, rfl, by decide +kernel, by decide +kernel⟩
theorem sm9 : FnScope ["self", "knot"] ["self", "knot"] (defScope (meth 9)) := ⟨rfl, rfl, rfl, by decide +kernel, rfl, by decide +kernel, by decide +kernel⟩
theorem sm10 : FnScope ["self", "number"] ["self", "number"] (defScope (meth 10)) := ⟨rfl, rfl, rfl, by decide +kernel, rfl, by decide +kernel, by decide +kernel⟩
def S_knots (C : Addr) : DSp := fun ds μ Q => ∃ d W, ds = [d] ∧ WebAt C μ d W ∧ Q (.lst (W.knots.map fun p => .int p.1)) μ
theorem m_knots (fr : Free mg) (wc : WebC K C) (F : MfP K "knots" "Web.knots" (meth 3) f fd) (hm : Meth K C "knots" f) : MethAt P w K mg base T 1 C "knots" (S_knots C) := by
  refine methAt_of F wc.cls hm (ps := ["self"]) (fun _ _ _ _ _ _ us hl => match us, hl with | [_], _ => rfl) (fn_okD F sm3 (fun ds μ Q ⟨_, _, h, _⟩ => by rw [h]; rfl) fun cdv A outer s H E ds μ Q hr ⟨d, W, e, ⟨a, dx, ed, em⟩, q⟩ => ?_)
  subst e ed
  refine wss_one (ws_ret (we_listD rfl fr.list rfl (we_fld (we_var 0 rfl ⟨a, C, dx, _, _, rfl, em, wc.cls, wc.points, rfl, _, .dic, ?_⟩))))
  rw [ptsD, List.map_map]; exact q
def S_point (C : Addr) : DSp := fun ds μ Q => ∃ d W n p, ds = [d, .int n] ∧ WebAt C μ d W ∧ look n W.knots = some p ∧ Q (ptD p) μ
theorem pts_val {W : Wb} {n : Int} {p : Str × List (Str × D)} (h : look n W.knots = some p) : valD (ptsD W) (.inl n) = some (ptD p) := by
  unfold ptsD; rw [valD_map, h]; rfl
theorem m_point (fr : Free mg) (wc : WebC K C) (hW : DefAt P w K mg base T 1 "is_whole" S_whole) (F : MfP K "point" "Web.point" (meth 5) f fd) (hm : Meth K C "point" f) : MethAt P w K mg base T 2 C "point" (S_point C) := by
  refine methAt_of F wc.cls hm (ps := ["self", "knot"]) (fun _ _ _ _ _ _ us hl => match us, hl with | [_, _], _ => rfl) (fn_okD F sm5 (fun ds μ Q ⟨_, _, _, _, h, _⟩ => by rw [h]; rfl) fun cdv A outer s H E ds μ Q hr ⟨d, W, n, p, e, ⟨a, dx, ed, em⟩, hl, q⟩ => ?_)
  subst e ed
  refine wss_cons (ws_if (wt_w (wtw_or (wt_not (wt_val (we_call hW hr (wa_one (we_var 1 rfl ⟨_, rfl, .of rfl, _, rfl, ?_⟩))))))))
  refine wtw_or1 (wt_dnotin hr.u1 (we_var 1 rfl (we_fld (we_var 0 rfl ⟨a, C, dx, _, _, rfl, em, wc.cls, wc.points, rfl, _, .inl n, .dic, rfl, ?_⟩))))
  rw [pts_val hl]
  refine wss_nil (wss_one (ws_ret (we_dget hr.u1 (we_fld (we_var 0 rfl ⟨a, C, dx, _, _, rfl, em, wc.cls, wc.points, rfl, we_var 1 rfl ⟨_, .inl n, _, .dic, rfl, pts_val hl, q⟩⟩)))))
def S_kind (C : Addr) : DSp := fun ds μ Q => ∃ d W n p, ds = [d, .int n] ∧ WebAt C μ d W ∧ look n W.knots = some p ∧ Q (.str p.1) μ
theorem m_kind (wc : WebC K C) (hP : MethAt P w K mg base T 2 C "point" (S_point C)) (F : MfP K "kind" "Web.kind" (meth 6) f fd) (hm : Meth K C "kind" f) : MethAt P w K mg base T 3 C "kind" (S_kind C) := by
  refine methAt_of F wc.cls hm (ps := ["self", "knot"]) (fun _ _ _ _ _ _ us hl => match us, hl with | [_, _], _ => rfl) (fn_okD F sm6 (fun ds μ Q ⟨_, _, _, _, h, _⟩ => by rw [h]; rfl) fun cdv A outer s H E ds μ Q hr ⟨d, W, n, p, e, ⟨a, dx, ed, em⟩, hl, q⟩ => ?_)
  subst e ed
  exact wss_one (ws_ret (we_ix (we_meth hP hr (we_var 0 rfl ⟨a, dx, _, rfl, em, rfl, wa_one (we_var 1 rfl ⟨_, W, n, p, rfl, ⟨a, dx, rfl, em⟩, hl, we_int ⟨_, _, _, .tup, rfl, rfl, q⟩⟩)⟩))))
def S_worths (C : Addr) : DSp := fun ds μ Q => ∃ d W n p, ds = [d, .int n] ∧ WebAt C μ d W ∧ look n W.knots = some p ∧ Q (wsD p.2) μ
theorem m_worths (fr : Free mg) (wc : WebC K C) (hP : MethAt P w K mg base T 2 C "point" (S_point C)) (F : MfP K "worths" "Web.worths" (meth 7) f fd) (hm : Meth K C "worths" f) : MethAt P w K mg base T 3 C "worths" (S_worths C) := by
  refine methAt_of F wc.cls hm (ps := ["self", "knot"]) (fun _ _ _ _ _ _ us hl => match us, hl with | [_, _], _ => rfl) (fn_okD F sm7 (fun ds μ Q ⟨_, _, _, _, h, _⟩ => by rw [h]; rfl) fun cdv A outer s H E ds μ Q hr ⟨d, W, n, p, e, ⟨a, dx, ed, em⟩, hl, q⟩ => ?_)
  subst e ed
  exact wss_one (ws_ret (we_dictC rfl fr.dict (we_ix (we_meth hP hr (we_var 0 rfl ⟨a, dx, _, rfl, em, rfl, wa_one (we_var 1 rfl ⟨_, W, n, p, rfl, ⟨a, dx, rfl, em⟩, hl, we_int ⟨_, _, _, .tup, rfl, rfl, _, .dic, q⟩⟩)⟩)))))
/-- the ties of a knot by such a list -/
def adj (xs : List (Int × List Int)) (n : Int) : List Int := (look n xs).getD []
theorem adj_val (xs : List (Int × List Int)) (n : Int) : (valD (adjD xs) (.inl n)).getD (.lst []) = .lst ((adj xs n).map .int) := by
  unfold adjD adj; rw [valD_map (g := fun q : List Int => D.lst (q.map .int))]
  cases look n xs <;> rfl
def S_outs (C : Addr) : DSp := fun ds μ Q => ∃ d W n p, ds = [d, .int n] ∧ WebAt C μ d W ∧ look n W.knots = some p ∧ Q (.lst ((adj W.outs n).map .int)) μ
def S_ins (C : Addr) : DSp := fun ds μ Q => ∃ d W n p, ds = [d, .int n] ∧ WebAt C μ d W ∧ look n W.knots = some p ∧ Q (.lst ((adj W.ins n).map .int)) μ
theorem m_outs (fr : Free mg) (wc : WebC K C) (hP : MethAt P w K mg base T 2 C "point" (S_point C)) (F : MfP K "outs" "Web.outs" (meth 8) f fd) (hm : Meth K C "outs" f) : MethAt P w K mg base T 3 C "outs" (S_outs C) := by
  refine methAt_of F wc.cls hm (ps := ["self", "knot"]) (fun _ _ _ _ _ _ us hl => match us, hl with | [_, _], _ => rfl) (fn_okD F sm8 (fun ds μ Q ⟨_, _, _, _, h, _⟩ => by rw [h]; rfl) fun cdv A outer s H E ds μ Q hr ⟨d, W, n, p, e, ⟨a, dx, ed, em⟩, hl, q⟩ => ?_)
  subst e ed
  refine wss_cons (ws_expr (we_meth hP hr (we_var 0 rfl ⟨a, dx, _, rfl, em, rfl, wa_one (we_var 1 rfl ⟨_, W, n, p, rfl, ⟨a, dx, rfl, em⟩, hl, ?_⟩)⟩)))
  refine wss_one (ws_ret (we_list rfl fr.list (we_dget2 hr.u1 ⟨rfl, rfl, rfl, rfl⟩ (we_fld (we_var 0 rfl ⟨a, C, dx, _, _, rfl, em, wc.cls, wc.going, rfl, ⟨_, .dic⟩, we_var 1 rfl (we_lst (wa_nil ⟨Nat.zero_le _, _, .inl n, .dic, rfl, ?_⟩))⟩)))))
  rw [adj_val]; exact ⟨_, .lst, q⟩
theorem m_ins (fr : Free mg) (wc : WebC K C) (hP : MethAt P w K mg base T 2 C "point" (S_point C)) (F : MfP K "ins" "Web.ins" (meth 9) f fd) (hm : Meth K C "ins" f) : MethAt P w K mg base T 3 C "ins" (S_ins C) := by
  refine methAt_of F wc.cls hm (ps := ["self", "knot"]) (fun _ _ _ _ _ _ us hl => match us, hl with | [_, _], _ => rfl) (fn_okD F sm9 (fun ds μ Q ⟨_, _, _, _, h, _⟩ => by rw [h]; rfl) fun cdv A outer s H E ds μ Q hr ⟨d, W, n, p, e, ⟨a, dx, ed, em⟩, hl, q⟩ => ?_)
  subst e ed
  refine wss_cons (ws_expr (we_meth hP hr (we_var 0 rfl ⟨a, dx, _, rfl, em, rfl, wa_one (we_var 1 rfl ⟨_, W, n, p, rfl, ⟨a, dx, rfl, em⟩, hl, ?_⟩)⟩)))
  refine wss_one (ws_ret (we_list rfl fr.list (we_dget2 hr.u1 ⟨rfl, rfl, rfl, rfl⟩ (we_fld (we_var 0 rfl ⟨a, C, dx, _, _, rfl, em, wc.cls, wc.coming, rfl, ⟨_, .dic⟩, we_var 1 rfl (we_lst (wa_nil ⟨Nat.zero_le _, _, .inl n, .dic, rfl, ?_⟩))⟩)))))
  rw [adj_val]; exact ⟨_, .lst, q⟩
def S_tie (C : Addr) : DSp := fun ds μ Q => ∃ d W n t, ds = [d, .int n] ∧ WebAt C μ d W ∧ look n W.ties = some t ∧ Q (tieD t) μ
theorem lks_val {W : Wb} {n : Int} {t : Str × Int × Int × Int} (h : look n W.ties = some t) : valD (lksD W) (.inl n) = some (tieD t) := by
  unfold lksD; rw [valD_map, h]; rfl
theorem m_tie (fr : Free mg) (wc : WebC K C) (hW : DefAt P w K mg base T 1 "is_whole" S_whole) (F : MfP K "tie" "Web.tie" (meth 10) f fd) (hm : Meth K C "tie" f) : MethAt P w K mg base T 2 C "tie" (S_tie C) := by
  refine methAt_of F wc.cls hm (ps := ["self", "number"]) (fun _ _ _ _ _ _ us hl => match us, hl with | [_, _], _ => rfl) (fn_okD F sm10 (fun ds μ Q ⟨_, _, _, _, h, _⟩ => by rw [h]; rfl) fun cdv A outer s H E ds μ Q hr ⟨d, W, n, p, e, ⟨a, dx, ed, em⟩, hl, q⟩ => ?_)
  subst e ed
  refine wss_cons (ws_if (wt_w (wtw_or (wt_not (wt_val (we_call hW hr (wa_one (we_var 1 rfl ⟨_, rfl, .of rfl, _, rfl, ?_⟩))))))))
  refine wtw_or1 (wt_dnotin hr.u1 (we_var 1 rfl (we_fld (we_var 0 rfl ⟨a, C, dx, _, _, rfl, em, wc.cls, wc.links, rfl, _, .inl n, .dic, rfl, ?_⟩))))
  rw [lks_val hl]
  refine wss_nil (wss_one (ws_ret (we_dget hr.u1 (we_fld (we_var 0 rfl ⟨a, C, dx, _, _, rfl, em, wc.cls, wc.links, rfl, we_var 1 rfl ⟨_, .inl n, _, .dic, rfl, lks_val hl, q⟩⟩)))))
end
end Ws
/-! D3: the searches over ties (websplit.plain, first part). -/
namespace Ws
open PySem PyProof.Rows PySem.Spec L2

/-! ### each once; sorted -/
def uq {α : Type} [DecidableEq α] (xs : List α) : List α := xs.foldl (fun acc x => if x ∈ acc then acc else acc ++ [x]) []
section
variable {α : Type} [DecidableEq α]
theorem uq_snoc (xs : List α) (x : α) : uq (xs ++ [x]) = if x ∈ uq xs then uq xs else uq xs ++ [x] := by
  unfold uq; rw [List.foldl_append]; rfl
theorem snoc_ind {p : List α → Prop} (h0 : p []) (h1 : ∀ xs x, p xs → p (xs ++ [x])) (xs : List α) : p xs := by
  have : ∀ ys : List α, p ys.reverse := by
    intro ys
    induction ys with
    | nil => exact h0
    | cons y ys ih => rw [List.reverse_cons]; exact h1 _ _ ih
  have := this xs.reverse
  rwa [List.reverse_reverse] at this
theorem uq_mem1 {xs : List α} {x : α} (h : x ∈ uq xs) : x ∈ xs := by
  have key : ∀ (xs acc : List α), x ∈ xs.foldl (fun acc x => if x ∈ acc then acc else acc ++ [x]) acc → x ∈ acc ∨ x ∈ xs := by
    intro xs
    induction xs with
    | nil => intro acc h; exact .inl h
    | cons y ys ih =>
      intro acc h
      rw [List.foldl_cons] at h
      rcases ih _ h with h | h
      · split at h
        · exact .inl h
        · rcases List.mem_append.mp h with h | h
          · exact .inl h
          · exact .inr (by rw [List.mem_singleton.mp h]; exact List.mem_cons_self)
      · exact .inr (List.mem_cons_of_mem _ h)
  exact (key xs [] h).resolve_left (by simp)
theorem uq_mem (xs : List α) (y : α) : y ∈ uq xs ↔ y ∈ xs := by
  induction xs using snoc_ind with
  | h0 => simp [uq]
  | h1 xs x ih =>
    rw [uq_snoc]
    split
    · rename_i h
      rw [List.mem_append, ih, List.mem_singleton]
      exact ⟨.inl, fun z => z.elim id fun e => by rw [e]; exact uq_mem1 h⟩
    · rw [List.mem_append, List.mem_append, ih]
theorem uq_nodup (xs : List α) : (uq xs).Nodup := by
  induction xs using snoc_ind with
  | h0 => simp [uq]
  | h1 xs x ih =>
    rw [uq_snoc]
    split
    · exact ih
    · rename_i h
      rw [List.nodup_append]
      exact ⟨ih, by simp, fun a ha b hb => by rw [List.mem_singleton.mp hb]; rintro rfl; exact h ha⟩
theorem uq_len (xs : List α) : (uq xs).length ≤ xs.length := by
  induction xs using snoc_ind with
  | h0 => simp [uq]
  | h1 xs x ih =>
    rw [uq_snoc]; split <;> simp <;> omega
theorem nodup_sub_len : ∀ (l m : List α), l.Nodup → (∀ x ∈ l, x ∈ m) → l.length ≤ m.length
  | [], _, _, _ => Nat.zero_le _
  | x :: l, m, hn, hs => by
    obtain ⟨h1, h2⟩ := List.nodup_cons.mp hn
    have hx : x ∈ m := hs x List.mem_cons_self
    have := nodup_sub_len l (m.erase x) h2 fun y hy => (List.mem_erase_of_ne (fun e => h1 (by rw [← e]; exact hy))).2 (hs y (List.mem_cons_of_mem _ hy))
    have e := List.length_erase_of_mem hx
    have hp : 0 < m.length := List.length_pos_of_mem hx
    rw [List.length_cons]; omega
end
/-- insertion -/
def insI (x : Int) : List Int → List Int
  | [] => [x]
  | y :: ys => if x ≤ y then x :: y :: ys else y :: insI x ys
def srt (xs : List Int) : List Int := xs.foldr insI []
theorem insI_perm (x : Int) : ∀ ys : List Int, (insI x ys).Perm (x :: ys)
  | [] => List.Perm.refl _
  | y :: ys => by
    unfold insI; split
    · exact List.Perm.refl _
    · exact (List.Perm.cons y (insI_perm x ys)).trans (List.Perm.swap x y ys)
theorem srt_perm : ∀ xs : List Int, (srt xs).Perm xs
  | [] => List.Perm.refl _
  | x :: xs => (insI_perm x _).trans (List.Perm.cons x (srt_perm xs))
theorem insI_sorted (x : Int) : ∀ {ys : List Int}, ys.Pairwise (· ≤ ·) → (insI x ys).Pairwise (· ≤ ·)
  | [], _ => by simp [insI]
  | y :: ys, h => by
    obtain ⟨h1, h2⟩ := List.pairwise_cons.mp h
    unfold insI; split
    · rename_i hx
      exact List.pairwise_cons.mpr ⟨fun z hz => (List.mem_cons.mp hz).elim (fun e => by rw [e]; exact hx) fun e => Int.le_trans hx (h1 z e), h⟩
    · rename_i hx
      refine List.pairwise_cons.mpr ⟨fun z hz => ?_, insI_sorted x h2⟩
      rcases List.mem_cons.mp ((insI_perm x ys).mem_iff.mp hz) with e | e
      · rw [e]; omega
      · exact h1 z e
theorem srt_sorted : ∀ xs : List Int, (srt xs).Pairwise (· ≤ ·)
  | [] => List.Pairwise.nil
  | x :: xs => insI_sorted x (srt_sorted xs)
theorem sorted_uniq : ∀ {xs ys : List Int}, xs.Perm ys → xs.Pairwise (· ≤ ·) → ys.Pairwise (· ≤ ·) → xs = ys
  | [], ys, p, _, _ => (List.nil_perm.mp p).symm ▸ rfl
  | x :: xs, [], p, _, _ => absurd p.length_eq (by simp)
  | x :: xs, y :: ys, p, h1, h2 => by
    obtain ⟨a1, a2⟩ := List.pairwise_cons.mp h1
    obtain ⟨b1, b2⟩ := List.pairwise_cons.mp h2
    have e : x = y := by
      have hx : x ∈ y :: ys := p.mem_iff.mp List.mem_cons_self
      have hy : y ∈ x :: xs := p.mem_iff.mpr List.mem_cons_self
      rcases List.mem_cons.mp hx with e | e
      · exact e
      · rcases List.mem_cons.mp hy with e' | e'
        · exact e'.symm
        · exact Int.le_antisymm (a1 y e') (b1 x e)
    subst e
    rw [sorted_uniq (List.Perm.cons_inv p) a2 b2]
theorem srt_eq {xs ys : List Int} (p : ys.Perm xs) (h : ys.Pairwise (· ≤ ·)) : ys = srt xs := sorted_uniq (p.trans (srt_perm xs).symm) h (srt_sorted xs)
theorem srt_mem (xs : List Int) (x : Int) : x ∈ srt xs ↔ x ∈ xs := (srt_perm xs).mem_iff
theorem perm_of : ∀ {ys zs : List Int}, ys.Nodup → zs.Nodup → (∀ k, k ∈ ys ↔ k ∈ zs) → ys.Perm zs
  | [], zs, _, _, m => by
    cases zs with
    | nil => exact List.Perm.refl _
    | cons z zs => exact absurd ((m z).mpr List.mem_cons_self) (by simp)
  | y :: ys, zs, n1, n2, m => by
    obtain ⟨h1, h2⟩ := List.nodup_cons.mp n1
    have hy : y ∈ zs := (m y).mp List.mem_cons_self
    have p := List.perm_cons_erase hy
    have n3 : (y :: zs.erase y).Nodup := p.nodup_iff.mp n2
    obtain ⟨h3, h4⟩ := List.nodup_cons.mp n3
    refine (List.Perm.cons y (perm_of h2 h4 fun k => ?_)).trans p.symm
    constructor
    · intro hk
      have hne : k ≠ y := fun e => h1 (by rw [← e]; exact hk)
      exact (List.mem_erase_of_ne hne).mpr ((m k).mp (List.mem_cons_of_mem _ hk))
    · intro hk
      have hne : k ≠ y := by rintro rfl; exact h3 hk
      exact (List.mem_cons.mp ((m k).mpr ((List.mem_erase_of_ne hne).mp hk))).resolve_left hne
/-- .. strictly -/
theorem srtset_eq {xs ys : List Int} (h : ys.Pairwise (· < ·)) (m : ∀ k, k ∈ ys ↔ k ∈ xs) : ys = srt (uq xs) := by
  refine srt_eq ?_ (h.imp fun q => Int.le_of_lt q)
  have n1 : ys.Nodup := h.imp fun q => by omega
  refine perm_of n1 (uq_nodup xs) fun k => (m k).trans (uq_mem xs k).symm
def dicI (xs : List Int) : List (Key × D) := xs.map fun x => (.inl x, .bl true)
theorem putD_dicI (xs : List Int) (x : Int) : putD (dicI xs) (.inl x) (.bl true) = dicI (if x ∈ xs then xs else xs ++ [x]) := by
  unfold putD dicI
  have e : ((xs.map fun x => ((Sum.inl x : Key), D.bl true)).any fun kv => decide (kv.1 = .inl x)) = decide (x ∈ xs) := by
    induction xs with
    | nil => simp
    | cons y ys ih => rw [List.map_cons, List.any_cons, ih]; by_cases h : y = x <;> simp [h, eq_comm]
  rw [e]
  by_cases h : x ∈ xs
  · rw [if_pos (by simpa using h), if_pos h, List.map_map]
    refine List.map_congr_left fun y _ => ?_
    show (if (Sum.inl y : Key) = .inl x then _ else _) = _
    split <;> rfl
  · rw [if_neg (by simpa using h), if_neg h]; simp

/-! ### webs that are whole -/
structure WbOk (W : Wb) : Prop where
  few : W.knots.length ≤ 4
  kn : (W.knots.map (·.1)).Nodup
  ties : W.ties.length ≤ 10
  outs : ∀ k n, n ∈ adj W.outs k → ∃ t, look n W.ties = some t ∧ t.2.1 = k
  ins : ∀ k n, n ∈ adj W.ins k → ∃ t, look n W.ties = some t ∧ t.2.2.1 = k
  all : ∀ n t, look n W.ties = some t → n ∈ adj W.outs t.2.1 ∧ n ∈ adj W.ins t.2.2.1
  ends : ∀ n t, look n W.ties = some t → (∃ p, look t.2.1 W.knots = some p) ∧ ∃ p, look t.2.2.1 W.knots = some p
  olen : ∀ k, (adj W.outs k).length ≤ 10
  ilen : ∀ k, (adj W.ins k).length ≤ 10
  wo : ∀ p ∈ W.knots, ∀ q ∈ p.2.2, IsWo q.2
/-- k is a knot -/
def IsK (W : Wb) (k : Int) : Prop := ∃ p, look k W.knots = some p
theorem look_mem {α : Type} {n : Int} {xs : List (Int × α)} {p : α} (h : look n xs = some p) : (n, p) ∈ xs := by
  unfold look at h
  cases e : xs.find? (fun p => decide (p.1 = n)) with
  | none => rw [e] at h; cases h
  | some q =>
    rw [e] at h; cases h
    have h1 := List.mem_of_find?_eq_some e
    have h2 := List.find?_some e
    simp at h2
    rw [← h2]; exact h1
theorem isK_mem {W : Wb} {k : Int} (h : IsK W k) : k ∈ W.knots.map (·.1) := by
  obtain ⟨p, h⟩ := h
  exact List.mem_map.mpr ⟨_, look_mem h, rfl⟩
theorem few_knots {W : Wb} (ok : WbOk W) {xs : List Int} (hn : xs.Nodup) (h : ∀ x ∈ xs, IsK W x) : xs.length ≤ 4 := by
  have := nodup_sub_len xs (W.knots.map (·.1)) hn fun x hx => isK_mem (h x hx)
  rw [List.length_map] at this
  exact Nat.le_trans this ok.few
/-- the far ends of these ties, of the kind -/
def endFar (W : Wb) (kind : Str) (n : Int) : List Int := match look n W.ties with
  | some t => if t.1 = kind then [t.2.2.1] else []
  | none => []
def endNear (W : Wb) (kind : Str) (n : Int) : List Int := match look n W.ties with
  | some t => if t.1 = kind then [t.2.1] else []
  | none => []
def farTies (W : Wb) (ks : List Int) (kind : Str) : List Int := srt (uq (ks.flatMap fun k => (adj W.outs k).flatMap (endFar W kind)))
def nearTies (W : Wb) (ks : List Int) (kind : Str) : List Int := srt (uq (ks.flatMap fun k => (adj W.ins k).flatMap (endNear W kind)))
theorem endFar_isK {W : Wb} (ok : WbOk W) {kind : Str} {n x : Int} (h : x ∈ endFar W kind n) : IsK W x := by
  unfold endFar at h
  split at h
  · rename_i t ht
    split at h
    · rw [List.mem_singleton.mp h]; exact (ok.ends n t ht).2
    · cases h
  · cases h
theorem endNear_isK {W : Wb} (ok : WbOk W) {kind : Str} {n x : Int} (h : x ∈ endNear W kind n) : IsK W x := by
  unfold endNear at h
  split at h
  · rename_i t ht
    split at h
    · rw [List.mem_singleton.mp h]; exact (ok.ends n t ht).1
    · cases h
  · cases h
theorem farTies_isK {W : Wb} (ok : WbOk W) {kind : Str} {ks : List Int} {x : Int} (h : x ∈ farTies W ks kind) : IsK W x := by
  unfold farTies at h
  rw [srt_mem, uq_mem, List.mem_flatMap] at h
  obtain ⟨k, _, h⟩ := h
  obtain ⟨n, _, h⟩ := List.mem_flatMap.mp h
  exact endFar_isK ok h
theorem nearTies_isK {W : Wb} (ok : WbOk W) {kind : Str} {ks : List Int} {x : Int} (h : x ∈ nearTies W ks kind) : IsK W x := by
  unfold nearTies at h
  rw [srt_mem, uq_mem, List.mem_flatMap] at h
  obtain ⟨k, _, h⟩ := h
  obtain ⟨n, _, h⟩ := List.mem_flatMap.mp h
  exact endNear_isK ok h
theorem srt_len (xs : List Int) : (srt xs).length = xs.length := (srt_perm xs).length_eq

section
variable {P : Program} {w : World} {K : PySem.W.Frag} {mg : Str → Option Value} {base : Heap} {T : TabS} {f C : Addr} {fd : FuncData}
--BEGIN TIES
theorem sc19 : FnScope ["web", "knots", "kind", "found", "knot", "number", "its", "start", "end", "weight"] ["web", "knots", "kind"] (defScope (top 19)) := ⟨rfl, rfl, rfl, by decide +kernel, rfl, by decide +kernel, by decide +kernel⟩
def S_farT (C : Addr) : DSp := fun ds μ Q => ∃ d d2 W ks kind, ds = [d, d2, .str kind] ∧ WebAt C μ d W ∧ WbOk W ∧ FSq d2 (ks.map .int) ∧ (∀ k ∈ ks, IsK W k) ∧ Q (.lst ((farTies W ks kind).map .int)) μ
theorem d_farT (fr : Free mg) (hO : MethAt P w K mg base T 3 C "outs" (S_outs C)) (hT : MethAt P w K mg base T 2 C "tie" (S_tie C)) (F : FnP K "far_by_ties" (top 19) f fd) (g : mg "far_by_ties" = some (.ref f)) : DefAt P w K mg base T 4 "far_by_ties" (S_farT C) := by
  refine defAt_of F g (ps := ["web", "knots", "kind"]) (fun _ _ _ _ _ _ us hl => match us, hl with | [_, _, _], _ => rfl) (fn_okD F sc19 (fun ds μ Q ⟨_, _, _, _, _, h, _⟩ => by rw [h]; rfl) fun cdv A outer s H E ds μ Q hr ⟨d, d2, W, ks, kind, e, ⟨a, dx, ed, em⟩, ok, fs, hk, q⟩ => ?_)
  subst e ed
  refine wss_cons (ws_set 3 sc19.nd (we_dict0M fun b n => ?_))
  have em' : ∀ o, mset μ b o a = some (.mi C dx (webF W)) := fun o => by rw [mset_ne (by rintro rfl; rw [n] at em; cases em)]; exact em
  have bound : ∀ es : List Int, (∀ x ∈ es, IsK W x) → (dicI (uq es)).length < sizeLine := fun es h => by
    have := few_knots ok (uq_nodup es) fun x hx => h x ((uq_mem es x).mp hx)
    rw [dicI, List.length_map, sizeLine_eq]; omega
  have isk : ∀ (j : Nat), ∀ x ∈ (ks.take j).flatMap (fun k => (adj W.outs k).flatMap (endFar W kind)), IsK W x := fun j x hx => by
    obtain ⟨k, _, h⟩ := List.mem_flatMap.mp hx
    obtain ⟨n, _, h⟩ := List.mem_flatMap.mp h
    exact endFar_isK ok h
  refine wss_cons (ws_for (ks := [4]) rfl (wi_seq (we_var 1 rfl ⟨_, fs, fun hz => ⟨fun j G' μ' => (∃ o4 o5 o6 o7 o8 o9, G' = [some (.ref a), some d2, some (.str kind), some (.ref b), o4, o5, o6, o7, o8, o9]) ∧ μ' = mset μ b (.md (dicI (uq ((ks.take j).flatMap fun k => (adj W.outs k).flatMap (endFar W kind))))), ⟨⟨_, _, _, _, _, _, rfl⟩, rfl⟩, ?_, ?_⟩⟩)))
  · rintro j d1 _ _ ed ⟨⟨o4, o5, o6, o7, o8, o9, rfl⟩, rfl⟩
    rw [List.getElem?_map] at ed
    cases ex : ks[j]? with
    | none => rw [ex] at ed; cases ed
    | some k =>
      rw [ex] at ed; cases ed
      obtain ⟨p, hp⟩ := hk k (List.mem_of_getElem? ex)
      have et : (ks.take (j + 1)).flatMap (fun k => (adj W.outs k).flatMap (endFar W kind)) = (ks.take j).flatMap (fun k => (adj W.outs k).flatMap (endFar W kind)) ++ (adj W.outs k).flatMap (endFar W kind) := by
        rw [List.take_add_one, ex, Option.toList, List.flatMap_append]; simp
      refine wg_name 4 sc19.nd (wss_one (ws_for (ks := [5]) rfl (wi_seq (we_meth hO hr (we_var 0 rfl ⟨a, dx, _, rfl, em' _, rfl, wa_one (we_var 4 rfl ⟨_, W, k, p, rfl, ⟨a, dx, rfl, em' _⟩, hp, _, .lst, fun hz2 => ⟨fun m G' μ' =>
        (∃ o5 o6 o7 o8 o9, G' = [some (.ref a), some d2, some (.str kind), some (.ref b), some (.int k), o5, o6, o7, o8, o9]) ∧ μ' = mset μ b (.md (dicI (uq ((ks.take j).flatMap (fun k => (adj W.outs k).flatMap (endFar W kind)) ++ ((adj W.outs k).take m).flatMap (endFar W kind))))), ⟨⟨_, _, _, _, _, rfl⟩, by simp⟩, ?_, ?_⟩⟩)⟩)))))
      · rintro m d3 _ _ ed3 ⟨⟨o5, o6, o7, o8, o9, rfl⟩, rfl⟩
        rw [List.getElem?_map] at ed3
        cases ey : (adj W.outs k)[m]? with
        | none => rw [ey] at ed3; cases ed3
        | some nn =>
          rw [ey] at ed3; cases ed3
          obtain ⟨t, ht, hte⟩ := ok.outs k nn (List.mem_of_getElem? ey)
          have et3 : ((adj W.outs k).take (m + 1)).flatMap (endFar W kind) = ((adj W.outs k).take m).flatMap (endFar W kind) ++ if t.1 = kind then [t.2.2.1] else [] := by
            rw [List.take_add_one, ey, Option.toList, List.flatMap_append]
            congr 1
            rw [List.flatMap_cons, List.flatMap_nil, List.append_nil]
            unfold endFar; rw [ht]
          refine wg_name 5 sc19.nd (wss_cons (ws_asg (ks := [6, 7, 8, 9]) (we_meth hT hr (we_var 0 rfl ⟨a, dx, _, rfl, em' _, rfl, wa_one (we_var 5 rfl ⟨_, W, nn, t, rfl, ⟨a, dx, rfl, em' _⟩, ht, ?_⟩)⟩))))
          refine wg_tup rfl ⟨_, rfl, rfl, wgs_cons (wg_name 6 sc19.nd (wgs_cons (wg_name 7 sc19.nd (wgs_cons (wg_name 8 sc19.nd (wgs_cons (wg_name 9 sc19.nd (wgs_nil ?_)))))))) ⟩
          refine wss_one (ws_if (wt_eq (we_var 6 rfl (we_var 2 rfl ⟨_, scal_str, ?_⟩))))
          by_cases hq : t.1 = kind
          · rw [if_pos hq] at et3
            rw [decide_eq_true hq, if_pos rfl]
            refine wss_one (ws_dput hr.u1 (we_bl (we_var 3 rfl (we_var 8 rfl ⟨b, _, .inl t.2.2.1, rfl, rfl, mset_same, bound _ ?_, ⟨⟨_, _, _, _, _, rfl⟩, ?_⟩⟩))))
            · intro x hx
              rcases List.mem_append.mp hx with hx | hx
              · exact isk j x hx
              · obtain ⟨n2, _, h2⟩ := List.mem_flatMap.mp hx
                exact endFar_isK ok h2
            · rw [mset_mset, putD_dicI, et3, ← List.append_assoc, uq_snoc]
          · rw [if_neg hq] at et3
            rw [decide_eq_false hq, if_neg (by simp)]
            refine wss_nil ⟨⟨_, _, _, _, _, rfl⟩, ?_⟩
            rw [et3, List.append_nil]
      · rintro _ _ ⟨⟨o5, o6, o7, o8, o9, rfl⟩, rfl⟩
        refine ⟨⟨_, _, _, _, _, _, rfl⟩, ?_⟩
        rw [List.length_map, List.take_length, et]
  · rintro _ _ ⟨⟨o4, o5, o6, o7, o8, o9, rfl⟩, rfl⟩
    rw [List.length_map, List.take_length]
    refine wss_one (ws_ret (we_post (we_sortedDI rfl fr.sorted rfl (we_var 3 rfl ⟨_, uq (ks.flatMap fun k => (adj W.outs k).flatMap (endFar W kind)), .md mset_same, by simp [dicI], ?_, fun ys h1 h2 => ⟨μ, (MSame.refl μ).new n, ?_⟩⟩))))
    · have := few_knots ok (uq_nodup _) fun x hx => isk ks.length x (by rw [List.take_length]; exact (uq_mem _ x).mp hx)
      omega
    · rw [srt_eq h1 h2]; exact q

theorem sc20 : FnScope ["web", "knots", "kind", "found", "knot", "number", "its", "start", "end", "weight"] ["web", "knots", "kind"] (defScope (top 20)) := ⟨rfl, rfl, rfl, by decide +kernel, rfl, by decide +kernel, by decide +kernel⟩
def S_nearT (C : Addr) : DSp := fun ds μ Q => ∃ d d2 W ks kind, ds = [d, d2, .str kind] ∧ WebAt C μ d W ∧ WbOk W ∧ FSq d2 (ks.map .int) ∧ (∀ k ∈ ks, IsK W k) ∧ Q (.lst ((nearTies W ks kind).map .int)) μ
theorem d_nearT (fr : Free mg) (hO : MethAt P w K mg base T 3 C "ins" (S_ins C)) (hT : MethAt P w K mg base T 2 C "tie" (S_tie C)) (F : FnP K "near_by_ties" (top 20) f fd) (g : mg "near_by_ties" = some (.ref f)) : DefAt P w K mg base T 4 "near_by_ties" (S_nearT C) := by
  refine defAt_of F g (ps := ["web", "knots", "kind"]) (fun _ _ _ _ _ _ us hl => match us, hl with | [_, _, _], _ => rfl) (fn_okD F sc20 (fun ds μ Q ⟨_, _, _, _, _, h, _⟩ => by rw [h]; rfl) fun cdv A outer s H E ds μ Q hr ⟨d, d2, W, ks, kind, e, ⟨a, dx, ed, em⟩, ok, fs, hk, q⟩ => ?_)
  subst e ed
  refine wss_cons (ws_set 3 sc20.nd (we_dict0M fun b n => ?_))
  have em' : ∀ o, mset μ b o a = some (.mi C dx (webF W)) := fun o => by rw [mset_ne (by rintro rfl; rw [n] at em; cases em)]; exact em
  have bound : ∀ es : List Int, (∀ x ∈ es, IsK W x) → (dicI (uq es)).length < sizeLine := fun es h => by
    have := few_knots ok (uq_nodup es) fun x hx => h x ((uq_mem es x).mp hx)
    rw [dicI, List.length_map, sizeLine_eq]; omega
  have isk : ∀ (j : Nat), ∀ x ∈ (ks.take j).flatMap (fun k => (adj W.ins k).flatMap (endNear W kind)), IsK W x := fun j x hx => by
    obtain ⟨k, _, h⟩ := List.mem_flatMap.mp hx
    obtain ⟨n, _, h⟩ := List.mem_flatMap.mp h
    exact endNear_isK ok h
  refine wss_cons (ws_for (ks := [4]) rfl (wi_seq (we_var 1 rfl ⟨_, fs, fun hz => ⟨fun j G' μ' => (∃ o4 o5 o6 o7 o8 o9, G' = [some (.ref a), some d2, some (.str kind), some (.ref b), o4, o5, o6, o7, o8, o9]) ∧ μ' = mset μ b (.md (dicI (uq ((ks.take j).flatMap fun k => (adj W.ins k).flatMap (endNear W kind))))), ⟨⟨_, _, _, _, _, _, rfl⟩, rfl⟩, ?_, ?_⟩⟩)))
  · rintro j d1 _ _ ed ⟨⟨o4, o5, o6, o7, o8, o9, rfl⟩, rfl⟩
    rw [List.getElem?_map] at ed
    cases ex : ks[j]? with
    | none => rw [ex] at ed; cases ed
    | some k =>
      rw [ex] at ed; cases ed
      obtain ⟨p, hp⟩ := hk k (List.mem_of_getElem? ex)
      have et : (ks.take (j + 1)).flatMap (fun k => (adj W.ins k).flatMap (endNear W kind)) = (ks.take j).flatMap (fun k => (adj W.ins k).flatMap (endNear W kind)) ++ (adj W.ins k).flatMap (endNear W kind) := by
        rw [List.take_add_one, ex, Option.toList, List.flatMap_append]; simp
      refine wg_name 4 sc20.nd (wss_one (ws_for (ks := [5]) rfl (wi_seq (we_meth hO hr (we_var 0 rfl ⟨a, dx, _, rfl, em' _, rfl, wa_one (we_var 4 rfl ⟨_, W, k, p, rfl, ⟨a, dx, rfl, em' _⟩, hp, _, .lst, fun hz2 => ⟨fun m G' μ' =>
        (∃ o5 o6 o7 o8 o9, G' = [some (.ref a), some d2, some (.str kind), some (.ref b), some (.int k), o5, o6, o7, o8, o9]) ∧ μ' = mset μ b (.md (dicI (uq ((ks.take j).flatMap (fun k => (adj W.ins k).flatMap (endNear W kind)) ++ ((adj W.ins k).take m).flatMap (endNear W kind))))), ⟨⟨_, _, _, _, _, rfl⟩, by simp⟩, ?_, ?_⟩⟩)⟩)))))
      · rintro m d3 _ _ ed3 ⟨⟨o5, o6, o7, o8, o9, rfl⟩, rfl⟩
        rw [List.getElem?_map] at ed3
        cases ey : (adj W.ins k)[m]? with
        | none => rw [ey] at ed3; cases ed3
        | some nn =>
          rw [ey] at ed3; cases ed3
          obtain ⟨t, ht, hte⟩ := ok.ins k nn (List.mem_of_getElem? ey)
          have et3 : ((adj W.ins k).take (m + 1)).flatMap (endNear W kind) = ((adj W.ins k).take m).flatMap (endNear W kind) ++ if t.1 = kind then [t.2.1] else [] := by
            rw [List.take_add_one, ey, Option.toList, List.flatMap_append]
            congr 1
            rw [List.flatMap_cons, List.flatMap_nil, List.append_nil]
            unfold endNear; rw [ht]
          refine wg_name 5 sc20.nd (wss_cons (ws_asg (ks := [6, 7, 8, 9]) (we_meth hT hr (we_var 0 rfl ⟨a, dx, _, rfl, em' _, rfl, wa_one (we_var 5 rfl ⟨_, W, nn, t, rfl, ⟨a, dx, rfl, em' _⟩, ht, ?_⟩)⟩))))
          refine wg_tup rfl ⟨_, rfl, rfl, wgs_cons (wg_name 6 sc20.nd (wgs_cons (wg_name 7 sc20.nd (wgs_cons (wg_name 8 sc20.nd (wgs_cons (wg_name 9 sc20.nd (wgs_nil ?_)))))))) ⟩
          refine wss_one (ws_if (wt_eq (we_var 6 rfl (we_var 2 rfl ⟨_, scal_str, ?_⟩))))
          by_cases hq : t.1 = kind
          · rw [if_pos hq] at et3
            rw [decide_eq_true hq, if_pos rfl]
            refine wss_one (ws_dput hr.u1 (we_bl (we_var 3 rfl (we_var 7 rfl ⟨b, _, .inl t.2.1, rfl, rfl, mset_same, bound _ ?_, ⟨⟨_, _, _, _, _, rfl⟩, ?_⟩⟩))))
            · intro x hx
              rcases List.mem_append.mp hx with hx | hx
              · exact isk j x hx
              · obtain ⟨n2, _, h2⟩ := List.mem_flatMap.mp hx
                exact endNear_isK ok h2
            · rw [mset_mset, putD_dicI, et3, ← List.append_assoc, uq_snoc]
          · rw [if_neg hq] at et3
            rw [decide_eq_false hq, if_neg (by simp)]
            refine wss_nil ⟨⟨_, _, _, _, _, rfl⟩, ?_⟩
            rw [et3, List.append_nil]
      · rintro _ _ ⟨⟨o5, o6, o7, o8, o9, rfl⟩, rfl⟩
        refine ⟨⟨_, _, _, _, _, _, rfl⟩, ?_⟩
        rw [List.length_map, List.take_length, et]
  · rintro _ _ ⟨⟨o4, o5, o6, o7, o8, o9, rfl⟩, rfl⟩
    rw [List.length_map, List.take_length]
    refine wss_one (ws_ret (we_post (we_sortedDI rfl fr.sorted rfl (we_var 3 rfl ⟨_, uq (ks.flatMap fun k => (adj W.ins k).flatMap (endNear W kind)), .md mset_same, by simp [dicI], ?_, fun ys h1 h2 => ⟨μ, (MSame.refl μ).new n, ?_⟩⟩))))
    · have := few_knots ok (uq_nodup _) fun x hx => isk ks.length x (by rw [List.take_length]; exact (uq_mem _ x).mp hx)
      omega
    · rw [srt_eq h1 h2]; exact q
/-! ### ways -/
def wayFar (W : Wb) (kind : Str) : Int → Nat → List Int
  | k, 0 => [k]
  | k, n + 1 => farTies W (wayFar W kind k n) kind
def wayNear (W : Wb) (kind : Str) : Int → Nat → List Int
  | k, 0 => [k]
  | k, n + 1 => nearTies W (wayNear W kind k n) kind
def farWay (W : Wb) (k : Int) (kind : Str) (m : Nat) : List Int := srt (uq ((List.range m).flatMap fun j => wayFar W kind k (j + 1)))
def nearWay (W : Wb) (k : Int) (kind : Str) (m : Nat) : List Int := srt (uq ((List.range m).flatMap fun j => wayNear W kind k (j + 1)))
theorem farTies_len {W : Wb} (ok : WbOk W) {ks : List Int} {kind : Str} : (farTies W ks kind).length ≤ 4 := by
  have n : (farTies W ks kind).Nodup := (srt_perm _).nodup_iff.mpr (uq_nodup _)
  exact few_knots ok n fun x hx => farTies_isK ok hx
theorem nearTies_len {W : Wb} (ok : WbOk W) {ks : List Int} {kind : Str} : (nearTies W ks kind).length ≤ 4 := by
  have n : (nearTies W ks kind).Nodup := (srt_perm _).nodup_iff.mpr (uq_nodup _)
  exact few_knots ok n fun x hx => nearTies_isK ok hx
--BEGIN WAY
theorem sc21 : FnScope ["web", "knot", "kind", "most", "found", "line", "turn"] ["web", "knot", "kind", "most"] (defScope (top 21)) := ⟨rfl, rfl, rfl, by decide +kernel, rfl, by decide +kernel, by decide +kernel⟩
theorem wayFar_isK {W : Wb} (ok : WbOk W) {kind : Str} {k : Int} (hk : IsK W k) : ∀ n, ∀ x ∈ wayFar W kind k n, IsK W x
  | 0, x, hx => by rw [List.mem_singleton.mp hx]; exact hk
  | n + 1, x, hx => farTies_isK ok hx
theorem ways_len {W : Wb} (ok : WbOk W) {kind : Str} {k : Int} : ∀ m : Nat, ((List.range m).flatMap fun j => wayFar W kind k (j + 1)).length ≤ 4 * m
  | 0 => by simp
  | m + 1 => by
    rw [List.range_succ, List.flatMap_append, List.length_append]
    have h1 := ways_len ok (kind := kind) (k := k) m
    have h2 : (farTies W (wayFar W kind k m) kind).length ≤ 4 := farTies_len ok
    have e : ([m].flatMap fun j => wayFar W kind k (j + 1)) = farTies W (wayFar W kind k m) kind := by rw [List.flatMap_cons, List.flatMap_nil, List.append_nil]; rfl
    rw [e]; omega
def S_farW (C : Addr) : DSp := fun ds μ Q => ∃ d W k kind, ∃ m : Nat, ds = [d, .int k, .str kind, .int m] ∧ WebAt C μ d W ∧ WbOk W ∧ IsK W k ∧ m ≤ 4 ∧ Q (.lst ((farWay W k kind m).map .int)) μ
theorem d_farW (fr : Free mg) (hT : DefAt P w K mg base T 4 "far_by_ties" (S_farT C)) (F : FnP K "far_by_way" (top 21) f fd) (g : mg "far_by_way" = some (.ref f)) : DefAt P w K mg base T 5 "far_by_way" (S_farW C) := by
  refine defAt_of F g (ps := ["web", "knot", "kind", "most"]) (fun _ _ _ _ _ _ us hl => match us, hl with | [_, _, _, _], _ => rfl) (fn_okD F sc21 (fun ds μ Q ⟨_, _, _, _, _, h, _⟩ => by rw [h]; rfl) fun cdv A outer s H E ds μ Q hr ⟨d, W, k, kind, m, e, ⟨a, dx, ed, em⟩, ok, hk, h4, q⟩ => ?_)
  subst e ed
  refine wss_cons (ws_par 4 5 rfl sc21.nd (we_lstM (wa_nil ⟨Nat.zero_le _, fun b n => we_lst (wa_one (we_var 1 rfl ⟨by rw [sizeLine_eq]; simp, ?_⟩))⟩)) rfl)
  have em' : ∀ o, mset μ b o a = some (.mi C dx (webF W)) := fun o => by rw [mset_ne (by rintro rfl; rw [n] at em; cases em)]; exact em
  refine wss_cons (ws_for (ks := [6]) rfl (wi_range fr.range (we_var 3 rfl ⟨m, rfl, by omega, by omega, fun j G' μ' => (∃ o6, G' = [some (.ref a), some (.int k), some (.str kind), some (.int m), some (.ref b), some (.lst ((wayFar W kind k j).map .int)), o6]) ∧ μ' = mset μ b (.ml (((List.range j).flatMap fun j => wayFar W kind k (j + 1)).map .int)), ⟨⟨_, rfl⟩, rfl⟩, ?_, ?_⟩)))
  · rintro j d1 _ _ ed ⟨⟨o6, rfl⟩, rfl⟩
    have hj : j < m := by
      have := (List.getElem?_eq_some_iff.mp ed).1
      simpa [rngD] using this
    refine wg_name 6 sc21.nd (wss_cons (ws_set 5 sc21.nd (we_call hT hr (wa_cons (we_var 0 rfl (wa_two (we_var 5 rfl (we_var 2 rfl ⟨_, _, W, wayFar W kind k j, kind, rfl, ⟨a, dx, rfl, em' _⟩, ok, .lst, wayFar_isK ok hk j, ?_⟩))))))))
    refine wss_one (ws_expr (we_extend (we_var 4 rfl ⟨b, rfl, ⟨_, mset_same⟩, we_var 5 rfl ⟨_, _, mset_same, .lst, ?_, ⟨_, rfl⟩, ?_⟩⟩)))
    · have h1 := ways_len ok (kind := kind) (k := k) j
      have h2 : (farTies W (wayFar W kind k j) kind).length ≤ 4 := farTies_len ok
      rw [List.length_map, List.length_map, sizeLine_eq]; omega
    · rw [mset_mset, ← List.map_append, List.range_succ, List.flatMap_append]
      congr 4
      rw [List.flatMap_cons, List.flatMap_nil, List.append_nil]; rfl
  · rintro _ _ ⟨⟨o6, rfl⟩, rfl⟩
    refine wss_one (ws_ret (we_post (we_sortedSet rfl rfl fr.sorted fr.set rfl (we_var 4 rfl ⟨_, .ml mset_same, ?_, fun ys h1 h2 => ⟨μ, (MSame.refl μ).new n, ?_⟩⟩))))
    · have h1 := ways_len ok (kind := kind) (k := k) m
      have e : (rngD ((m : Nat) : Int).toNat).length = m := by simp [rngD]
      rw [e]; omega
    · rw [srtset_eq h1 h2]
      simp only [rngD, List.length_map, List.length_range, Int.toNat_natCast]
      exact q

theorem sc22 : FnScope ["web", "knot", "kind", "most", "found", "line", "turn"] ["web", "knot", "kind", "most"] (defScope (top 22)) := ⟨rfl, rfl, rfl, by decide +kernel, rfl, by decide +kernel, by decide +kernel⟩
theorem wayNear_isK {W : Wb} (ok : WbOk W) {kind : Str} {k : Int} (hk : IsK W k) : ∀ n, ∀ x ∈ wayNear W kind k n, IsK W x
  | 0, x, hx => by rw [List.mem_singleton.mp hx]; exact hk
  | n + 1, x, hx => nearTies_isK ok hx
theorem waysN_len {W : Wb} (ok : WbOk W) {kind : Str} {k : Int} : ∀ m : Nat, ((List.range m).flatMap fun j => wayNear W kind k (j + 1)).length ≤ 4 * m
  | 0 => by simp
  | m + 1 => by
    rw [List.range_succ, List.flatMap_append, List.length_append]
    have h1 := waysN_len ok (kind := kind) (k := k) m
    have h2 : (nearTies W (wayNear W kind k m) kind).length ≤ 4 := nearTies_len ok
    have e : ([m].flatMap fun j => wayNear W kind k (j + 1)) = nearTies W (wayNear W kind k m) kind := by rw [List.flatMap_cons, List.flatMap_nil, List.append_nil]; rfl
    rw [e]; omega
def S_nearW (C : Addr) : DSp := fun ds μ Q => ∃ d W k kind, ∃ m : Nat, ds = [d, .int k, .str kind, .int m] ∧ WebAt C μ d W ∧ WbOk W ∧ IsK W k ∧ m ≤ 4 ∧ Q (.lst ((nearWay W k kind m).map .int)) μ
theorem d_nearW (fr : Free mg) (hT : DefAt P w K mg base T 4 "near_by_ties" (S_nearT C)) (F : FnP K "near_by_way" (top 22) f fd) (g : mg "near_by_way" = some (.ref f)) : DefAt P w K mg base T 5 "near_by_way" (S_nearW C) := by
  refine defAt_of F g (ps := ["web", "knot", "kind", "most"]) (fun _ _ _ _ _ _ us hl => match us, hl with | [_, _, _, _], _ => rfl) (fn_okD F sc22 (fun ds μ Q ⟨_, _, _, _, _, h, _⟩ => by rw [h]; rfl) fun cdv A outer s H E ds μ Q hr ⟨d, W, k, kind, m, e, ⟨a, dx, ed, em⟩, ok, hk, h4, q⟩ => ?_)
  subst e ed
  refine wss_cons (ws_par 4 5 rfl sc22.nd (we_lstM (wa_nil ⟨Nat.zero_le _, fun b n => we_lst (wa_one (we_var 1 rfl ⟨by rw [sizeLine_eq]; simp, ?_⟩))⟩)) rfl)
  have em' : ∀ o, mset μ b o a = some (.mi C dx (webF W)) := fun o => by rw [mset_ne (by rintro rfl; rw [n] at em; cases em)]; exact em
  refine wss_cons (ws_for (ks := [6]) rfl (wi_range fr.range (we_var 3 rfl ⟨m, rfl, by omega, by omega, fun j G' μ' => (∃ o6, G' = [some (.ref a), some (.int k), some (.str kind), some (.int m), some (.ref b), some (.lst ((wayNear W kind k j).map .int)), o6]) ∧ μ' = mset μ b (.ml (((List.range j).flatMap fun j => wayNear W kind k (j + 1)).map .int)), ⟨⟨_, rfl⟩, rfl⟩, ?_, ?_⟩)))
  · rintro j d1 _ _ ed ⟨⟨o6, rfl⟩, rfl⟩
    have hj : j < m := by
      have := (List.getElem?_eq_some_iff.mp ed).1
      simpa [rngD] using this
    refine wg_name 6 sc22.nd (wss_cons (ws_set 5 sc22.nd (we_call hT hr (wa_cons (we_var 0 rfl (wa_two (we_var 5 rfl (we_var 2 rfl ⟨_, _, W, wayNear W kind k j, kind, rfl, ⟨a, dx, rfl, em' _⟩, ok, .lst, wayNear_isK ok hk j, ?_⟩))))))))
    refine wss_one (ws_expr (we_extend (we_var 4 rfl ⟨b, rfl, ⟨_, mset_same⟩, we_var 5 rfl ⟨_, _, mset_same, .lst, ?_, ⟨_, rfl⟩, ?_⟩⟩)))
    · have h1 := waysN_len ok (kind := kind) (k := k) j
      have h2 : (nearTies W (wayNear W kind k j) kind).length ≤ 4 := nearTies_len ok
      rw [List.length_map, List.length_map, sizeLine_eq]; omega
    · rw [mset_mset, ← List.map_append, List.range_succ, List.flatMap_append]
      congr 4
      rw [List.flatMap_cons, List.flatMap_nil, List.append_nil]; rfl
  · rintro _ _ ⟨⟨o6, rfl⟩, rfl⟩
    refine wss_one (ws_ret (we_post (we_sortedSet rfl rfl fr.sorted fr.set rfl (we_var 4 rfl ⟨_, .ml mset_same, ?_, fun ys h1 h2 => ⟨μ, (MSame.refl μ).new n, ?_⟩⟩))))
    · have h1 := waysN_len ok (kind := kind) (k := k) m
      have e : (rngD ((m : Nat) : Int).toNat).length = m := by simp [rngD]
      rw [e]; omega
    · rw [srtset_eq h1 h2]
      simp only [rngD, List.length_map, List.length_range, Int.toNat_natCast]
      exact q
--END WAY
--END TIES
end
end Ws
/-! D4: what holds; the plain search (websplit.plain, second part). -/
namespace Ws
open PySem PyProof.Rows PySem.Spec L2

/-! ### what holds, plainly -/
def worthSo : D → Str → D → Bool
  | .int i, w, .int j => if w = "same" then decide (i = j) else if w = "less" then decide (i < j) else decide (j < i)
  | .str x, w, .str y => if w = "same" then decide (x = y) else if w = "less" then decide (x.cps.toList < y.cps.toList) else decide (y.cps.toList < x.cps.toList)
  | _, _, _ => false
theorem worthSo_int {i j : Int} {w : Str} : worthSo (.int i) w (.int j) = if w = "same" then decide (i = j) else if w = "less" then decide (i < j) else decide (j < i) := rfl
theorem worthSo_str {x y : Str} {w : Str} : worthSo (.str x) w (.str y) = if w = "same" then decide (x = y) else if w = "less" then decide (x.cps.toList < y.cps.toList) else decide (y.cps.toList < x.cps.toList) := rfl
def getV (b : Bind) (x : Str) : Option Int := (b.find? fun p => decide (p.1 = x)).map (·.2)
def valB (b : Bind) (x : Str) : Int := (getV b x).getD 0
theorem valD_str {α : Type} (g : α → D) (x : Str) (xs : List (Str × α)) : valD (xs.map fun p => ((.inr p.1 : Key), g p.2)) (.inr x) = ((xs.find? fun p => decide (p.1 = x)).map (·.2)).map g := by
  induction xs with
  | nil => rfl
  | cons p ps ih =>
    unfold valD at ih ⊢
    rw [List.map_cons, List.find?_cons, List.find?_cons]
    by_cases h : p.1 = x
    · simp [h]
    · have e1 : decide ((Sum.inr p.1 : Key) = .inr x) = false := by simp [h]
      have e2 : decide (p.1 = x) = false := by simp [h]
      simp only [e1, e2]
      exact ih
theorem valD_bind (b : Bind) (x : Str) : valD (b.map fun p => ((.inr p.1 : Key), D.int p.2)) (.inr x) = (getV b x).map .int := valD_str .int x b
theorem has_get (b : Bind) (x : Str) : hasV b x = (getV b x).isSome := by rw [← valD_has, valD_bind]; cases getV b x <;> rfl
def worthsOf (W : Wb) (n : Int) : List (Str × D) := ((look n W.knots).map (·.2)).getD []
def kindOf (W : Wb) (n : Int) : Str := ((look n W.knots).map (·.1)).getD ""
def lookS (x : Str) (ws : List (Str × D)) : Option D := (ws.find? fun p => decide (p.1 = x)).map (·.2)
theorem valD_ws (ws : List (Str × D)) (x : Str) : valD (ws.map fun p => ((.inr p.1 : Key), p.2)) (.inr x) = lookS x ws := by
  have := valD_str (fun d : D => d) x ws
  rw [this]; unfold lookS; cases ws.find? fun p => decide (p.1 = x) <;> rfl
def holdsP (W : Wb) (r : PRow) (b : Bind) : Bool := match r with
  | .knot v k => decide (kindOf W (valB b v) = k)
  | .any _ => true
  | .holds v n w o => match lookS n (worthsOf W (valB b v)) with
    | some x => worthSo x w o
    | none => false
  | .tie v k u => decide (valB b u ∈ farWay W (valB b v) k 1)
  | .way v k u m => decide (valB b u ∈ farWay W (valB b v) k m.toNat)
  | .unlike v u => decide (valB b v ≠ valB b u)
/-- b gives knots to the names of xs -/
def Gives (W : Wb) (b : Bind) (xs : List Str) : Prop := ∀ x ∈ xs, ∃ n, getV b x = some n ∧ IsK W n
theorem lookS_mem {x : Str} {ws : List (Str × D)} {d : D} (h : lookS x ws = some d) : (x, d) ∈ ws := by
  unfold lookS at h
  cases e : ws.find? (fun p => decide (p.1 = x)) with
  | none => rw [e] at h; cases h
  | some q =>
    rw [e] at h; cases h
    have h1 := List.mem_of_find?_eq_some e
    have h2 := List.find?_some e
    simp at h2
    rw [← h2]; exact h1

theorem inV_ints (i : Int) (ns : List Int) : inV (.int i) (ns.map V.int) = decide (i ∈ ns) := by
  unfold inV
  induction ns with
  | nil => simp
  | cons n ns ih =>
    rw [List.map_cons, List.any_cons, ih]
    have e : eqV (V.int n) (V.int i) = decide (n = i) := rfl
    rw [e]
    by_cases h : n = i
    · simp [h]
    · have h' : i ≠ n := fun z => h z.symm
      simp [h, h']
theorem in_ints (i : Int) (ns : List Int) : inD (.int i) (ns.map D.int) = some (decide (i ∈ ns)) := by
  have e1 : ((ns.map D.int).all fun e => (fl e).isSome) = true := by simp [fl]
  have e2 : (ns.map D.int).map (fun e => (fl e).getD .non) = ns.map V.int := by rw [List.map_map]; rfl
  show (if ((ns.map D.int).all fun e => (fl e).isSome) = true then some (inV (.int i) ((ns.map D.int).map fun e => (fl e).getD .non)) else none) = _
  rw [if_pos e1, e2, inV_ints]
section
variable {P : Program} {w : World} {K : PySem.W.Frag} {mg : Str → Option Value} {base : Heap} {T : TabS} {f C : Addr} {fd : FuncData}
theorem sc23 : FnScope ["worth", "word", "other"] ["worth", "word", "other"] (defScope (top 23)) := ⟨rfl, rfl, rfl, by decide +kernel, rfl, by decide +kernel, by decide +kernel⟩
def S_worthSo : DSp := fun ds μ Q => ∃ a w b, ds = [a, .str w, b] ∧ IsWo a ∧ IsWo b ∧ Q (.bl (worthSo a w b)) μ
theorem d_worthSo (fr : Free mg) (F : FnP K "is_worth_so" (top 23) f fd) (g : mg "is_worth_so" = some (.ref f)) : DefAt P w K mg base T 1 "is_worth_so" S_worthSo := by
  refine defAt_of F g (ps := ["worth", "word", "other"]) (fun _ _ _ _ _ _ us hl => match us, hl with | [_, _, _], _ => rfl) (fn_okD F sc23 (fun ds μ Q ⟨_, _, _, h, _⟩ => by rw [h]; rfl) fun cdv A outer s H E ds μ Q hr ⟨a, wd, b, e, ha, hb, q⟩ => ?_)
  subst e
  cases ha with
  | int i =>
    cases hb with
    | int j =>
      refine wss_cons (ws_ifF (wt_ne (we_isi rfl fr.isinstance (we_var 0 rfl (we_ty fr.str (by decide +kernel) ⟨"int", "str", false, .of rfl, rfl, rfl, we_isi rfl fr.isinstance (we_var 2 rfl (we_ty fr.str (by decide +kernel) ⟨"int", "str", false, .of rfl, rfl, rfl, _, scal_bl, rfl, wss_nil ?_⟩))⟩)))))
      refine wss_cons (ws_if (wt_eq (we_var 1 rfl (we_str ⟨_, scal_str, ?_⟩))))
      rw [worthSo_int] at q
      by_cases h1 : wd = "same"
      · rw [if_pos h1] at q; rw [decide_eq_true h1]
        exact wss_one (ws_ret (we_eq (we_var 0 rfl (we_var 2 rfl ⟨_, scal_int, q⟩))))
      · rw [if_neg h1] at q; rw [decide_eq_false h1]
        refine wss_nil (wss_one (ws_ret (we_if (wt_eq (we_var 1 rfl (we_str ⟨_, scal_str, ?_⟩))))))
        by_cases h2 : wd = "less"
        · rw [if_pos h2] at q; rw [decide_eq_true h2]
          exact we_ltI (we_var 0 rfl (we_var 2 rfl ⟨_, _, rfl, rfl, q⟩))
        · rw [if_neg h2] at q; rw [decide_eq_false h2]
          exact we_gtI (we_var 0 rfl (we_var 2 rfl ⟨_, _, rfl, rfl, q⟩))
    | str j =>
      exact wss_cons (ws_ifT (wt_ne (we_isi rfl fr.isinstance (we_var 0 rfl (we_ty fr.str (by decide +kernel) ⟨"int", "str", false, .of rfl, rfl, rfl, we_isi rfl fr.isinstance (we_var 2 rfl (we_ty fr.str (by decide +kernel) ⟨"str", "str", true, .of rfl, rfl, rfl, _, scal_bl, rfl, wss_one (ws_ret (we_bl q))⟩))⟩)))))
  | str i =>
    cases hb with
    | int j =>
      exact wss_cons (ws_ifT (wt_ne (we_isi rfl fr.isinstance (we_var 0 rfl (we_ty fr.str (by decide +kernel) ⟨"str", "str", true, .of rfl, rfl, rfl, we_isi rfl fr.isinstance (we_var 2 rfl (we_ty fr.str (by decide +kernel) ⟨"int", "str", false, .of rfl, rfl, rfl, _, scal_bl, rfl, wss_one (ws_ret (we_bl q))⟩))⟩)))))
    | str j =>
      refine wss_cons (ws_ifF (wt_ne (we_isi rfl fr.isinstance (we_var 0 rfl (we_ty fr.str (by decide +kernel) ⟨"str", "str", true, .of rfl, rfl, rfl, we_isi rfl fr.isinstance (we_var 2 rfl (we_ty fr.str (by decide +kernel) ⟨"str", "str", true, .of rfl, rfl, rfl, _, scal_bl, rfl, wss_nil ?_⟩))⟩)))))
      refine wss_cons (ws_if (wt_eq (we_var 1 rfl (we_str ⟨_, scal_str, ?_⟩))))
      rw [worthSo_str] at q
      by_cases h1 : wd = "same"
      · rw [if_pos h1] at q; rw [decide_eq_true h1]
        exact wss_one (ws_ret (we_eq (we_var 0 rfl (we_var 2 rfl ⟨_, scal_str, q⟩))))
      · rw [if_neg h1] at q; rw [decide_eq_false h1]
        refine wss_nil (wss_one (ws_ret (we_if (wt_eq (we_var 1 rfl (we_str ⟨_, scal_str, ?_⟩))))))
        by_cases h2 : wd = "less"
        · rw [if_pos h2] at q; rw [decide_eq_true h2]
          exact we_ltS (we_var 0 rfl (we_var 2 rfl ⟨_, _, rfl, rfl, q⟩))
        · rw [if_neg h2] at q; rw [decide_eq_false h2]
          exact we_gtS (we_var 0 rfl (we_var 2 rfl ⟨_, _, rfl, rfl, q⟩))

/-! ### holds_plain -/
theorem sc24 : FnScope ["web", "row", "at", "word", "first", "worths", "most"] ["web", "row", "at"] (defScope (top 24)) := ⟨rfl, rfl, rfl, by decide +kernel, rfl, by decide +kernel, by decide +kernel⟩
def S_holdsP (C : Addr) : DSp := fun ds μ Q => ∃ d W r b, ds = [d, dPR r, dB b] ∧ WebAt C μ d W ∧ WbOk W ∧ r.ok ∧ Gives W b r.vs ∧ Q (.bl (holdsP W r b)) μ
theorem d_holdsP (hK : MethAt P w K mg base T 3 C "kind" (S_kind C)) (hWo : MethAt P w K mg base T 3 C "worths" (S_worths C)) (hS : DefAt P w K mg base T 1 "is_worth_so" S_worthSo) (hF : DefAt P w K mg base T 5 "far_by_way" (S_farW C)) (F : FnP K "holds_plain" (top 24) f fd) (g : mg "holds_plain" = some (.ref f)) : DefAt P w K mg base T 6 "holds_plain" (S_holdsP C) := by
  refine defAt_of F g (ps := ["web", "row", "at"]) (fun _ _ _ _ _ _ us hl => match us, hl with | [_, _, _], _ => rfl) (fn_okD F sc24 (fun ds μ Q ⟨_, _, _, _, h, _⟩ => by rw [h]; rfl) fun cdv A outer s H E ds μ Q hr ⟨d, W, r, b, e, ⟨a, dx, ed, em⟩, ok, rok, hg, q⟩ => ?_)
  subst e ed
  have hv : ∀ x ∈ r.vs, ∃ n p, getV b x = some n ∧ valB b x = n ∧ look n W.knots = some p ∧ valD (b.map fun p => ((.inr p.1 : Key), D.int p.2)) (.inr x) = some (.int n) := fun x hx => by
    obtain ⟨n, h1, p, h2⟩ := hg x hx
    exact ⟨n, p, h1, by unfold valB; rw [h1]; rfl, h2, by rw [valD_bind, h1]; rfl⟩
  cases r with
  | knot v k =>
    obtain ⟨n, p, _, en, hl, hd⟩ := hv v (by simp [PRow.vs])
    refine wss_cons (ws_par 3 4 rfl sc24.nd (we_ix (we_var 1 rfl (we_int ⟨_, _, _, .tup, rfl, rfl, we_dget hr.u1 (we_var 2 rfl (we_ix (we_var 1 rfl (we_int ⟨_, _, _, .tup, rfl, rfl, _, .inr v, _, .dic, rfl, hd, ?_⟩))))⟩))) rfl)
    refine wss_cons (ws_ifT (wt_eq (we_var 3 rfl (we_str ⟨_, scal_str, rfl, ?_⟩))))
    refine wss_one (ws_ret (we_eq (we_meth hK hr (we_var 0 rfl ⟨a, dx, _, rfl, em, rfl, wa_one (we_var 4 rfl ⟨_, W, n, p, rfl, ⟨a, dx, rfl, em⟩, hl, we_ix (we_var 1 rfl (we_int ⟨_, _, _, .tup, rfl, rfl, _, scal_str, ?_⟩))⟩)⟩))))
    have e1 : kindOf W n = p.1 := by unfold kindOf; rw [hl]; rfl
    have q : Q (.bl (decide (kindOf W (valB b v) = k))) μ := q
    rw [en, e1] at q; exact q
  | any v =>
    obtain ⟨n, p, _, en, hl, hd⟩ := hv v (by simp [PRow.vs])
    refine wss_cons (ws_par 3 4 rfl sc24.nd (we_ix (we_var 1 rfl (we_int ⟨_, _, _, .tup, rfl, rfl, we_dget hr.u1 (we_var 2 rfl (we_ix (we_var 1 rfl (we_int ⟨_, _, _, .tup, rfl, rfl, _, .inr v, _, .dic, rfl, hd, ?_⟩))))⟩))) rfl)
    refine wss_cons (ws_ifF (wt_eq (we_var 3 rfl (we_str ⟨_, scal_str, rfl, wss_nil ?_⟩))))
    refine wss_cons (ws_ifF (wt_eq (we_var 3 rfl (we_str ⟨_, scal_str, rfl, wss_nil ?_⟩))))
    refine wss_cons (ws_ifF (wt_eq (we_var 3 rfl (we_str ⟨_, scal_str, rfl, wss_nil ?_⟩))))
    exact wss_cons (ws_ifT (wt_eq (we_var 3 rfl (we_str ⟨_, scal_str, rfl, wss_one (ws_ret (we_bl q))⟩))))
  | holds v nm wd o =>
    obtain ⟨n, p, _, en, hl, hd⟩ := hv v (by simp [PRow.vs])
    have e1 : worthsOf W n = p.2 := by unfold worthsOf; rw [hl]; rfl
    have q : Q (.bl (match lookS nm (worthsOf W (valB b v)) with | some x => worthSo x wd o | none => false)) μ := q
    rw [en, e1] at q
    refine wss_cons (ws_par 3 4 rfl sc24.nd (we_ix (we_var 1 rfl (we_int ⟨_, _, _, .tup, rfl, rfl, we_dget hr.u1 (we_var 2 rfl (we_ix (we_var 1 rfl (we_int ⟨_, _, _, .tup, rfl, rfl, _, .inr v, _, .dic, rfl, hd, ?_⟩))))⟩))) rfl)
    refine wss_cons (ws_ifF (wt_eq (we_var 3 rfl (we_str ⟨_, scal_str, rfl, wss_nil ?_⟩))))
    refine wss_cons (ws_ifT (wt_eq (we_var 3 rfl (we_str ⟨_, scal_str, rfl, ?_⟩))))
    refine wss_cons (ws_set 5 sc24.nd (we_meth hWo hr (we_var 0 rfl ⟨a, dx, _, rfl, em, rfl, wa_one (we_var 4 rfl ⟨_, W, n, p, rfl, ⟨a, dx, rfl, em⟩, hl, ?_⟩)⟩)))
    refine wss_one (ws_ret (we_and (we_din hr.u1 (we_ix (we_var 1 rfl (we_int ⟨_, _, _, .tup, rfl, rfl, we_var 5 rfl ⟨_, .inr nm, .dic, rfl, _, rfl, ?_⟩⟩))))))
    rw [valD_ws]
    cases z : lookS nm p.2 with
    | none => rw [z] at q; exact q
    | some x =>
      rw [z] at q
      have hx : IsWo x := ok.wo _ (look_mem hl) _ (lookS_mem z)
      exact we_one (we_call hS hr (wa_cons (we_dget hr.u1 (we_var 5 rfl (we_ix (we_var 1 rfl (we_int ⟨_, _, _, .tup, rfl, rfl, _, .inr nm, _, .dic, rfl, by rw [valD_ws]; exact z, wa_two (we_ix (we_var 1 rfl (we_int ⟨_, _, _, .tup, rfl, rfl, we_ix (we_var 1 rfl (we_int ⟨_, _, _, .tup, rfl, rfl, _, _, _, rfl, hx, rok, q⟩))⟩)))⟩)))))))
  | tie v k u =>
    obtain ⟨n, p, _, en, hl, hd⟩ := hv v (by simp [PRow.vs])
    obtain ⟨n2, p2, _, en2, hl2, hd2⟩ := hv u (by simp [PRow.vs])
    have q : Q (.bl (decide (valB b u ∈ farWay W (valB b v) k 1))) μ := q
    rw [en, en2] at q
    refine wss_cons (ws_par 3 4 rfl sc24.nd (we_ix (we_var 1 rfl (we_int ⟨_, _, _, .tup, rfl, rfl, we_dget hr.u1 (we_var 2 rfl (we_ix (we_var 1 rfl (we_int ⟨_, _, _, .tup, rfl, rfl, _, .inr v, _, .dic, rfl, hd, ?_⟩))))⟩))) rfl)
    refine wss_cons (ws_ifF (wt_eq (we_var 3 rfl (we_str ⟨_, scal_str, rfl, wss_nil ?_⟩))))
    refine wss_cons (ws_ifF (wt_eq (we_var 3 rfl (we_str ⟨_, scal_str, rfl, wss_nil ?_⟩))))
    refine wss_cons (ws_ifF (wt_eq (we_var 3 rfl (we_str ⟨_, scal_str, rfl, wss_nil ?_⟩))))
    refine wss_cons (ws_ifF (wt_eq (we_var 3 rfl (we_str ⟨_, scal_str, rfl, wss_nil ?_⟩))))
    refine wss_cons (ws_set 6 sc24.nd (we_ifT (wt_eq (we_var 3 rfl (we_str ⟨_, scal_str, rfl, we_int ?_⟩)))))
    refine wss_one (ws_ret (we_in rfl (we_dget hr.u1 (we_var 2 rfl (we_ix (we_var 1 rfl (we_int ⟨_, _, _, .tup, rfl, rfl, _, .inr u, _, .dic, rfl, hd2, ?_⟩)))))))
    refine we_call hF hr (wa_cons (we_var 0 rfl (wa_cons (we_var 4 rfl (wa_two (we_ix (we_var 1 rfl (we_int ⟨_, _, _, .tup, rfl, rfl, ?_⟩))))))))
    exact we_var 6 rfl ⟨_, W, n, k, 1, rfl, ⟨a, dx, rfl, em⟩, ok, ⟨p, hl⟩, by decide, _, _, .lst, in_ints _ _, q⟩
  | way v k u m =>
    obtain ⟨n, p, _, en, hl, hd⟩ := hv v (by simp [PRow.vs])
    obtain ⟨n2, p2, _, en2, hl2, hd2⟩ := hv u (by simp [PRow.vs])
    have q : Q (.bl (decide (valB b u ∈ farWay W (valB b v) k m.toNat))) μ := q
    rw [en, en2] at q
    have rok : 0 ≤ m ∧ m ≤ 4 := rok
    obtain ⟨m, rfl⟩ : ∃ m' : Nat, m = m' := ⟨m.toNat, by omega⟩
    refine wss_cons (ws_par 3 4 rfl sc24.nd (we_ix (we_var 1 rfl (we_int ⟨_, _, _, .tup, rfl, rfl, we_dget hr.u1 (we_var 2 rfl (we_ix (we_var 1 rfl (we_int ⟨_, _, _, .tup, rfl, rfl, _, .inr v, _, .dic, rfl, hd, ?_⟩))))⟩))) rfl)
    refine wss_cons (ws_ifF (wt_eq (we_var 3 rfl (we_str ⟨_, scal_str, rfl, wss_nil ?_⟩))))
    refine wss_cons (ws_ifF (wt_eq (we_var 3 rfl (we_str ⟨_, scal_str, rfl, wss_nil ?_⟩))))
    refine wss_cons (ws_ifF (wt_eq (we_var 3 rfl (we_str ⟨_, scal_str, rfl, wss_nil ?_⟩))))
    refine wss_cons (ws_ifF (wt_eq (we_var 3 rfl (we_str ⟨_, scal_str, rfl, wss_nil ?_⟩))))
    refine wss_cons (ws_set 6 sc24.nd (we_ifF (wt_eq (we_var 3 rfl (we_str ⟨_, scal_str, rfl, we_ix (we_var 1 rfl (we_int ⟨_, _, _, .tup, rfl, rfl, ?_⟩))⟩)))))
    refine wss_one (ws_ret (we_in rfl (we_dget hr.u1 (we_var 2 rfl (we_ix (we_var 1 rfl (we_int ⟨_, _, _, .tup, rfl, rfl, _, .inr u, _, .dic, rfl, hd2, ?_⟩)))))))
    refine we_call hF hr (wa_cons (we_var 0 rfl (wa_cons (we_var 4 rfl (wa_two (we_ix (we_var 1 rfl (we_int ⟨_, _, _, .tup, rfl, rfl, ?_⟩))))))))
    exact we_var 6 rfl ⟨_, W, n, k, m, rfl, ⟨a, dx, rfl, em⟩, ok, ⟨p, hl⟩, by omega, _, _, .lst, in_ints _ _, q⟩
  | unlike v u =>
    obtain ⟨n, p, _, en, hl, hd⟩ := hv v (by simp [PRow.vs])
    obtain ⟨n2, p2, _, en2, hl2, hd2⟩ := hv u (by simp [PRow.vs])
    have q : Q (.bl (decide (valB b v ≠ valB b u))) μ := q
    rw [en, en2] at q
    refine wss_cons (ws_par 3 4 rfl sc24.nd (we_ix (we_var 1 rfl (we_int ⟨_, _, _, .tup, rfl, rfl, we_dget hr.u1 (we_var 2 rfl (we_ix (we_var 1 rfl (we_int ⟨_, _, _, .tup, rfl, rfl, _, .inr v, _, .dic, rfl, hd, ?_⟩))))⟩))) rfl)
    refine wss_cons (ws_ifF (wt_eq (we_var 3 rfl (we_str ⟨_, scal_str, rfl, wss_nil ?_⟩))))
    refine wss_cons (ws_ifF (wt_eq (we_var 3 rfl (we_str ⟨_, scal_str, rfl, wss_nil ?_⟩))))
    refine wss_cons (ws_ifT (wt_eq (we_var 3 rfl (we_str ⟨_, scal_str, rfl, ?_⟩))))
    refine wss_one (ws_ret (we_ne (we_var 4 rfl (we_dget hr.u1 (we_var 2 rfl (we_ix (we_var 1 rfl (we_int ⟨_, _, _, .tup, rfl, rfl, _, .inr u, _, .dic, rfl, hd2, _, scal_int, ?_⟩))))))))
    have e1 : (!decide (n = n2)) = decide (n ≠ n2) := by simp
    rw [e1]; exact q
end
end Ws
/-! D5: the plain search. -/
namespace Ws
open PySem PyProof.Rows PySem.Spec L2

/-- a name's knot is set -/
def putB (b : Bind) (x : Str) (n : Int) : Bind := if hasV b x = true then b.map fun p => if p.1 = x then (p.1, n) else p else b ++ [(x, n)]
theorem putD_bind (b : Bind) (x : Str) (n : Int) : putD (b.map fun p => ((.inr p.1 : Key), D.int p.2)) (.inr x) (.int n) = (putB b x n).map fun p => (.inr p.1, .int p.2) := by
  unfold putD putB
  have e : ((b.map fun p => ((.inr p.1 : Key), D.int p.2)).any fun kv => decide (kv.1 = .inr x)) = hasV b x := by
    unfold hasV; rw [List.any_map]; congr 1; funext p; simp
  rw [e]
  by_cases h : hasV b x = true
  · rw [if_pos h, if_pos h, List.map_map, List.map_map]
    refine List.map_congr_left fun p _ => ?_
    show (if (Sum.inr p.1 : Key) = .inr x then _ else _) = ((Sum.inr (if p.1 = x then (p.1, n) else p).1 : Key), D.int (if p.1 = x then (p.1, n) else p).2)
    by_cases hp : p.1 = x
    · rw [if_pos (by rw [hp]), if_pos hp]
    · rw [if_neg (by simpa using hp), if_neg hp]
  · rw [if_neg h, if_neg h]; simp
def waitOn (rs : List PRow) (b : Bind) (x : Str) : List PRow := rs.filter fun r => decide (x ∈ prVars r) && (prVars r).all (hasV b)
def binds (W : Wb) (rs : List PRow) : List Str → Bind → List Bind
  | [], b => if (rs.all fun r => holdsP W r b) = true then [b] else []
  | x :: xs, b => W.knots.flatMap fun k => if ((waitOn rs (putB b x k.1) x).all fun r => holdsP W r (putB b x k.1)) = true then binds W rs xs (putB b x k.1) else []
theorem binds_len {W : Wb} (ok : WbOk W) (rs : List PRow) : ∀ (xs : List Str) (b : Bind), (binds W rs xs b).length ≤ 4 ^ xs.length
  | [], b => by unfold binds; split <;> simp
  | x :: xs, b => by
    have key : ∀ ks : List (Int × Str × List (Str × D)), (ks.flatMap fun k => if ((waitOn rs (putB b x k.1) x).all fun r => holdsP W r (putB b x k.1)) = true then binds W rs xs (putB b x k.1) else []).length ≤ ks.length * 4 ^ xs.length := by
      intro ks
      induction ks with
      | nil => simp
      | cons k ks ih =>
        rw [List.flatMap_cons, List.length_append, List.length_cons, Nat.succ_mul]
        have : (if ((waitOn rs (putB b x k.1) x).all fun r => holdsP W r (putB b x k.1)) = true then binds W rs xs (putB b x k.1) else []).length ≤ 4 ^ xs.length := by
          split
          · exact binds_len ok rs xs _
          · simp
        omega
    have h := key W.knots
    unfold binds
    rw [List.length_cons, Nat.pow_succ]
    have h2 : W.knots.length * 4 ^ xs.length ≤ 4 * 4 ^ xs.length := Nat.mul_le_mul_right _ ok.few
    omega
/-- all its values are knots -/
def BindOk (W : Wb) (b : Bind) : Prop := ∀ p ∈ b, IsK W p.2
theorem BindOk.put {W : Wb} {b : Bind} (h : BindOk W b) {x : Str} {n : Int} (hn : IsK W n) : BindOk W (putB b x n) := by
  intro p hp
  unfold putB at hp
  split at hp
  · obtain ⟨q, hq, e⟩ := List.mem_map.mp hp
    split at e
    · rw [← e]; exact hn
    · rw [← e]; exact h q hq
  · rcases List.mem_append.mp hp with hp | hp
    · exact h p hp
    · rw [List.mem_singleton.mp hp]; exact hn
theorem getV_mem {b : Bind} {x : Str} {n : Int} (h : getV b x = some n) : (x, n) ∈ b := by
  unfold getV at h
  cases e : b.find? (fun p => decide (p.1 = x)) with
  | none => rw [e] at h; cases h
  | some q =>
    rw [e] at h; cases h
    have h1 := List.mem_of_find?_eq_some e
    have h2 := List.find?_some e
    simp at h2
    rw [← h2]; exact h1
theorem BindOk.gives {W : Wb} {b : Bind} (h : BindOk W b) {xs : List Str} (hx : ∀ x ∈ xs, hasV b x = true) : Gives W b xs := fun x hxm => by
  have h1 := hx x hxm
  rw [has_get] at h1
  obtain ⟨n, hn⟩ := Option.isSome_iff_exists.mp h1
  exact ⟨n, hn, h _ (getV_mem hn)⟩
theorem has_put (b : Bind) (x y : Str) (n : Int) : hasV (putB b x n) y = (hasV b y || decide (x = y)) := by
  unfold putB
  by_cases h : hasV b x = true
  · rw [if_pos h]
    have e : hasV (b.map fun p => if p.1 = x then (p.1, n) else p) y = hasV b y := by
      unfold hasV; rw [List.any_map]; congr 1; funext p
      show decide ((if p.1 = x then (p.1, n) else p).1 = y) = _
      split <;> rfl
    rw [e]
    by_cases hxy : x = y
    · subst hxy; rw [h]; rfl
    · simp [hxy]
  · rw [if_neg h]
    unfold hasV; rw [List.any_append]; simp
theorem prVars_mem (r : PRow) (x : Str) : x ∈ prVars r ↔ x ∈ r.vs := by
  unfold prVars
  have : uniq r.vs = uq r.vs := rfl
  rw [this, uq_mem]

section
variable {P : Program} {w : World} {K : PySem.W.Frag} {mg : Str → Option Value} {base : Heap} {T : TabS} {f C : Addr} {fd : FuncData}
/-! ### with_knot -/
theorem sc27 : FnScope ["at", "name", "knot", "found"] ["at", "name", "knot"] (defScope (top 27)) := ⟨rfl, rfl, rfl, by decide +kernel, rfl, by decide +kernel, by decide +kernel⟩
def S_with : DSp := fun ds μ Q => ∃ b x n, ds = [dB b, .str x, .int n] ∧ b.length ≤ 1000 ∧ Q (dB (putB b x n)) μ
theorem d_with (fr : Free mg) (F : FnP K "with_knot" (top 27) f fd) (g : mg "with_knot" = some (.ref f)) : DefAt P w K mg base T 1 "with_knot" S_with := by
  refine defAt_of F g (ps := ["at", "name", "knot"]) (fun _ _ _ _ _ _ us hl => match us, hl with | [_, _, _], _ => rfl) (fn_okD F sc27 (fun ds μ Q ⟨_, _, _, h, _⟩ => by rw [h]; rfl) fun cdv A outer s H E ds μ Q hr ⟨b, x, n, e, hb, q⟩ => ?_)
  subst e
  refine wss_cons (ws_set 3 sc27.nd (we_dictCM rfl fr.dict (we_var 0 rfl ⟨_, .dic, fun l nl => ?_⟩)))
  refine wss_cons (ws_dput hr.u1 (we_var 2 rfl (we_var 3 rfl (we_var 1 rfl ⟨l, _, .inr x, rfl, rfl, mset_same, by rw [List.length_map, sizeLine_eq]; omega, ?_⟩))))
  refine wss_one (ws_ret (we_freezeD (we_var 3 rfl ⟨l, _, rfl, mset_same, ?_⟩)))
  rw [mset_mset, mdel_mset nl, putD_bind]; exact q
/-! ### waiting_on -/
theorem sc26 : FnScope ["rows", "at", "name", "found", "row", "wanted", "one"] ["rows", "at", "name"] (defScope (top 26)) := ⟨rfl, rfl, rfl, by decide +kernel, rfl, by decide +kernel, by decide +kernel⟩
def S_wait : DSp := fun ds μ Q => ∃ d b x, ∃ rs : List PRow, ds = [d, dB b, .str x] ∧ FSq d (rs.map dPR) ∧ (∀ r ∈ rs, r.ok) ∧ Q (.lst ((waitOn rs b x).map dPR)) μ
theorem in_strs (x : Str) (ns : List Str) : inD (.str x) (ns.map D.str) = some (decide (x ∈ ns)) := by
  have e1 : ((ns.map D.str).all fun e => (fl e).isSome) = true := by simp [fl]
  have e2 : (ns.map D.str).map (fun e => (fl e).getD .non) = ns.map V.str := by rw [List.map_map]; rfl
  show (if ((ns.map D.str).all fun e => (fl e).isSome) = true then some (inV (.str x) ((ns.map D.str).map fun e => (fl e).getD .non)) else none) = _
  rw [if_pos e1, e2]
  congr 1
  unfold inV
  induction ns with
  | nil => simp
  | cons n ns ih =>
    rw [List.map_cons, List.any_cons, ih (by simp [fl]) (by rw [List.map_map]; rfl)]
    have e : eqV (V.str n) (V.str x) = decide (n = x) := by
      show (n == x) = _
      by_cases h : n = x <;> simp [h]
    rw [e]
    by_cases h : n = x
    · simp [h]
    · have h' : x ≠ n := fun z => h z.symm
      simp [h, h']
theorem d_wait (fr : Free mg) (hV : DefAt P w K mg base T 4 "variables_of" S_var) (F : FnP K "waiting_on" (top 26) f fd) (g : mg "waiting_on" = some (.ref f)) : DefAt P w K mg base T 5 "waiting_on" S_wait := by
  refine defAt_of F g (ps := ["rows", "at", "name"]) (fun _ _ _ _ _ _ us hl => match us, hl with | [_, _, _], _ => rfl) (fn_okD F sc26 (fun ds μ Q ⟨_, _, _, _, h, _⟩ => by rw [h]; rfl) fun cdv A outer s H E ds μ Q hr ⟨d, b, x, rs, e, fs, ok, q⟩ => ?_)
  subst e
  refine wss_cons (ws_set 3 sc26.nd (we_lstM (wa_nil ⟨Nat.zero_le _, fun l nl => ?_⟩)))
  refine wss_cons (ws_for (ks := [4]) rfl (wi_seq (we_var 0 rfl ⟨_, fs, fun hz => ⟨fun j G' μ' => (∃ o4 o5 o6, G' = [some d, some (dB b), some (.str x), some (.ref l), o4, o5, o6]) ∧ μ' = mset μ l (.ml ((waitOn (rs.take j) b x).map dPR)), ⟨⟨_, _, _, rfl⟩, rfl⟩, ?_, ?_⟩⟩)))
  · rintro j d1 _ _ ed ⟨⟨o4, o5, o6, rfl⟩, rfl⟩
    rw [List.getElem?_map] at ed
    cases ex : rs[j]? with
    | none => rw [ex] at ed; cases ed
    | some r =>
      rw [ex] at ed; cases ed
      have hj : j < rs.length := (List.getElem?_eq_some_iff.mp ex).1
      have et : waitOn (rs.take (j + 1)) b x = waitOn (rs.take j) b x ++ if (decide (x ∈ prVars r) && (prVars r).all (hasV b)) = true then [r] else [] := by
        unfold waitOn
        rw [List.take_add_one, ex, Option.toList, List.filter_append]
        congr 1
        rw [List.filter_cons, List.filter_nil]
      refine wg_name 4 sc26.nd (wss_cons (ws_set 5 sc26.nd (we_call hV hr (wa_one (we_var 4 rfl ⟨.p r, rfl, ok r (List.mem_of_getElem? ex), ?_⟩)))))
      refine wss_one (ws_if (wt_w (wtw_and (wt_in rfl (we_var 2 rfl (we_var 5 rfl ⟨_, _, .lst, in_strs x (prVars r), ?_⟩))))))
      by_cases h1 : x ∈ prVars r
      · rw [decide_eq_true h1, Bool.true_and] at et
        rw [decide_eq_true h1, if_pos rfl]
        refine wtw_and1 (wt_val (we_all rfl fr.all rfl (we_lc 6 sc26.nd rfl (blkOk_by (by kernel_rfl)) (wi_seq (we_var 5 rfl ⟨_, .lst, fun hz2 => ?_⟩)))))
        refine lc_fm (prVars r) .str (fun _ => true) (fun y => .bl (hasV b y)) ⟨(prVars r).map (hasV b), by rw [filter_true, List.map_map]; exact .lst, ?_⟩ fun y _ s H C cl fp => ⟨rfl, rfl, fun _ s H C cl fp => ?_⟩
        · refine ⟨_, rfl, ?_⟩
          have e3 : ((prVars r).map (hasV b)).all id = (prVars r).all (hasV b) := by rw [List.all_map]; rfl
          rw [e3]
          cases h2 : (prVars r).all (hasV b) with
          | true =>
            rw [h2, if_pos rfl] at et
            rw [if_pos rfl]
            refine wss_one (ws_expr (we_append (we_var 3 rfl ⟨l, rfl, ⟨_, mset_same⟩, we_var 4 rfl ⟨_, mset_same, ?_, ⟨_, _, _, rfl⟩, ?_⟩⟩)))
            · have h3 : (waitOn (rs.take j) b x).length ≤ (rs.take j).length := List.length_filter_le _ _
              rw [List.length_take] at h3
              rw [List.length_map] at hz ⊢
              omega
            · rw [mset_mset, et, List.map_append]; rfl
          | false =>
            rw [h2, if_neg (by simp), List.append_nil] at et
            rw [if_neg (by simp)]
            exact wss_nil ⟨⟨_, _, _, rfl⟩, by rw [et]⟩
        · exact we_din hr.u1 (we_var 6 rfl (we_var 1 rfl ⟨_, .inr y, .dic, rfl, by rw [valD_has], rfl⟩))
      · rw [decide_eq_false h1, Bool.false_and, if_neg (by simp), List.append_nil] at et
        rw [decide_eq_false h1, if_neg (by simp)]
        exact wss_nil ⟨⟨_, _, _, rfl⟩, by rw [et]⟩
  · rintro _ _ ⟨⟨o4, o5, o6, rfl⟩, rfl⟩
    refine wss_one (ws_ret (we_freezeL (we_var 3 rfl ⟨l, _, rfl, mset_same, ?_⟩)))
    rw [mdel_mset nl, List.length_map, List.take_length]; exact q
/-! ### bindings -/
theorem sc28 : FnScope ["web", "rows", "left", "at", "name", "others", "found", "knot", "here", "row"] ["web", "rows", "left", "at"] (defScope (top 28)) := ⟨rfl, rfl, rfl, by decide +kernel, rfl, by decide +kernel, by decide +kernel⟩
def S_binds (C : Addr) (n : Nat) : DSp := fun ds μ Q => ∃ d d2 W rs left b, ds = [d, d2, .lst (left.map .str), dB b] ∧ left.length ≤ n ∧ WebAt C μ d W ∧ WbOk W ∧ FSq d2 (rs.map dPR) ∧ (∀ r ∈ rs, r.ok) ∧ BindOk W b ∧ b.length + n ≤ 1000 ∧
  (∀ r ∈ rs, ∀ x ∈ r.vs, hasV b x = true ∨ x ∈ left) ∧ Q (.lst ((binds W rs left b).map dB)) μ
theorem putB_len (b : Bind) (x : Str) (n : Int) : (putB b x n).length ≤ b.length + 1 := by
  unfold putB; split <;> simp
theorem all_comp {α : Type} (xs : List α) (p : α → Bool) : ((xs.filter fun _ => true).map fun x => D.bl (p x)) = (xs.map p).map D.bl := by
  rw [filter_true, List.map_map]; rfl
theorem all_id {α : Type} (xs : List α) (p : α → Bool) : (xs.map p).all id = xs.all p := by rw [List.all_map]; rfl
theorem d_binds (fr : Free mg) (hH : DefAt P w K mg base T 6 "holds_plain" (S_holdsP C)) (hWk : DefAt P w K mg base T 1 "with_knot" S_with) (hWt : DefAt P w K mg base T 5 "waiting_on" S_wait) (hKn : MethAt P w K mg base T 1 C "knots" (S_knots C)) (F : FnP K "bindings" (top 28) f fd) (g : mg "bindings" = some (.ref f)) : ∀ n : Nat, n ≤ 8 → DefAt P w K mg base T (7 + n) "bindings" (S_binds C n) := by
  have main : ∀ (n : Nat), n ≤ 8 → (∀ m, n = m + 1 → DefAt P w K mg base T (7 + m) "bindings" (S_binds C m)) → DefAt P w K mg base T (7 + n) "bindings" (S_binds C n) := by
    intro n hn8 rec
    have e7 : 7 + n = (6 + n) + 1 := by omega
    rw [e7]
    refine defAt_of F g (ps := ["web", "rows", "left", "at"]) (fun _ _ _ _ _ _ us hl => match us, hl with | [_, _, _, _], _ => rfl) (fn_okD F sc28 (fun ds μ Q ⟨_, _, _, _, _, _, h, _⟩ => by rw [h]; rfl) fun cdv A outer s H E ds μ Q hr ⟨d, d2, W, rs, left, b, e, hlen, ⟨a, dx, ed, em⟩, ok, fs, rok, bok, hbl, hvar, q⟩ => ?_)
    subst e ed
    refine wss_cons (ws_if (wt_eqNil hr.u1 (we_var 2 rfl ⟨_, .lst, ?_⟩)))
    cases left with
    | nil =>
      refine wss_one (ws_ret (we_if (wt_val (we_all rfl fr.all rfl (we_lc 9 sc28.nd rfl (blkOk_by (by kernel_rfl)) (wi_seq (we_var 1 rfl ⟨_, fs, fun hz => ?_⟩)))))))
      refine lc_fm rs dPR (fun _ => true) (fun r => .bl (holdsP W r b)) ⟨rs.map (fun r => holdsP W r b), by rw [all_comp]; exact .lst, _, rfl, ?_⟩ fun r hrm s H C cl fp => ⟨rfl, rfl, fun _ s H C cl fp => ?_⟩
      · rw [all_id]
        have q : Q (.lst ((if (rs.all fun r => holdsP W r b) = true then [b] else []).map dB)) μ := q
        cases h : rs.all fun r => holdsP W r b with
        | true =>
          rw [h, if_pos rfl] at q
          exact we_lst (wa_one (we_var 3 rfl ⟨by rw [sizeLine_eq]; simp, q⟩))
        | false =>
          rw [h, if_neg (by simp)] at q
          exact we_lst (wa_nil ⟨Nat.zero_le _, q⟩)
      · refine we_call hH hr (wa_cons (we_var 0 rfl (wa_two (we_var 9 rfl (we_var 3 rfl ⟨_, W, r, b, rfl, ⟨a, dx, rfl, em⟩, ok, rok r hrm, bok.gives fun x hx => ?_, rfl, rfl⟩))))) (by omega)
        exact (hvar r hrm x hx).resolve_right (by simp)
    | cons x xs =>
      refine wss_nil ?_
      obtain ⟨m, rfl⟩ : ∃ m, n = m + 1 := ⟨n - 1, by rw [List.length_cons] at hlen; omega⟩
      have hrec := rec m rfl
      have hlen' : xs.length ≤ m := by rw [List.length_cons] at hlen; omega
      refine wss_cons (ws_asg (ks := [4, 5]) (we_var 2 rfl (wg_star2 rfl ⟨_, _, .lst, wgs_cons (wg_name 4 sc28.nd (wgs_cons (wg_name 5 sc28.nd (wgs_nil ?_))))⟩)))
      refine wss_cons (ws_set 6 sc28.nd (we_lstM (wa_nil ⟨Nat.zero_le _, fun l nl => ?_⟩)))
      have em' : ∀ o, mset μ l o a = some (.mi C dx (webF W)) := fun o => by rw [mset_ne (by rintro rfl; rw [nl] at em; cases em)]; exact em
      let step : (Int × Str × List (Str × D)) → List Bind := fun k => if ((waitOn rs (putB b x k.1) x).all fun r => holdsP W r (putB b x k.1)) = true then binds W rs xs (putB b x k.1) else []
      have hstep : ∀ k, (step k).length ≤ 4 ^ xs.length := fun k => by
        show (if _ = true then _ else _ : List Bind).length ≤ _
        split
        · exact binds_len ok rs xs _
        · simp
      have hsz : ∀ j, ((W.knots.take j).flatMap step).length ≤ j * 4 ^ xs.length := by
        intro j
        have key : ∀ ks : List (Int × Str × List (Str × D)), (ks.flatMap step).length ≤ ks.length * 4 ^ xs.length := by
          intro ks
          induction ks with
          | nil => simp
          | cons k ks ih =>
            rw [List.flatMap_cons, List.length_append, List.length_cons, Nat.succ_mul]
            have := hstep k; omega
        refine Nat.le_trans (key _) (Nat.mul_le_mul_right _ ?_)
        rw [List.length_take]; omega
      have hpow : 4 ^ xs.length ≤ 4 ^ 8 := Nat.pow_le_pow_right (by decide) (by omega)
      refine wss_cons (ws_for (ks := [7]) rfl (wi_seq (we_meth0 hKn hr (we_var 0 rfl ⟨a, dx, _, rfl, em' _, rfl, _, W, rfl, ⟨a, dx, rfl, em' _⟩, _, .lst, fun hz => ⟨fun j G' μ' => (∃ o7 o8 o9, G' = [some (.ref a), some d2, some (.lst ((x :: xs).map .str)), some (dB b), some (.str x), some (.lst (xs.map .str)), some (.ref l), o7, o8, o9]) ∧ μ' = mset μ l (.ml (((W.knots.take j).flatMap step).map dB)), ⟨⟨_, _, _, rfl⟩, rfl⟩, ?_, ?_⟩⟩) (by omega))))
      · rintro j d1 _ _ ed ⟨⟨o7, o8, o9, rfl⟩, rfl⟩
        rw [List.getElem?_map] at ed
        cases ex : W.knots[j]? with
        | none => rw [ex] at ed; cases ed
        | some k =>
          rw [ex] at ed; cases ed
          have hkm : k ∈ W.knots := List.mem_of_getElem? ex
          have hj : j < W.knots.length := (List.getElem?_eq_some_iff.mp ex).1
          have hj4 := ok.few
          have hk : IsK W k.1 := by
            unfold IsK look
            cases z : W.knots.find? fun p => decide (p.1 = k.1) with
            | some p => exact ⟨_, rfl⟩
            | none => exact absurd (List.find?_eq_none.mp z k hkm) (by simp)
          have et : (W.knots.take (j + 1)).flatMap step = (W.knots.take j).flatMap step ++ step k := by
            rw [List.take_add_one, ex, Option.toList, List.flatMap_append]; simp
          have bok2 := bok.put (x := x) hk
          refine wg_name 7 sc28.nd (wss_cons (ws_set 8 sc28.nd (we_call hWk hr (wa_cons (we_var 3 rfl (wa_two (we_var 4 rfl (we_var 7 rfl ⟨b, x, k.1, rfl, by omega, ?_⟩))))) (by omega))))
          refine wss_one (ws_if (wt_val (we_all rfl fr.all rfl (we_lc 9 sc28.nd rfl (blkOk_by (by kernel_rfl)) (wi_seq (we_call hWt hr (wa_cons (we_var 1 rfl (wa_two (we_var 8 rfl (we_var 4 rfl ⟨d2, putB b x k.1, x, rs, rfl, fs, rok, _, .lst, fun hz2 => ?_⟩))))) (by omega)))))))
          refine lc_fm (waitOn rs (putB b x k.1) x) dPR (fun _ => true) (fun r => .bl (holdsP W r (putB b x k.1))) ⟨(waitOn rs (putB b x k.1) x).map (fun r => holdsP W r (putB b x k.1)), by rw [all_comp]; exact .lst, _, rfl, ?_⟩ fun r hrm s H C cl fp => ⟨rfl, rfl, fun _ s H C cl fp => ?_⟩
          · rw [all_id]
            cases h : (waitOn rs (putB b x k.1) x).all fun r => holdsP W r (putB b x k.1) with
            | true =>
              have es : step k = binds W rs xs (putB b x k.1) := if_pos h
              rw [if_pos rfl]
              refine wss_one (ws_expr (we_extend (we_var 6 rfl ⟨l, rfl, ⟨_, mset_same⟩, we_call hrec hr (wa_cons (we_var 0 rfl (wa_cons (we_var 1 rfl (wa_two (we_var 5 rfl (we_var 8 rfl ⟨_, d2, W, rs, xs, putB b x k.1, rfl, hlen', ⟨a, dx, rfl, em' _⟩, ok, fs, rok, bok2, ?_, ?_, _, _, mset_same, .lst, ?_, ⟨_, _, _, rfl⟩, ?_⟩))))))) (by omega)⟩)))
              · have := putB_len b x k.1; omega
              · intro r hrm y hy
                rw [has_put]
                rcases hvar r hrm y hy with z | z
                · exact .inl (by rw [z]; rfl)
                · rcases List.mem_cons.mp z with z | z
                  · exact .inl (by rw [z]; simp)
                  · exact .inr z
              · rw [List.length_map, List.length_map, ← es]
                have h1 := hsz j
                have h2 := hstep k
                have h3 : j * 4 ^ xs.length ≤ 4 * 4 ^ 8 := Nat.mul_le_mul (by omega) hpow
                rw [sizeLine_eq]; omega
              · rw [mset_mset, ← List.map_append, et, es]
            | false =>
              have es : step k = [] := if_neg (by rw [h]; simp)
              rw [if_neg (by simp)]
              exact wss_nil ⟨⟨_, _, _, rfl⟩, by rw [et, es, List.append_nil]⟩
          · have hr2 := List.mem_filter.mp hrm
            refine we_call hH hr (wa_cons (we_var 0 rfl (wa_two (we_var 9 rfl (we_var 8 rfl ⟨_, W, r, putB b x k.1, rfl, ⟨a, dx, rfl, em' _⟩, ok, rok r hr2.1, bok2.gives fun y hy => ?_, rfl, rfl⟩))))) (by omega)
            have h3 := (Bool.and_eq_true_iff.mp hr2.2).2
            exact List.all_eq_true.mp h3 y ((prVars_mem r y).mpr hy)
      · rintro _ _ ⟨⟨o7, o8, o9, rfl⟩, rfl⟩
        refine wss_one (ws_ret (we_freezeL (we_var 6 rfl ⟨l, _, rfl, mset_same, ?_⟩)))
        rw [mdel_mset nl, List.length_map, List.take_length]; exact q
  intro n
  induction n with
  | zero => intro h; exact main 0 h fun m e => nomatch e
  | succ n ih => intro h; exact main (n + 1) h fun m e => by cases e; exact ih (by omega)
end
end Ws
/-! D6: what holds of any row; all bindings; what is shown. -/
namespace Ws
open PySem PyProof.Rows PySem.Spec L2

def holdsR (W : Wb) : Row → Bind → Bool
  | .p r, b => holdsP W r b
  | .no rs, b => (binds W rs ((Row.no rs).vars.filter fun x => !hasV b x) b).isEmpty
theorem binds_ok {W : Wb} {rs : List PRow} : ∀ {xs : List Str} {b c : Bind}, c ∈ binds W rs xs b → BindOk W b → BindOk W c ∧ (∀ x, x ∈ xs ∨ hasV b x = true → hasV c x = true) ∧ c.length ≤ b.length + xs.length
  | [], b, c, h, ok => by
    unfold binds at h
    split at h
    · rw [List.mem_singleton.mp h]
      exact ⟨ok, fun x hx => hx.resolve_left (by simp), by simp⟩
    · cases h
  | x :: xs, b, c, h, ok => by
    unfold binds at h
    obtain ⟨k, hk, h⟩ := List.mem_flatMap.mp h
    split at h
    · have hkk : IsK W k.1 := by
        unfold IsK look
        cases z : W.knots.find? fun p => decide (p.1 = k.1) with
        | some p => exact ⟨_, rfl⟩
        | none => exact absurd (List.find?_eq_none.mp z k hk) (by simp)
      obtain ⟨h1, h2, h3⟩ := binds_ok h (ok.put (x := x) hkk)
      refine ⟨h1, fun y hy => h2 y ?_, ?_⟩
      · rw [has_put]
        rcases hy with hy | hy
        · rcases List.mem_cons.mp hy with e | e
          · right; rw [e]; simp
          · exact .inl e
        · right; rw [hy]; rfl
      · have := putB_len b x k.1
        rw [List.length_cons]; omega
    · cases h
def plainOf (rs : List Row) : List PRow := rs.filterMap fun | .p r => some r | .no _ => none
def others (rs : List Row) : List Row := rs.filter fun r => !r.isP
theorem outer_plain (rs : List Row) : (outer rs).map dRow = (plainOf rs).map dPR := by
  unfold outer plainOf
  induction rs with
  | nil => rfl
  | cons r rs ih =>
    cases r with
    | p r => rw [List.filter_cons_of_pos rfl, List.map_cons, ih]; rfl
    | no ps => rw [List.filter_cons_of_neg (by simp [Row.isP]), ih]; rfl
theorem plain_mem {rs : List Row} {r : PRow} : r ∈ plainOf rs ↔ Row.p r ∈ rs := by
  unfold plainOf
  rw [List.mem_filterMap]
  constructor
  · rintro ⟨x, hx, e⟩
    cases x with
    | p r' => simp at e; rw [← e]; exact hx
    | no _ => cases e
  · intro h; exact ⟨_, h, rfl⟩
theorem vin_mem (rs : List Row) (x : Str) : x ∈ varsIn rs ↔ ∃ r ∈ rs, x ∈ r.vars := by
  unfold varsIn
  have : ∀ xs : List Str, uniq xs = uq xs := fun _ => rfl
  rw [this, uq_mem, List.mem_flatMap]
theorem vin_nodup (rs : List Row) : (varsIn rs).Nodup := uq_nodup _
theorem vars_nodup (r : Row) : r.vars.Nodup := by cases r <;> exact uq_nodup _
theorem no_vars_mem {rs : List PRow} {x : Str} : x ∈ (Row.no rs).vars ↔ ∃ r ∈ rs, x ∈ r.vs := by
  have : ∀ xs : List Str, uniq xs = uq xs := fun _ => rfl
  show x ∈ uniq (rs.flatMap prVars) ↔ _
  rw [this, uq_mem, List.mem_flatMap]
  constructor <;> (rintro ⟨r, h1, h2⟩; exact ⟨r, h1, by first | exact (prVars_mem r x).mp h2 | exact (prVars_mem r x).mpr h2⟩)
/-- a question as it comes -/
structure QOk (shown : List Str) (rs : List Row) : Prop where
  rows : RowsOk rs
  vars : (varsIn rs).length ≤ 4
  sub : ∀ x ∈ shown, x ∈ varsIn (outer rs)
  few : shown.length ≤ 20
theorem QOk.row_vars {shown : List Str} {rs : List Row} (h : QOk shown rs) {r : Row} (hr : r ∈ rs) : r.vars.length ≤ 4 :=
  Nat.le_trans (nodup_sub_len r.vars (varsIn rs) (vars_nodup r) fun x hx => (vin_mem rs x).mpr ⟨r, hr, hx⟩) h.vars
theorem QOk.outer_vars {shown : List Str} {rs : List Row} (h : QOk shown rs) : (varsIn (outer rs)).length ≤ 4 :=
  Nat.le_trans (nodup_sub_len _ (varsIn rs) (vin_nodup _) fun x hx => by
    obtain ⟨r, h1, h2⟩ := (vin_mem _ x).mp hx
    exact (vin_mem _ x).mpr ⟨r, (List.mem_filter.mp h1).1, h2⟩) h.vars
def allB (W : Wb) (rs : List Row) (ys : List Str) : List Bind := (binds W (plainOf rs) ys []).filter fun b => (others rs).all fun r => holdsR W r b
def shownOf (shown : List Str) (b : Bind) : List Int := shown.map (valB b)
def tupI (t : List Int) : D := .tup (t.map .int)

section
variable {P : Program} {w : World} {K : PySem.W.Frag} {mg : Str → Option Value} {base : Heap} {T : TabS} {f C : Addr} {fd : FuncData}
theorem sc25 : FnScope ["web", "row", "at"] ["web", "row", "at"] (defScope (top 25)) := ⟨rfl, rfl, rfl, by decide +kernel, rfl, by decide +kernel, by decide +kernel⟩
def S_holdsR (C : Addr) : DSp := fun ds μ Q => ∃ d W r b, ds = [d, dRow r, dB b] ∧ WebAt C μ d W ∧ WbOk W ∧ r.fine ∧ BindOk W b ∧ b.length ≤ 900 ∧ r.vars.length ≤ 4 ∧ (∀ p, r = .p p → ∀ x ∈ p.vs, hasV b x = true) ∧ Q (.bl (holdsR W r b)) μ
theorem d_holdsR (hH : DefAt P w K mg base T 6 "holds_plain" (S_holdsP C)) (hA : DefAt P w K mg base T 5 "alone_in" S_alone) (hB : DefAt P w K mg base T 11 "bindings" (S_binds C 4)) (F : FnP K "holds_row" (top 25) f fd) (g : mg "holds_row" = some (.ref f)) : DefAt P w K mg base T 12 "holds_row" (S_holdsR C) := by
  refine defAt_of F g (ps := ["web", "row", "at"]) (fun _ _ _ _ _ _ us hl => match us, hl with | [_, _, _], _ => rfl) (fn_okD F sc25 (fun ds μ Q ⟨_, _, _, _, h, _⟩ => by rw [h]; rfl) fun cdv A outer s H E ds μ Q hr ⟨d, W, r, b, e, ⟨a, dx, ed, em⟩, ok, rf, bok, hbl, hv4, hp, q⟩ => ?_)
  subst e ed
  refine wss_cons (ws_if (wt_ne (we_ix (we_var 1 rfl (we_int ⟨_, _, _, .tup, rfl, atI_zero, we_str ⟨_, scal_str, ?_⟩⟩)))))
  rw [kd_no]
  cases r with
  | p r => exact wss_one (ws_ret (we_call hH hr (wa_cons (we_var 0 rfl (wa_two (we_var 1 rfl (we_var 2 rfl ⟨_, W, r, b, rfl, ⟨a, dx, rfl, em⟩, ok, rf, bok.gives (hp r rfl), q⟩)))))))
  | no rs =>
    refine wss_nil (wss_one (ws_ret (we_eqNil hr.u1 (we_call hB hr (wa_cons (we_var 0 rfl (wa_cons (we_ix (we_var 1 rfl (we_int ⟨_, _, _, .tup, rfl, rfl, ?_⟩))))))))))
    refine wa_two (we_call hA hr (wa_two (we_var 1 rfl (we_var 2 rfl ⟨.no rs, b, rfl, rf, ?_⟩))))
    refine we_var 2 rfl ⟨_, _, W, rs, (Row.no rs).vars.filter (fun x => !hasV b x), b, rfl, ?_, ⟨a, dx, rfl, em⟩, ok, .tup, rf.2, bok, by omega, ?_, _, .lst, ?_⟩
    · exact Nat.le_trans (List.length_filter_le _ _) hv4
    · intro r hr x hx
      cases h : hasV b x with
      | true => exact .inl rfl
      | false => exact .inr (List.mem_filter.mpr ⟨no_vars_mem.mpr ⟨r, hr, hx⟩, by rw [h]; rfl⟩)
    · have e : ((binds W rs ((Row.no rs).vars.filter fun x => !hasV b x) b).map dB).isEmpty = (binds W rs ((Row.no rs).vars.filter fun x => !hasV b x) b).isEmpty := by
        cases binds W rs ((Row.no rs).vars.filter fun x => !hasV b x) b <;> rfl
      rw [e]; exact q
/-! ### shown_of -/
theorem sc30 : FnScope ["question", "at", "name"] ["question", "at"] (defScope (top 30)) := ⟨rfl, rfl, rfl, by decide +kernel, rfl, by decide +kernel, by decide +kernel⟩
def S_shown : DSp := fun ds μ Q => ∃ shown rs b, ds = [dQ shown rs, dB b] ∧ (∀ x ∈ shown, hasV b x = true) ∧ Q (tupI (shownOf shown b)) μ
theorem d_shown (fr : Free mg) (F : FnP K "shown_of" (top 30) f fd) (g : mg "shown_of" = some (.ref f)) : DefAt P w K mg base T 1 "shown_of" S_shown := by
  refine defAt_of F g (ps := ["question", "at"]) (fun _ _ _ _ _ _ us hl => match us, hl with | [_, _], _ => rfl) (fn_okD F sc30 (fun ds μ Q ⟨_, _, _, h, _⟩ => by rw [h]; rfl) fun cdv A outer s H E ds μ Q hr ⟨sh, rs, b, e, hs, q⟩ => ?_)
  subst e
  refine wss_one (ws_ret (we_tuple rfl fr.tuple (we_lc 2 sc30.nd rfl (blkOk_by (by kernel_rfl)) (wi_seq (we_ix (we_var 0 rfl (we_int ⟨_, _, _, .tup, rfl, rfl, _, .tup, fun hz => ?_⟩)))))))
  refine lc_fm sh .str (fun _ => true) (fun x => .int (valB b x)) ⟨_, .lst, ?_⟩ fun x hx s H C cl fp => ⟨rfl, rfl, fun _ s H C cl fp => ?_⟩
  · rw [filter_true]
    have e : sh.map (fun x => D.int (valB b x)) = (shownOf sh b).map .int := by unfold shownOf; rw [List.map_map]; rfl
    rw [e]; exact q
  · have h1 := hs x hx
    rw [has_get] at h1
    obtain ⟨n, hn⟩ := Option.isSome_iff_exists.mp h1
    have e : valB b x = n := by unfold valB; rw [hn]; rfl
    exact we_dget hr.u1 (we_var 1 rfl (we_var 2 rfl ⟨_, .inr x, _, .dic, rfl, by rw [valD_bind, hn]; rfl, by rw [e], rfl⟩))
/-! ### all_bindings -/
theorem sc29 : FnScope ["web", "question", "begun", "plain", "others", "left", "found", "row", "name", "at"] ["web", "question", "begun"] (defScope (top 29)) := ⟨rfl, rfl, rfl, by decide +kernel, rfl, by decide +kernel, by decide +kernel⟩
def S_allB (C : Addr) : DSp := fun ds μ Q => ∃ d W shown rs, ds = [d, dQ shown rs, dB []] ∧ WebAt C μ d W ∧ WbOk W ∧ QOk shown rs ∧ ∀ ys : List Str, ys.Perm (varsIn (outer rs)) → Q (.lst ((allB W rs ys).map dB)) μ
theorem d_allB (fr : Free mg) (hO : DefAt P w K mg base T 6 "outer_variables" S_ovars) (hB : DefAt P w K mg base T 11 "bindings" (S_binds C 4)) (hR : DefAt P w K mg base T 12 "holds_row" (S_holdsR C)) (F : FnP K "all_bindings" (top 29) f fd) (g : mg "all_bindings" = some (.ref f)) : DefAt P w K mg base T 13 "all_bindings" (S_allB C) := by
  refine defAt_of F g (ps := ["web", "question", "begun"]) (fun _ _ _ _ _ _ us hl => match us, hl with | [_, _, _], _ => rfl) (fn_okD F sc29 (fun ds μ Q ⟨_, _, _, _, h, _⟩ => by rw [h]; rfl) fun cdv A outer s H E ds μ Q hr ⟨d, W, sh, rs, e, ⟨a, dx, ed, em⟩, ok, qok, q⟩ => ?_)
  subst e ed
  refine wss_cons (ws_lc 3 7 sc29.nd rfl (blkOk_by (by kernel_rfl)) (wi_seq (we_ix (we_var 1 rfl (we_int ⟨_, _, _, .tup, rfl, rfl, _, .tup, fun hz => ?_⟩)))))
  refine lc_fm rs dRow Row.isP dRow ?_ fun r _ s H C cl fp => wt_ne (we_ix (we_var 7 rfl (we_int ⟨_, _, _, .tup, rfl, atI_zero, we_str ⟨_, scal_str, by rw [kd_no]; simp, rfl, fun hp s H C cl fp => we_var 7 rfl ⟨rfl, rfl⟩⟩⟩)))
  refine wss_cons (ws_set 4 sc29.nd (we_lc 7 sc29.nd rfl (blkOk_by (by kernel_rfl)) (wi_seq (we_ix (we_var 1 rfl (we_int ⟨_, _, _, .tup, rfl, rfl, _, .tup, fun hz2 => ?_⟩))))))
  refine lc_fm rs dRow (fun r => !r.isP) dRow ?_ fun r _ s H C cl fp => wt_eq (we_ix (we_var 7 rfl (we_int ⟨_, _, _, .tup, rfl, atI_zero, we_str ⟨_, scal_str, by rw [kd_no], rfl, fun hp s H C cl fp => we_var 7 rfl ⟨rfl, rfl⟩⟩⟩)))
  refine wss_cons (ws_lc 5 8 sc29.nd rfl (blkOk_by (by kernel_rfl)) (wi_seq (we_call hO hr (wa_one (we_var 1 rfl ⟨sh, rs, rfl, qok.rows, ?_, fun ys hys => ⟨_, .lst, fun hz3 => ?_⟩⟩)))))
  · exact Nat.le_trans (List.length_filter_le _ _) qok.rows.1
  refine lc_fm ys .str (fun _ => true) .str ?_ fun x _ s H C cl fp => wt_dnotin hr.u1 (we_var 8 rfl (we_var 2 rfl ⟨[], .inr x, .dic, rfl, rfl, rfl, fun hp s H C cl fp => we_var 8 rfl ⟨rfl, rfl⟩⟩))
  rw [filter_true]
  have hlen : ys.length ≤ 4 := by rw [hys.length_eq]; exact qok.outer_vars
  refine wss_cons (ws_set 6 sc29.nd (we_call hB hr (wa_cons (we_var 0 rfl (wa_cons (we_var 3 rfl (wa_two (we_var 5 rfl (we_var 2 rfl ⟨_, _, W, plainOf rs, ys, [], rfl, hlen, ⟨a, dx, rfl, em⟩, ok, ?_, ?_, ?_, by simp, ?_, ?_⟩)))))))))
  · have := outer_plain rs
    unfold Ws.outer at this
    rw [this]; exact .lst
  · intro r hr2; exact qok.rows.2 _ (plain_mem.mp hr2)
  · intro p hp; cases hp
  · intro r hr2 x hx
    refine .inr (hys.mem_iff.mpr ((vin_mem _ x).mpr ⟨.p r, List.mem_filter.mpr ⟨plain_mem.mp hr2, rfl⟩, (prVars_mem r x).mpr hx⟩))
  refine wss_one (ws_ret (we_lc 9 sc29.nd rfl (blkOk_by (by kernel_rfl)) (wi_seq (we_var 6 rfl ⟨_, .lst, fun hz4 => ?_⟩))))
  refine lc_fm (binds W (plainOf rs) ys []) dB (fun b => (others rs).all fun r => holdsR W r b) dB (q ys hys) fun b hb s H C0 cl fp => ?_
  obtain ⟨b1, b2, b3⟩ := binds_ok hb (fun p hp => by cases hp)
  refine wt_val (we_all rfl fr.all rfl (we_lc 7 sc29.nd rfl (blkOk_by (by kernel_rfl)) (wi_seq (we_var 4 rfl ⟨_, .lst, fun hz5 => ?_⟩))))
  refine lc_fm (others rs) dRow (fun _ => true) (fun r => .bl (holdsR W r b)) ⟨(others rs).map (fun r => holdsR W r b), by rw [all_comp]; exact .lst, _, rfl, by rw [all_id], rfl, fun hp s H C cl fp => we_var 9 rfl ⟨rfl, rfl⟩⟩ fun r hrm s H C1 cl fp => ⟨rfl, rfl, fun _ s H C1 cl fp => ?_⟩
  have hrr := List.mem_filter.mp hrm
  refine we_call hR hr (wa_cons (we_var 0 rfl (wa_two (we_var 7 rfl (we_var 9 rfl ⟨_, W, r, b, rfl, ⟨a, dx, rfl, em⟩, ok, qok.rows.2 r hrr.1, b1, ?_, qok.row_vars hrr.1, ?_, rfl, rfl⟩)))))
  · rw [List.length_nil] at b3; omega
  · rintro p rfl; exact absurd hrr.2 (by simp [Row.isP])
end
end Ws
/-! D7: plans, first part: wanted_by, is_ready, first_of, step_of. -/
namespace Ws
open PySem PyProof.Rows PySem.Spec L2

def wantedBy (r : Row) (outer : List Str) : List Str := r.vars.filter fun x => decide (x ∈ outer)
def ready (r : Row) (bs outer : List Str) : Bool := (wantedBy r outer).all fun x => decide (x ∈ bs)
theorem atI_nat {ds : List D} (n : Nat) : atI ds (n : Int) = ds[n]? := by
  unfold atI ixN
  by_cases h : n < ds.length
  · have : (n : Int) < ds.length := by omega
    simp [this]
  · have h2 : ¬ ((n : Int) < ds.length) := by omega
    have h3 : ds[n]? = none := List.getElem?_eq_none (by omega)
    simp [h2, h3]
section
variable {P : Program} {w : World} {K : PySem.W.Frag} {mg : Str → Option Value} {base : Heap} {T : TabS} {f C : Addr} {fd : FuncData}
theorem sc33 : FnScope ["row", "outer", "one"] ["row", "outer"] (defScope (top 33)) := ⟨rfl, rfl, rfl, by decide +kernel, rfl, by decide +kernel, by decide +kernel⟩
def S_wanted : DSp := fun ds μ Q => ∃ (r : Row) (outer : List Str), ds = [dRow r, .lst (outer.map .str)] ∧ r.fine ∧ Q (.lst ((wantedBy r outer).map .str)) μ
theorem d_wanted (hV : DefAt P w K mg base T 4 "variables_of" S_var) (F : FnP K "wanted_by" (top 33) f fd) (g : mg "wanted_by" = some (.ref f)) : DefAt P w K mg base T 5 "wanted_by" S_wanted := by
  refine defAt_of F g (ps := ["row", "outer"]) (fun _ _ _ _ _ _ us hl => match us, hl with | [_, _], _ => rfl) (fn_okD F sc33 (fun ds μ Q ⟨_, _, h, _⟩ => by rw [h]; rfl) fun cdv A outer s H E ds μ Q hr ⟨r, out, e, hf, q⟩ => ?_)
  subst e
  refine wss_one (ws_ret (we_lc 2 sc33.nd rfl (blkOk_by (by kernel_rfl)) (wi_seq (we_call hV hr (wa_one (we_var 0 rfl ⟨r, rfl, hf, _, .lst, fun hz => ?_⟩))))))
  refine lc_fm r.vars .str (fun x => decide (x ∈ out)) .str q fun x _ s H C cl fp => ?_
  exact wt_in rfl (we_var 2 rfl (we_var 1 rfl ⟨_, _, .lst, in_strs x out, rfl, rfl, fun _ s H C cl fp => we_var 2 rfl ⟨rfl, rfl⟩⟩))
theorem sc34 : FnScope ["row", "bound", "outer", "one"] ["row", "bound", "outer"] (defScope (top 34)) := ⟨rfl, rfl, rfl, by decide +kernel, rfl, by decide +kernel, by decide +kernel⟩
def S_ready : DSp := fun ds μ Q => ∃ (r : Row) (db : D) (bs outer : List Str), ds = [dRow r, db, .lst (outer.map .str)] ∧ r.fine ∧ Sq μ db (bs.map .str) ∧ Q (.bl (ready r bs outer)) μ
theorem d_ready (fr : Free mg) (hW : DefAt P w K mg base T 5 "wanted_by" S_wanted) (F : FnP K "is_ready" (top 34) f fd) (g : mg "is_ready" = some (.ref f)) : DefAt P w K mg base T 6 "is_ready" S_ready := by
  refine defAt_of F g (ps := ["row", "bound", "outer"]) (fun _ _ _ _ _ _ us hl => match us, hl with | [_, _, _], _ => rfl) (fn_okD F sc34 (fun ds μ Q ⟨_, _, _, _, h, _⟩ => by rw [h]; rfl) fun cdv A outer s H E ds μ Q hr ⟨r, db, bs, out, e, hf, hq, q⟩ => ?_)
  subst e
  refine wss_one (ws_ret (we_all rfl fr.all rfl (we_lc 3 sc34.nd rfl (blkOk_by (by kernel_rfl)) (wi_seq (we_call hW hr (wa_two (we_var 0 rfl (we_var 2 rfl ⟨r, out, rfl, hf, _, .lst, fun hz => ?_⟩))))))))
  refine lc_fm (wantedBy r out) .str (fun _ => true) (fun x => .bl (decide (x ∈ bs))) ⟨(wantedBy r out).map (fun x => decide (x ∈ bs)), by rw [all_comp]; exact .lst, by rw [all_id]; exact q⟩ fun x _ s H C cl fp => ⟨rfl, rfl, fun _ s H C cl fp => ?_⟩
  exact we_in rfl (we_var 3 rfl (we_var 1 rfl ⟨_, _, hq, in_strs x bs, rfl, rfl⟩))

/-! ### first_of with a lambda -/
theorem sc35 : FnScope ["rows", "left", "look", "at"] ["rows", "left", "look"] (defScope (top 35)) := ⟨rfl, rfl, rfl, by decide +kernel, rfl, by decide +kernel, by decide +kernel⟩
/-- what a lambda of one row says -/
def LamSays (P : Program) (w : World) (K : PySem.W.Frag) (mg : Str → Option Value) (base : Heap) (T : TabS) (k : Nat) (N fr : List Str) (L : LamI) (caps : List D) (μ : Mu) (l : Row → Bool) : Prop :=
  NdefX.NScope N ["row"] fr L.scope ∧ (∀ (pm ctv : Value) (us : List Value), us.length = 1 → bindArgs (PySem.W.kla_fn "<lambda>" L.qual L.params L.body L.scope L.cl pm (.ref L.c) ctv) ⟨us, []⟩ = pure ([("row" : Str)].zip us)) ∧
  ∀ (r : Row), r.fine → ∀ (f : Addr) (A : Around) (outer : List Env) (s : Shared) (H : Hp), Room k (A.deeper (NdefX.envF (nfOf L) f s.heap.objs.size)) →
    WE (NdefX.ncx CX0 P w K mg base N (nfOf L) f A outer s H (fun _ _ _ => False)).nox (tab0 T) (some (dRow r) :: (caps.map some ++ List.replicate (N.length - 1 - caps.length) none)) μ L.body fun d μ1 => d = .bl (l r) ∧ μ1 = μ
theorem first_walk {k : Nat} {N fr : List Str} {L : LamI} {caps : List D} {μ : Mu} {l : Row → Bool} {rs : List Row} {d1 : D} {la : Addr} {left : List Nat} {cdv : Value} {A : Around} {outer : List Env} {s : Shared} {H : Hp} {E : XK} {E' : DE} (hL : LamSays P w K mg base T k N fr L caps μ l) (hr : Room (k + 1) (A.deeper (envOfC "first_of" (defScope (top 35)) s.heap.objs.size f cdv)))
    (fs : FSq d1 (rs.map dRow)) (rok : ∀ r ∈ rs, r.fine) (hle : μ la = some (.ml (left.map fun n => .int (n : Nat)))) (hlt : ∀ n ∈ left, n < rs.length)
    (q1 : ∀ n ∈ left, (∀ r, rs[n]? = some r → l r = true) → E'.rt (.int (n : Nat)) μ) (q2 : (∀ n ∈ left, ∀ r, rs[n]? = some r → l r = false) → E'.rt .non μ) :
    WSs (cxOf CX0 P w K mg base ["rows", "left", "look", "at"] "first_of" (defScope (top 35)) f cdv A outer s H E).nox (tab0 T) (startG ["rows", "left", "look", "at"] [d1, .ref la, .lamC L fr caps s.heap H (frs outer)]) μ (defBody (top 35)) E' := by
  obtain ⟨nS, hb, hbody⟩ := hL
  refine wss_cons (ws_forM (ks := [3]) rfl (we_var 1 rfl ⟨la, _, rfl, hle, fun hz => ⟨fun j G' μ' => (∃ o3, G' = [some d1, some (.ref la), some (.lamC L fr caps s.heap H (frs outer)), o3]) ∧ μ' = μ ∧ ∀ n ∈ left.take j, ∀ r, rs[n]? = some r → l r = false, ⟨⟨_, rfl⟩, rfl, by simp⟩, ?_, ?_, ?_⟩⟩))
  · rintro j _ _ ⟨_, rfl, _⟩; exact hle
  · rintro j d _ _ ed ⟨⟨o3, rfl⟩, rfl, hj⟩
    rw [List.getElem?_map] at ed
    cases ex : left[j]? with
    | none => rw [ex] at ed; cases ed
    | some n =>
      rw [ex] at ed; cases ed
      have hn : n ∈ left := List.mem_of_getElem? ex
      have hnr : n < rs.length := hlt n hn
      have er : rs[n]? = some rs[n] := List.getElem?_eq_getElem hnr
      refine wg_name 3 sc35.nd (wss_one (ws_if (wt_val (we_lamC (i := 2) nS rfl hr (Nat.le_refl _) hb rfl (wa_one (we_ix (we_var 0 rfl (we_var 3 rfl ⟨_, _, _, fs.sq, rfl, by rw [atI_nat, List.getElem?_map, er]; rfl, rfl, fun f2 A2 outer2 s2 H2 hr2 => ?_⟩))))))))
      refine (hbody rs[n] (rok _ (List.getElem_mem hnr)) f2 A2 outer2 s2 H2 hr2).mono fun d μ1 ⟨e1, e2⟩ => ⟨_, e1, ?_⟩
      subst e2
      cases h : l rs[n] with
      | true =>
        rw [if_pos rfl]
        exact wss_one (ws_ret (we_var 3 rfl (q1 n hn fun r e => by rw [er] at e; cases e; exact h)))
      | false =>
        rw [if_neg (by simp)]
        refine wss_nil ⟨⟨_, rfl⟩, rfl, fun m hm r e => ?_⟩
        rw [List.take_add_one, ex, Option.toList, List.mem_append] at hm
        rcases hm with hm | hm
        · exact hj m hm r e
        · rw [List.mem_singleton.mp hm, er] at e; cases e; exact h
  · rintro _ _ ⟨⟨o3, rfl⟩, rfl, hj⟩
    rw [List.length_map, List.take_length] at hj
    exact wss_one (ws_ret (we_non (q2 hj)))

/-! ### step_of -/
theorem fn_okDc {P : Program} {w : World} {K : PySem.W.Frag} {mg : Str → Option Value} {base : Heap} {T : TabS} {x qual : Str} {params : Arguments} {body : List Stmt} {scope : Scope} {dvs : List V} {kws : List (Str × V)} {f : Addr} {fd : FuncData} {N ps : List Str} {k : Nat} {S : DSp} {cd : Value}
    (F : FunD K x qual params body scope dvs kws f fd) (hcd : fd.code = cd) (sc : FnScope N ps scope) (len : ∀ ds μ Q, S ds μ Q → ds.length = ps.length)
    (hbody : ∀ (A : Around) (outer : List Env) (s : Shared) (H : Hp) (E : XK) (ds : List D) (μ : Mu) (Q : D → Mu → Prop), Room k (A.deeper (envOfC qual scope s.heap.objs.size f cd)) → S ds μ Q →
      WSs (cxOf CX0 P w K mg base N qual scope f cd A outer s H E).nox (tab0 T) (startG N ds) μ body { nx := fun _ μ' => Q .non μ', rt := Q }) : FnOk P w K mg base CX0 (k + 1) f fd ps (SpD K T S) := by
  obtain ⟨oc, od, dV, kV, doc, pm, an, cdv, ct, osl, hfd, lk, hcdi, _, _⟩ := F.ex
  subst hfd
  have hcd : cdv = cd := hcd
  subst hcd
  refine fn_of lk hcdi sc (fun vs H Q E h => ?_) (fun A outer s H vs Q E hr h => ?_)
  · obtain ⟨F, μ, R, ds, P', h1, h2, h3, _⟩ := h
    rw [← h2.length]; exact len _ _ _ h3
  · obtain ⟨F', μ, R, ds, P', h1, h2, h3, h4⟩ := h
    refine ⟨_, (pssW body).nox, ?_⟩
    have q := hbody A outer s H E ds μ P' hr h3 F' R H (start N vs) h1 (envr_start h2)
    exact wSs_mono q ⟨fun σ' H' ⟨F2, G2, μ2, a, b, c, d⟩ => h4 _ _ ⟨F2, .non, μ2, a, b, .non, d⟩, fun v H' z => h4 v H' z, fun _ _ ⟨_, _, _, _, _, _, z⟩ => z, fun _ _ ⟨_, _, _, _, _, _, z⟩ => z⟩
/-- the lambdas' says -/
def look0 (bs outer : List Str) (r : Row) : Bool := ready r bs outer
def isTW (r : Row) : Bool := match r with
  | .p (.tie _ _ _) => true | .p (.way _ _ _ _) => true | _ => false
def look1 (bs : List Str) (r : Row) : Bool := isTW r && r.vars.any fun x => decide (x ∈ bs)
def isKn (r : Row) : Bool := match r with
  | .p (.knot _ _) => true | _ => false
theorem kd_tw (r : Row) : inD (.str r.kd) [.str "tie", .str "way"] = some (isTW r) := by
  cases r with
  | p r => cases r <;> rfl
  | no rs => rfl
theorem kd_kn (r : Row) : decide (r.kd = "knot") = isKn r := by
  cases r with
  | p r => cases r <;> rfl
  | no rs => rfl
def lamOf (i : Nat) : Expr := match (defBody (top 36)).getD 0 (.Pass ⟨0, 0, 0, 0⟩) with
  | .Assign _ (.Tuple es _ _) _ => es.getD i (.Constant .none 0 ⟨0, 0, 0, 0⟩)
  | _ => .Constant .none 0 ⟨0, 0, 0, 0⟩
def lamScope (e : Expr) : Scope := match e with
  | .Lambda _ _ s _ => s
  | _ => { kind := .function, names := [], isGenerator := false, isCoroutine := false }
def lamParams (e : Expr) : Arguments := match e with
  | .Lambda a _ _ _ => a
  | _ => ⟨[], [], none, [], [], none, []⟩
def lamBody (e : Expr) : Expr := match e with
  | .Lambda _ b _ _ => b
  | e => e
def lamL (i : Nat) (cl : List (Str × Addr)) (q : Str) (c : Addr) : LamI := ⟨lamParams (lamOf i), lamBody (lamOf i), lamScope (lamOf i), cl, q, c⟩
theorem nsc0 : NdefX.NScope ["row", "bound", "outer"] ["row"] ["bound", "outer"] (lamScope (lamOf 0)) := NdefX.nscope_by (by decide +kernel)
theorem nsc1 : NdefX.NScope ["row", "bound", "one"] ["row"] ["bound"] (lamScope (lamOf 1)) := NdefX.nscope_by (by decide +kernel)
theorem nsc2 : NdefX.NScope ["row"] ["row"] [] (lamScope (lamOf 2)) := NdefX.nscope_by (by decide +kernel)
theorem nsc3 : NdefX.NScope ["row"] ["row"] [] (lamScope (lamOf 3)) := NdefX.nscope_by (by decide +kernel)
theorem says0 {cl : List (Str × Addr)} {q : Str} {c : Addr} {μ : Mu} {db : D} {bs outer : List Str} (hRd : DefAt P w K mg base T 6 "is_ready" S_ready) (hb : Sq μ db (bs.map .str)) : LamSays P w K mg base T 7 ["row", "bound", "outer"] ["bound", "outer"] (lamL 0 cl q c) [db, .lst (outer.map .str)] μ (look0 bs outer) :=
  ⟨nsc0, fun _ _ us hl => match us, hl with | [_], _ => rfl, fun r hf f A outer2 s H hr => we_call hRd hr (wa_cons (we_var 0 rfl (wa_two (we_var 1 rfl (we_var 2 rfl ⟨r, db, bs, outer, rfl, hf, hb, rfl, rfl⟩)))))⟩
theorem says1 (fr : Free mg) {cl : List (Str × Addr)} {q : Str} {c : Addr} {μ : Mu} {db : D} {bs : List Str} (hV : DefAt P w K mg base T 4 "variables_of" S_var) (hb : Sq μ db (bs.map .str)) : LamSays P w K mg base T 7 ["row", "bound", "one"] ["bound"] (lamL 1 cl q c) [db] μ (look1 bs) := by
  refine ⟨nsc1, fun _ _ us hl => match us, hl with | [_], _ => rfl, fun r hf f A outer2 s H hr => ?_⟩
  refine we_and (we_in rfl (we_ix (we_var 0 rfl (we_int ⟨_, _, _, .tup, rfl, atI_zero, we_tup (wa_two (we_str (we_str ⟨by rw [sizeLine_eq]; simp, _, _, .tup, kd_tw r, _, rfl, ?_⟩)))⟩))))
  cases h : isTW r with
  | false => rw [if_neg (by simp)]; exact ⟨by unfold look1; rw [h]; rfl, rfl⟩
  | true =>
    rw [if_pos rfl]
    refine we_one (we_any rfl fr.any rfl (we_lc 2 nsc1.nd rfl (blkOk_by (by kernel_rfl)) (wi_seq (we_call hV hr (wa_one (we_var 0 rfl ⟨r, rfl, hf, _, .lst, fun hz => ?_⟩))))))
    refine lc_fm r.vars .str (fun _ => true) (fun x => .bl (decide (x ∈ bs))) ⟨r.vars.map (fun x => decide (x ∈ bs)), by rw [all_comp]; exact .lst, ?_, rfl⟩ fun x _ s H C cl fp => ⟨rfl, rfl, fun _ s H C cl fp => ?_⟩
    · unfold look1; rw [h, List.any_map]; rfl
    · exact we_in rfl (we_var 2 rfl (we_var 1 rfl ⟨_, _, hb, in_strs x bs, rfl, rfl⟩))
theorem says2 {cl : List (Str × Addr)} {q : Str} {c : Addr} {μ : Mu} : LamSays P w K mg base T 7 ["row"] [] (lamL 2 cl q c) [] μ isKn :=
  ⟨nsc2, fun _ _ us hl => match us, hl with | [_], _ => rfl, fun r hf f A outer2 s H hr => we_eq (we_ix (we_var 0 rfl (we_int ⟨_, _, _, .tup, rfl, atI_zero, we_str ⟨_, scal_str, by rw [kd_kn], rfl⟩⟩)))⟩
theorem says3 {cl : List (Str × Addr)} {q : Str} {c : Addr} {μ : Mu} (hB : GlobD K mg "BINDING" (.tup bindingD)) : LamSays P w K mg base T 7 ["row"] [] (lamL 3 cl q c) [] μ Row.isB :=
  ⟨nsc3, fun _ _ us hl => match us, hl with | [_], _ => rfl, fun r hf f A outer2 s H hr => we_in rfl (we_ix (we_var 0 rfl (we_int ⟨_, _, _, .tup, rfl, atI_zero, we_globD hB ⟨_, _, .tup, in_binding r, rfl, rfl⟩⟩)))⟩
theorem sc36 : FnScope ["rows", "left", "bound", "outer", "looks", "look", "at"] ["rows", "left", "bound", "outer"] (defScope (top 36)) := ⟨rfl, rfl, rfl, by decide +kernel, rfl, by decide +kernel, by decide +kernel⟩
def S_step : DSp := fun ds μ Q => ∃ d1 la db, ∃ rs : List Row, ∃ left : List Nat, ∃ bs outer : List Str, ds = [d1, .ref la, db, .lst (outer.map .str)] ∧ FSq d1 (rs.map dRow) ∧ (∀ r ∈ rs, r.fine) ∧ μ la = some (.ml (left.map fun n => .int (n : Nat))) ∧ left ≠ [] ∧ (∀ n ∈ left, n < rs.length) ∧ Sq μ db (bs.map .str) ∧
  ∀ n ∈ left, ((∀ r, rs[n]? = some r → ready r bs outer = true ∨ r.isB = true) ∨ ∀ m ∈ left, ∀ r, rs[m]? = some r → ready r bs outer = false ∧ r.isB = false) → Q (.int (n : Nat)) μ
theorem isTW_B {r : Row} (h : isTW r = true) : r.isB = true := by
  cases r with
  | p r => cases r <;> first | rfl | cases h
  | no rs => cases h
theorem isKn_B {r : Row} (h : isKn r = true) : r.isB = true := by
  cases r with
  | p r => cases r <;> first | rfl | cases h
  | no rs => cases h
theorem d_step {c Pt : Addr} {f5 : Addr} {fd5 : FuncData} (hRd : DefAt P w K mg base T 6 "is_ready" S_ready) (fr : Free mg) (hV : DefAt P w K mg base T 4 "variables_of" S_var) (hB : GlobD K mg "BINDING" (.tup bindingD)) (F5 : FnP K "first_of" (top 35) f5 fd5) (g5 : mg "first_of" = some (.ref f5))
    (hcd : fd.code = .ref c) (TB : LamX.TabB base mg c Pt) (hm : (Pt, ("step_of.<locals>.<lambda>" : Str)) ∈ T) (hu : ∀ p ∈ T, p.1 = Pt → p.2 = "step_of.<locals>.<lambda>") (F : FnP K "step_of" (top 36) f fd) (g : mg "step_of" = some (.ref f)) : DefAt P w K mg base T 10 "step_of" S_step := by
  refine defAt_of F g (ps := ["rows", "left", "bound", "outer"]) (fun _ _ _ _ _ _ us hl => match us, hl with | [_, _, _, _], _ => rfl) (fn_okDc F hcd sc36 (fun ds μ Q ⟨_, _, _, _, _, _, _, h, _⟩ => by rw [h]; rfl) fun A outer s H E ds μ Q hr ⟨d1, la, db, rs, left, bs, out, e, fs, rok, hle, hne, hlt, hb, q⟩ => ?_)
  subst e
  refine wss_cons (ws_set 4 sc36.nd (we_tup (wa_cons (we_lambda TB rfl hm hu (NdefX.ndef_free (fr := []) (by kernel_rfl)) fun c0 => wa_cons (we_lambda TB rfl hm hu (NdefX.ndef_free (fr := []) (by kernel_rfl)) fun c1 => wa_cons (we_lambda TB rfl hm hu (NdefX.ndef_free (fr := []) (by kernel_rfl)) fun c2 => wa_cons (we_lambda TB rfl hm hu (NdefX.ndef_free (fr := []) (by kernel_rfl)) fun c3 => wa_nil ⟨by rw [sizeLine_eq]; simp, ?_⟩)))))))
  let L0 : LamI := lamL 0 (cloFrom (envOfC "step_of" (defScope (top 36)) s.heap.objs.size f (.ref c)).cells (lamScope (lamOf 0)).names []) "step_of.<locals>.<lambda>" c0
  let L1 : LamI := lamL 1 (cloFrom (envOfC "step_of" (defScope (top 36)) s.heap.objs.size f (.ref c)).cells (lamScope (lamOf 1)).names []) "step_of.<locals>.<lambda>" c1
  let L2 : LamI := lamL 2 (cloFrom (envOfC "step_of" (defScope (top 36)) s.heap.objs.size f (.ref c)).cells (lamScope (lamOf 2)).names []) "step_of.<locals>.<lambda>" c2
  let L3 : LamI := lamL 3 (cloFrom (envOfC "step_of" (defScope (top 36)) s.heap.objs.size f (.ref c)).cells (lamScope (lamOf 3)).names []) "step_of.<locals>.<lambda>" c3
  let ls : List (Row → Bool) := [look0 bs out, look1 bs, isKn, Row.isB]
  have good : ∀ (i : Nat) (l : Row → Bool) (r : Row), ls[i]? = some l → l r = true → ready r bs out = true ∨ r.isB = true := by
    intro i l r hl h
    match i, hl with
    | 0, hl => cases hl; exact .inl h
    | 1, hl => cases hl; exact .inr (isTW_B (Bool.and_eq_true_iff.mp h).1)
    | 2, hl => cases hl; exact .inr (isKn_B h)
    | 3, hl => cases hl; exact .inr h
    | _ + 4, hl => cases hl
  refine wss_cons (ws_for (ks := [5]) rfl (wi_seq (we_var 4 rfl ⟨[.lam L0, .lam L1, .lam L2, .lam L3], .tup, fun hz => ⟨fun j G' μ' => (∃ o5 o6, G' = [some d1, some (.ref la), some db, some (.lst (out.map .str)), some (.tup [.lam L0, .lam L1, .lam L2, .lam L3]), o5, o6]) ∧ μ' = μ ∧ ∀ l ∈ ls.take j, ∀ n ∈ left, ∀ r, rs[n]? = some r → l r = false, ⟨⟨_, _, rfl⟩, rfl, by simp⟩, ?_, ?_⟩⟩)))
  · rintro j d _ μ' ed ⟨⟨o5, o6, rfl⟩, rfl, hj⟩
    suffices hs : ∃ (L : LamI) (N fr : List Str) (js : List Nat) (caps : List D) (l : Row → Bool), ls[j]? = some l ∧ d = .lam L ∧ LamSays P w K mg base T 7 N fr L caps μ' l ∧ L.cl = cloFrom (envOfC "step_of" (defScope (top 36)) s.heap.objs.size f (.ref c)).cells L.scope.names [] ∧
        (∀ y ∈ L.scope.names, y.2 = .free → (defScope (top 36)).names.lookup y.1 = some .cell ∨ (defScope (top 36)).names.lookup y.1 = some .free) ∧ (∀ y ∈ fr, (y, NameKind.free) ∈ L.scope.names) ∧ js.map (fun j => (["rows", "left", "bound", "outer", "looks", "look", "at"] : List Str)[j]?) = fr.map some ∧
        js.map (fun j => ([some d1, some (.ref la), some db, some (.lst (out.map .str)), some (.tup [.lam L0, .lam L1, .lam L2, .lam L3]), some d, o6] : GE)[j]?) = caps.map (fun d => some (some d)) by
      obtain ⟨L, N, fr, js, caps, l, hl, ed2, hsay, hcl, hfree, hfr, hjs, hcaps⟩ := hs
      subst ed2
      refine wg_name 5 sc36.nd ?_
      refine wss_cons (ws_set 6 sc36.nd (we_callS (k := 8) (i := 2) F5 sc35 g5 (fun _ _ _ _ _ _ us hl => match us, hl with | [_, _, _], _ => rfl) hr (by decide) hcl hfree hfr hjs hcaps (fun _ => rfl) rfl rfl
        (wa_cons (we_var 0 rfl (wa_two (we_var 1 rfl (we_var 5 rfl ⟨rfl, rfl, fun cdv2 s2 H2 E2 hr2 => first_walk hsay hr2 fs rok hle hlt ?_ ?_⟩)))))))
      · intro n hn hl2
        refine wss_one (ws_if (wt_notN (we_var 6 rfl ⟨false, fun z => (by cases z), fun _ => rfl, ?_⟩)))
        refine wss_one (ws_ret (we_var 6 rfl (q n hn (.inl fun r hr3 => good j l r hl (hl2 r hr3)))))
      · intro hall
        refine wss_one (ws_if (wt_notN (we_var 6 rfl ⟨true, fun _ => rfl, fun z => absurd rfl z, ?_⟩)))
        refine wss_nil ⟨⟨_, _, rfl⟩, rfl, fun l2 hl2 => ?_⟩
        rw [List.take_add_one, hl, Option.toList, List.mem_append] at hl2
        rcases hl2 with hl2 | hl2
        · exact hj l2 hl2
        · rw [List.mem_singleton.mp hl2]; exact hall
    match j, ed with
    | 0, ed => cases ed; exact ⟨L0, _, _, [2, 3], _, _, rfl, rfl, says0 hRd hb, rfl, NdefX.ndef_free (fr := []) (by kernel_rfl), NdefX.ndef_fr (sc := defScope (top 36)) (by kernel_rfl), rfl, rfl⟩
    | 1, ed => cases ed; exact ⟨L1, _, _, [2], _, _, rfl, rfl, says1 fr hV hb, rfl, NdefX.ndef_free (fr := []) (by kernel_rfl), NdefX.ndef_fr (sc := defScope (top 36)) (by kernel_rfl), rfl, rfl⟩
    | 2, ed => cases ed; exact ⟨L2, _, [], [], [], _, rfl, rfl, says2, rfl, NdefX.ndef_free (fr := []) (by kernel_rfl), fun y hy => (by cases hy), rfl, rfl⟩
    | 3, ed => cases ed; exact ⟨L3, _, [], [], [], _, rfl, rfl, says3 hB, rfl, NdefX.ndef_free (fr := []) (by kernel_rfl), fun y hy => (by cases hy), rfl, rfl⟩
    | _ + 4, ed => cases ed
  · rintro _ _ ⟨⟨o5, o6, rfl⟩, rfl, hj⟩
    obtain ⟨n0, left', rfl⟩ := List.exists_cons_of_ne_nil hne
    refine wss_one (ws_ret (we_ix (we_var 1 rfl (we_int ⟨_, _, _, .ml hle, rfl, atI_zero, ?_⟩))))
    refine q n0 List.mem_cons_self (.inr fun m hm r hr3 => ⟨hj (look0 bs out) (by simp [ls]) m hm r hr3, hj Row.isB (by simp [ls]) m hm r hr3⟩)
end
end Ws
/-! D8: plan_of, plan. -/
namespace Ws
open PySem PyProof.Rows PySem.Spec L2

/-! ### orders that go -/
/-- what is bound behind these rows -/
def bAfter (rs : List Row) : List Str → List Nat → List Str
  | bs, [] => bs
  | bs, n :: ns => match rs[n]? with
    | some r => if r.isB = true then bAfter rs (bs ++ r.vars) ns else bAfter rs bs ns
    | none => bAfter rs bs ns
def goFrom (rs : List Row) (out : List Str) : List Str → List Nat → Bool
  | _, [] => true
  | bs, n :: ns => match rs[n]? with
    | some r => if r.isB = true then goFrom rs out (bs ++ r.vars) ns else ready r bs out && goFrom rs out bs ns
    | none => false
theorem bAfter_B {rs : List Row} {bs : List Str} {n : Nat} {ns : List Nat} {r : Row} (h : rs[n]? = some r) (hb : r.isB = true) : bAfter rs bs (n :: ns) = bAfter rs (bs ++ r.vars) ns := by
  conv => lhs; unfold bAfter
  rw [h]; exact if_pos hb
theorem bAfter_N {rs : List Row} {bs : List Str} {n : Nat} {ns : List Nat} {r : Row} (h : rs[n]? = some r) (hb : ¬ r.isB = true) : bAfter rs bs (n :: ns) = bAfter rs bs ns := by
  conv => lhs; unfold bAfter
  rw [h]; exact if_neg hb
theorem bAfter_0 {rs : List Row} {bs : List Str} {n : Nat} {ns : List Nat} (h : rs[n]? = none) : bAfter rs bs (n :: ns) = bAfter rs bs ns := by
  conv => lhs; unfold bAfter
  rw [h]
theorem goFrom_B {rs : List Row} {out bs : List Str} {n : Nat} {ns : List Nat} {r : Row} (h : rs[n]? = some r) (hb : r.isB = true) : goFrom rs out bs (n :: ns) = goFrom rs out (bs ++ r.vars) ns := by
  conv => lhs; unfold goFrom
  rw [h]; exact if_pos hb
theorem goFrom_N {rs : List Row} {out bs : List Str} {n : Nat} {ns : List Nat} {r : Row} (h : rs[n]? = some r) (hb : ¬ r.isB = true) : goFrom rs out bs (n :: ns) = (ready r bs out && goFrom rs out bs ns) := by
  conv => lhs; unfold goFrom
  rw [h]; exact if_neg hb
theorem goFrom_0 {rs : List Row} {out bs : List Str} {n : Nat} {ns : List Nat} (h : rs[n]? = none) : goFrom rs out bs (n :: ns) = false := by
  conv => lhs; unfold goFrom
  rw [h]
theorem bAfter_snoc (rs : List Row) : ∀ (ns : List Nat) (bs : List Str) (n : Nat), bAfter rs bs (ns ++ [n]) = bAfter rs (bAfter rs bs ns) [n]
  | [], _, _ => rfl
  | m :: ns, bs, n => by
    rw [List.cons_append]
    cases h : rs[m]? with
    | none => rw [bAfter_0 h, bAfter_0 h, bAfter_snoc rs ns]
    | some r =>
      by_cases hb : r.isB = true
      · rw [bAfter_B h hb, bAfter_B h hb, bAfter_snoc rs ns]
      · rw [bAfter_N h hb, bAfter_N h hb, bAfter_snoc rs ns]
theorem goFrom_snoc (rs : List Row) (out : List Str) : ∀ (ns : List Nat) (bs : List Str) (n : Nat), goFrom rs out bs (ns ++ [n]) = (goFrom rs out bs ns && goFrom rs out (bAfter rs bs ns) [n])
  | [], bs, n => by rw [List.nil_append, show goFrom rs out bs [] = true from rfl, Bool.true_and]; rfl
  | m :: ns, bs, n => by
    rw [List.cons_append]
    cases h : rs[m]? with
    | none => rw [goFrom_0 h, goFrom_0 h]; rfl
    | some r =>
      by_cases hb : r.isB = true
      · rw [goFrom_B h hb, goFrom_B h hb, bAfter_B h hb, goFrom_snoc rs out ns]
      · rw [goFrom_N h hb, goFrom_N h hb, bAfter_N h hb, goFrom_snoc rs out ns, Bool.and_assoc]
theorem bAfter_len {rs : List Row} (ok : ∀ r ∈ rs, r.fine) : ∀ (ns : List Nat) (bs : List Str), (bAfter rs bs ns).length ≤ bs.length + 20 * ns.length
  | [], bs => Nat.le_add_right _ _
  | m :: ns, bs => by
    cases h : rs[m]? with
    | none => rw [bAfter_0 h]; have := bAfter_len ok ns bs; rw [List.length_cons]; omega
    | some r =>
      by_cases hb : r.isB = true
      · rw [bAfter_B h hb]
        have h1 := bAfter_len ok ns (bs ++ r.vars)
        have h2 := vars_len (ok r (List.mem_of_getElem? h))
        rw [List.length_append] at h1
        rw [List.length_cons]; omega
      · rw [bAfter_N h hb]; have := bAfter_len ok ns bs; rw [List.length_cons]; omega
theorem bAfter_mem (rs : List Row) (x : Str) : ∀ (ns : List Nat) (bs : List Str), x ∈ bAfter rs bs ns ↔ x ∈ bs ∨ ∃ n ∈ ns, ∃ r, rs[n]? = some r ∧ r.isB = true ∧ x ∈ r.vars
  | [], bs => by unfold bAfter; simp
  | m :: ns, bs => by
    unfold bAfter
    cases h : rs[m]? with
    | none =>
      show x ∈ bAfter rs bs ns ↔ _
      rw [bAfter_mem rs x ns bs]
      constructor
      · rintro (h1 | ⟨n, hn, r, h2⟩)
        · exact .inl h1
        · exact .inr ⟨n, List.mem_cons_of_mem _ hn, r, h2⟩
      · rintro (h1 | ⟨n, hn, r, h2, h3⟩)
        · exact .inl h1
        · rcases List.mem_cons.mp hn with e | e
          · rw [e, h] at h2; cases h2
          · exact .inr ⟨n, e, r, h2, h3⟩
    | some r0 =>
      show x ∈ (if r0.isB = true then bAfter rs (bs ++ r0.vars) ns else bAfter rs bs ns) ↔ _
      by_cases hb : r0.isB = true
      · rw [if_pos hb, bAfter_mem rs x ns, List.mem_append]
        constructor
        · rintro ((h1 | h1) | ⟨n, hn, r, h2⟩)
          · exact .inl h1
          · exact .inr ⟨m, List.mem_cons_self, r0, h, hb, h1⟩
          · exact .inr ⟨n, List.mem_cons_of_mem _ hn, r, h2⟩
        · rintro (h1 | ⟨n, hn, r, h2, h3, h4⟩)
          · exact .inl (.inl h1)
          · rcases List.mem_cons.mp hn with e | e
            · rw [e, h] at h2; cases h2; exact .inl (.inr h4)
            · exact .inr ⟨n, e, r, h2, h3, h4⟩
      · rw [if_neg hb, bAfter_mem rs x ns]
        constructor
        · rintro (h1 | ⟨n, hn, r, h2⟩)
          · exact .inl h1
          · exact .inr ⟨n, List.mem_cons_of_mem _ hn, r, h2⟩
        · rintro (h1 | ⟨n, hn, r, h2, h3, h4⟩)
          · exact .inl h1
          · rcases List.mem_cons.mp hn with e | e
            · rw [e, h] at h2; cases h2; exact absurd h3 hb
            · exact .inr ⟨n, e, r, h2, h3, h4⟩
theorem ready_of {r : Row} {bs out : List Str} (h : ∀ x ∈ out, x ∈ bs) : ready r bs out = true := by
  unfold ready wantedBy
  rw [List.all_eq_true]
  intro x hx
  have := (List.mem_filter.mp hx).2
  exact decide_eq_true (h x (of_decide_eq_true this))
theorem isB_isP {r : Row} (h : r.isB = true) : r.isP = true := by
  cases r with
  | p r => rfl
  | no rs => cases h
theorem boundIn_mem (rs : List Row) (x : Str) : x ∈ boundIn (outer rs) ↔ ∃ r ∈ rs, r.isB = true ∧ x ∈ r.vars := by
  unfold boundIn
  rw [vin_mem]
  constructor
  · rintro ⟨r, h1, h2⟩
    have h3 := List.mem_filter.mp h1
    exact ⟨r, (List.mem_filter.mp h3.1).1, h3.2, h2⟩
  · rintro ⟨r, h1, h2, h3⟩
    exact ⟨r, List.mem_filter.mpr ⟨List.mem_filter.mpr ⟨h1, isB_isP h2⟩, h2⟩, h3⟩

section
variable {P : Program} {w : World} {K : PySem.W.Frag} {mg : Str → Option Value} {base : Heap} {T : TabS} {f C : Addr} {fd : FuncData}
theorem sc37 : FnScope ["rows", "bound", "outer", "left", "known", "found", "at"] ["rows", "bound"] (defScope (top 37)) := ⟨rfl, rfl, rfl, by decide +kernel, rfl, by decide +kernel, by decide +kernel⟩
theorem sc38 : FnScope ["question"] ["question"] (defScope (top 38)) := ⟨rfl, rfl, rfl, by decide +kernel, rfl, by decide +kernel, by decide +kernel⟩
def natsD (ns : List Nat) : List D := ns.map fun n => .int (n : Nat)
def S_planOf : DSp := fun ds μ Q => ∃ d1, ∃ rs : List Row, ds = [d1, .tup []] ∧ FSq d1 (rs.map dRow) ∧ RowsOk rs ∧ ∀ order : List Nat, order.Perm (List.range rs.length) → goFrom rs (boundIn (outer rs)) [] order = true → Q (.tup (natsD order)) μ
theorem erase_ints (ns : List Nat) (j : Nat) : ((ns.map fun n : Nat => (n : Int)).eraseIdx j).map D.int = natsD (ns.eraseIdx j) := by
  unfold natsD
  induction ns generalizing j with
  | nil => cases j <;> rfl
  | cons n ns ih =>
    cases j with
    | zero => simp
    | succ j => rw [List.map_cons, List.eraseIdx_cons_succ, List.map_cons, List.eraseIdx_cons_succ, List.map_cons, ih]
theorem first_at : ∀ {ns : List Nat} {n : Nat}, n ∈ ns → ∃ j, ns[j]? = some n ∧ (∀ m, m < j → ns[m]? ≠ some n) ∧ (n :: ns.eraseIdx j).Perm ns
  | [], _, h => by cases h
  | m :: ns, n, h => by
    by_cases e : m = n
    · subst e
      exact ⟨0, rfl, fun k hk => absurd hk (Nat.not_lt_zero _), List.Perm.refl _⟩
    · have h' : n ∈ ns := (List.mem_cons.mp h).resolve_left (fun z => e z.symm)
      obtain ⟨j, h1, h2, h3⟩ := first_at h'
      refine ⟨j + 1, by simpa using h1, fun k hk => ?_, ?_⟩
      · cases k with
        | zero => simpa using e
        | succ k => simpa using h2 k (by omega)
      · rw [List.eraseIdx_cons_succ]
        exact (List.Perm.swap m n _).trans (List.Perm.cons m h3)
theorem d_planOf (fr : Free mg) (hBd : DefAt P w K mg base T 6 "bound_in" S_bound) (hO : DefAt P w K mg base T 1 "outer_rows" S_outer) (hSt : DefAt P w K mg base T 10 "step_of" S_step) (hV : DefAt P w K mg base T 4 "variables_of" S_var) (hB : GlobD K mg "BINDING" (.tup bindingD)) (F : FnP K "plan_of" (top 37) f fd) (g : mg "plan_of" = some (.ref f)) : DefAt P w K mg base T 11 "plan_of" S_planOf := by
  refine defAt_of F g (ps := ["rows", "bound"]) (fun _ _ _ _ _ _ us hl => match us, hl with | [_, _], _ => rfl) (fn_okD F sc37 (fun ds μ Q ⟨_, _, h, _⟩ => by rw [h]; rfl) fun cdv A outer0 s H E ds μ Q hr ⟨d1, rs, e, fs, rok, q⟩ => ?_)
  subst e
  have blen : (boundIn (outer rs)).length ≤ 10000 := Nat.le_trans (uq_len _) ((rok.filter _).filter _).flat
  refine wss_cons (ws_set 2 sc37.nd (we_catL (we_list rfl fr.list (we_var 1 rfl ⟨_, .tup, we_call hBd hr (wa_one (we_call hO hr (wa_one (we_var 0 rfl ⟨_, rs, rfl, fs, _, outer rs, rfl, .lst, rok.filter _, _, _, .lst, .lst, ?_, ?_⟩))))⟩))))
  · rw [List.length_map, List.length_nil, sizeLine_eq]; omega
  rw [List.nil_append]
  refine wss_cons (ws_par3 3 4 5 rfl sc37.nd (we_listRangeM rfl rfl rfl fr.list fr.range (we_len rfl fr.len (we_var 0 rfl ⟨_, fs.sq, ?_⟩))) rfl)
  refine ⟨rs.length, by rw [List.length_map], by have := rok.1; omega, fun la nla => ?_⟩
  refine we_listM rfl fr.list (we_var 1 rfl ⟨[], .tup, fun lk nlk => we_lstM (wa_nil ⟨Nat.zero_le _, fun lf nlf => ?_⟩)⟩)
  have nla : μ la = none := nla
  have hka : lk ≠ la := by rintro rfl; rw [mset_same] at nlk; cases nlk
  have hfk : lf ≠ lk := by rintro rfl; rw [mset_same] at nlf; cases nlf
  have hfa : lf ≠ la := by rintro rfl; rw [mset_ne (Ne.symm hka), mset_same] at nlf; cases nlf
  have nlk : μ lk = none := by rw [mset_ne hka] at nlk; exact nlk
  have nlf : μ lf = none := by rw [mset_ne hfk, mset_ne hfa] at nlf; exact nlf
  let st : List Nat → List Str → List Nat → Mu := fun left known found => mset (mset (mset μ la (.ml (natsD left))) lk (.ml (known.map .str))) lf (.ml (natsD found))
  have st1 : ∀ a b c, st a b c la = some (.ml (natsD a)) := fun a b c => by show mset _ _ _ _ = _; rw [mset_ne (Ne.symm hfa), mset_ne (Ne.symm hka), mset_same]
  have st2 : ∀ a b c, st a b c lk = some (.ml (b.map .str)) := fun a b c => by show mset _ _ _ _ = _; rw [mset_ne (Ne.symm hfk), mset_same]
  have st3 : ∀ a b c, st a b c lf = some (.ml (natsD c)) := fun a b c => mset_same
  have up1 : ∀ a b c a', mset (st a b c) la (.ml (natsD a')) = st a' b c := fun a b c a' => by
    show mset (mset _ lf _) la _ = _
    rw [mset_comm hfa, mset_comm hka, mset_mset]
  have up2 : ∀ a b c b', mset (st a b c) lk (.ml (b'.map .str)) = st a b' c := fun a b c b' => by
    show mset (mset _ lf _) lk _ = _
    rw [mset_comm hfk, mset_mset]
  have up3 : ∀ a b c c', mset (st a b c) lf (.ml (natsD c')) = st a b c' := fun a b c c' => by
    show mset (mset _ lf _) lf _ = _
    rw [mset_mset]
  have e0 : mset (mset (mset μ la (.ml (rngD rs.length))) lk (.ml [])) lf (.ml []) = st (List.range rs.length) [] [] := rfl
  refine wss_cons (ws_while (fun m G' μ' => ∃ left known found o6, m = left.length ∧ G' = [some d1, some (.tup []), some (.lst ((boundIn (outer rs)).map .str)), some (.ref la), some (.ref lk), some (.ref lf), o6] ∧ μ' = st left known found ∧ (found ++ left).Perm (List.range rs.length) ∧ known = bAfter rs [] found ∧ goFrom rs (boundIn (outer rs)) [] found = true) rs.length
    ⟨List.range rs.length, [], [], none, by rw [List.length_range], rfl, e0, List.Perm.refl _, rfl, rfl⟩ ?_)
  rintro m _ _ ⟨left, known, found, o6, rfl, rfl, rfl, hperm, hkn, hgo⟩
  refine wt_neNil hr.u1 (we_var 3 rfl ⟨_, .ml (st1 _ _ _), ?_⟩)
  cases left with
  | nil =>
    rw [List.append_nil] at hperm
    refine wss_one (ws_ret (we_post (we_tuple rfl fr.tuple (we_var 5 rfl ⟨_, .ml (st3 _ _ _), μ, ?_, q found hperm hgo⟩))))
    exact ((MSame.refl μ).new nla).trans (((MSame.refl _).new (by rw [mset_ne hka]; exact nlk)).trans ((MSame.refl _).new (by rw [mset_ne hfk, mset_ne hfa]; exact nlf)))
  | cons n0 left0 =>
    have hlt : ∀ n ∈ n0 :: left0, n < rs.length := fun n hn => List.mem_range.mp (hperm.mem_iff.mp (List.mem_append_right _ hn))
    have hlen : (n0 :: left0).length ≤ rs.length ∧ found.length + (n0 :: left0).length = rs.length := by
      have := hperm.length_eq
      rw [List.length_append, List.length_range] at this
      omega
    refine wss_cons (ws_set 6 sc37.nd (we_call hSt hr (wa_cons (we_var 0 rfl (wa_cons (we_var 3 rfl (wa_two (we_var 4 rfl (we_var 2 rfl ⟨d1, la, _, rs, n0 :: left0, known, boundIn (outer rs), rfl, fs, rok.2, st1 _ _ _, by simp, hlt, .ml (st2 _ _ _), fun n hn hcase => ?_⟩)))))))))
    have hnr : n < rs.length := hlt n hn
    have er : rs[n]? = some rs[n] := List.getElem?_eq_getElem hnr
    have hstep : goFrom rs (boundIn (outer rs)) known [n] = true := by
      unfold goFrom
      rw [er]
      show (if rs[n].isB = true then goFrom rs _ _ [] else ready rs[n] known _ && goFrom rs _ _ []) = true
      by_cases hb : rs[n].isB = true
      · rw [if_pos hb]; rfl
      · rw [if_neg hb]
        have hrd : ready rs[n] known (boundIn (outer rs)) = true := by
          rcases hcase with h | h
          · exact (h _ er).resolve_right hb
          · refine ready_of fun x hx => ?_
            obtain ⟨r, h1, h2, h3⟩ := (boundIn_mem rs x).mp hx
            obtain ⟨i, hi, ei⟩ := List.mem_iff_getElem.mp h1
            have hi2 : i ∈ found ++ n0 :: left0 := hperm.mem_iff.mpr (List.mem_range.mpr hi)
            have e1 : rs[i]? = some r := by rw [List.getElem?_eq_getElem hi, ei]
            rcases List.mem_append.mp hi2 with z | z
            · rw [hkn]
              exact (bAfter_mem rs x found []).mpr (.inr ⟨i, z, r, e1, h2, h3⟩)
            · have := (h i z r e1).2
              rw [h2] at this; cases this
        rw [hrd]; rfl
    have hgo2 : goFrom rs (boundIn (outer rs)) [] (found ++ [n]) = true := by rw [goFrom_snoc, hgo, ← hkn, hstep]; rfl
    obtain ⟨j, hj1, hj2, hp1⟩ := first_at hn
    let left1 := (n0 :: left0).eraseIdx j
    have hp1 : (n :: left1).Perm (n0 :: left0) := hp1
    have hl1 : left1.length < (n0 :: left0).length := by have := hp1.length_eq; rw [List.length_cons] at this; omega
    have hp2 : ((found ++ [n]) ++ left1).Perm (List.range rs.length) := by
      rw [List.append_assoc]
      exact ((List.Perm.refl found).append hp1).trans hperm
    refine wss_cons (ws_expr (we_append (we_var 5 rfl ⟨lf, rfl, ⟨_, st3 _ _ _⟩, we_var 6 rfl ⟨_, st3 _ _ _, ?_, ?_⟩⟩)))
    · have := rok.1
      rw [natsD, List.length_map, sizeLine_eq]; omega
    have ef : natsD found ++ [.int (n : Nat)] = natsD (found ++ [n]) := by unfold natsD; rw [List.map_append]; rfl
    rw [ef, up3]
    refine wss_cons (ws_expr (we_remove (we_var 3 rfl ⟨la, rfl, ⟨_, st1 _ _ _⟩, we_var 6 rfl ⟨(n0 :: left0).map (fun n : Nat => (n : Int)), (n : Int), j, ?_, rfl, ?_, ?_, ?_⟩⟩)))
    · rw [st1]; unfold natsD; rw [List.map_map]; rfl
    · rw [List.getElem?_map, hj1]; rfl
    · intro m hm
      rw [List.getElem?_map]
      cases hz : (n0 :: left0)[m]? with
      | none => simp
      | some y =>
        intro he
        have he : (y : Int) = n := Option.some.inj he
        have he : y = n := by omega
        exact hj2 m hm (by rw [hz, he])
    rw [erase_ints, up1]
    refine wss_one (ws_if (wt_in rfl (we_ix (we_ix (we_var 0 rfl (we_var 6 rfl ⟨_, _, _, fs.sq, rfl, by rw [atI_nat, List.getElem?_map, er]; rfl, we_int ⟨_, _, _, .tup, rfl, atI_zero, we_globD hB ⟨_, _, .tup, in_binding rs[n], ?_⟩⟩⟩))))))
    cases hb : rs[n].isB with
    | true =>
      rw [if_pos rfl]
      refine wss_one (ws_expr (we_extend (we_var 4 rfl ⟨lk, rfl, ⟨_, st2 _ _ _⟩, we_call hV hr (wa_one (we_ix (we_var 0 rfl (we_var 6 rfl ⟨_, _, _, fs.sq, rfl, by rw [atI_nat, List.getElem?_map, er]; rfl, ⟨rs[n], rfl, rok.2 _ (List.getElem_mem hnr), _, _, st2 _ _ _, .lst, ?_, left1.length, hl1, left1, known ++ rs[n].vars, found ++ [n], _, rfl, rfl, ?_, hp2, ?_, hgo2⟩⟩))))⟩)))
      · have h1 := vars_len (rok.2 _ (List.getElem_mem hnr))
        have h2 := bAfter_len rok.2 found []
        have h3 := rok.1
        rw [hkn, List.length_map, List.length_map, sizeLine_eq]
        rw [List.length_nil] at h2
        omega
      · rw [← List.map_append, up2]
      · rw [bAfter_snoc, ← hkn, bAfter_B er hb]; rfl
    | false =>
      rw [if_neg (by simp)]
      refine wss_nil ⟨left1.length, hl1, left1, known, found ++ [n], _, rfl, rfl, rfl, hp2, ?_, hgo2⟩
      rw [bAfter_snoc, ← hkn, bAfter_N er (by rw [hb]; simp)]; rfl
def S_plan : DSp := fun ds μ Q => ∃ shown rs, ds = [dQ shown rs] ∧ RowsOk rs ∧ ∀ order : List Nat, order.Perm (List.range rs.length) → goFrom rs (boundIn (outer rs)) [] order = true → Q (.tup (natsD order)) μ
theorem d_plan (hP : DefAt P w K mg base T 11 "plan_of" S_planOf) (F : FnP K "plan" (top 38) f fd) (g : mg "plan" = some (.ref f)) : DefAt P w K mg base T 12 "plan" S_plan := by
  refine defAt_of F g (ps := ["question"]) (fun _ _ _ _ _ _ us hl => match us, hl with | [_], _ => rfl) (fn_okD F sc38 (fun ds μ Q ⟨_, _, h, _⟩ => by rw [h]; rfl) fun cdv A outer0 s H E ds μ Q hr ⟨sh, rs, e, rok, q⟩ => ?_)
  subst e
  exact wss_one (ws_ret (we_call hP hr (wa_two (we_ix (we_var 0 rfl (we_int ⟨_, _, _, .tup, rfl, rfl, we_tup (wa_nil ⟨Nat.zero_le _, _, rs, rfl, .tup, rok, q⟩)⟩))))))
end
end Ws
/-! D9: the steps of a search row by row. -/
namespace Ws
open PySem PyProof.Rows PySem.Spec L2

def knotsOf (W : Wb) (r : PRow) : List Int := (W.knots.map (·.1)).filter fun n => match r with
  | .any _ => true
  | .knot _ k => decide (kindOf W n = k)
  | _ => false
def stepK (W : Wb) (r : PRow) (v : Str) (b : Bind) : List Bind := if hasV b v = true then (if holdsP W r b = true then [b] else []) else (knotsOf W r).map (putB b v)
def stepT1 (W : Wb) (r : PRow) (v k u : Str) (m : Nat) (b : Bind) : List Bind := if (hasV b v && hasV b u) = true then (if holdsP W r b = true then [b] else []) else (farWay W (valB b v) k m).map (putB b u)
def stepT (W : Wb) (r : PRow) (v k u : Str) (m : Nat) (b : Bind) : List Bind :=
  if hasV b v = true then stepT1 W r v k u m b else if hasV b u = true then (nearWay W (valB b u) k m).map (putB b v) else W.knots.flatMap fun n => stepT1 W r v k u m (putB b v n.1)
def stepL (W : Wb) (r : Row) (b : Bind) : List Bind := if holdsR W r b = true then [b] else []
def stepR (W : Wb) : Row → Bind → List Bind
  | .p (.knot v k), b => stepK W (.knot v k) v b
  | .p (.any v), b => stepK W (.any v) v b
  | .p (.tie v k u), b => stepT W (.tie v k u) v k u 1 b
  | .p (.way v k u m), b => stepT W (.way v k u m) v k u m.toNat b
  | r, b => stepL W r b
theorem farWay_isK {W : Wb} (ok : WbOk W) {k : Int} {kind : Str} {m : Nat} {x : Int} (h : x ∈ farWay W k kind m) : IsK W x := by
  unfold farWay at h
  rw [srt_mem, uq_mem, List.mem_flatMap] at h
  obtain ⟨j, _, h⟩ := h
  exact farTies_isK ok h
theorem nearWay_isK {W : Wb} (ok : WbOk W) {k : Int} {kind : Str} {m : Nat} {x : Int} (h : x ∈ nearWay W k kind m) : IsK W x := by
  unfold nearWay at h
  rw [srt_mem, uq_mem, List.mem_flatMap] at h
  obtain ⟨j, _, h⟩ := h
  exact nearTies_isK ok h
theorem farWay_nodup (W : Wb) (k : Int) (kind : Str) (m : Nat) : (farWay W k kind m).Nodup := (srt_perm _).nodup_iff.mpr (uq_nodup _)
theorem nearWay_nodup (W : Wb) (k : Int) (kind : Str) (m : Nat) : (nearWay W k kind m).Nodup := (srt_perm _).nodup_iff.mpr (uq_nodup _)
theorem farWay_len {W : Wb} (ok : WbOk W) {k : Int} {kind : Str} {m : Nat} : (farWay W k kind m).length ≤ 4 := few_knots ok (farWay_nodup W k kind m) fun x hx => farWay_isK ok hx
theorem stepT1_len {W : Wb} (ok : WbOk W) (r : PRow) (v k u : Str) (m : Nat) (b : Bind) : (stepT1 W r v k u m b).length ≤ 4 := by
  unfold stepT1
  split
  · split <;> simp
  · rw [List.length_map]; exact farWay_len ok
theorem knot_isK {W : Wb} {p : Int × Str × List (Str × D)} (h : p ∈ W.knots) : IsK W p.1 := by
  unfold IsK look
  cases z : W.knots.find? fun q => decide (q.1 = p.1) with
  | some q => exact ⟨_, rfl⟩
  | none => exact absurd (List.find?_eq_none.mp z p h) (by simp)

section
variable {P : Program} {w : World} {K : PySem.W.Frag} {mg : Str → Option Value} {base : Heap} {T : TabS} {f C : Addr} {fd : FuncData}
theorem sc40 : FnScope ["web", "row", "knot"] ["web", "row"] (defScope (top 40)) := ⟨rfl, rfl, rfl, by decide +kernel, rfl, by decide +kernel, by decide +kernel⟩
def isKA : PRow → Option Str
  | .knot v _ => some v
  | .any v => some v
  | _ => none
def S_kok (C : Addr) : DSp := fun ds μ Q => ∃ d W r v, ds = [d, dPR r] ∧ WebAt C μ d W ∧ isKA r = some v ∧ Q (.lst ((knotsOf W r).map .int)) μ
theorem d_kok (hKn : MethAt P w K mg base T 1 C "knots" (S_knots C)) (hK : MethAt P w K mg base T 3 C "kind" (S_kind C)) (F : FnP K "knots_of_kind" (top 40) f fd) (g : mg "knots_of_kind" = some (.ref f)) : DefAt P w K mg base T 4 "knots_of_kind" (S_kok C) := by
  refine defAt_of F g (ps := ["web", "row"]) (fun _ _ _ _ _ _ us hl => match us, hl with | [_, _], _ => rfl) (fn_okD F sc40 (fun ds μ Q ⟨_, _, _, _, h, _⟩ => by rw [h]; rfl) fun cdv A outer s H E ds μ Q hr ⟨d, W, r, v, e, ⟨a, dx, ed, em⟩, hka, q⟩ => ?_)
  subst e ed
  refine wss_one (ws_ret (we_lc 2 sc40.nd rfl (blkOk_by (by kernel_rfl)) (wi_seq (we_meth0 hKn hr (we_var 0 rfl ⟨a, dx, _, rfl, em, rfl, _, W, rfl, ⟨a, dx, rfl, em⟩, _, .lst, fun hz => ?_⟩)))))
  have e1 : (W.knots.map fun p => D.int p.1) = (W.knots.map (·.1)).map .int := by rw [List.map_map]; rfl
  rw [e1]
  refine lc_fm (W.knots.map (·.1)) .int _ .int q fun n hn s H C0 cl fp => ?_
  obtain ⟨p, hp, rfl⟩ := List.mem_map.mp hn
  obtain ⟨kp, hkp⟩ := knot_isK hp
  cases r with
  | any v2 => exact wt_w (wtw_or (wt_eq (we_ix (we_var 1 rfl (we_int ⟨_, _, _, .tup, rfl, rfl, we_str ⟨_, scal_str, rfl, rfl, fun _ s H C1 cl fp => we_var 2 rfl ⟨rfl, rfl⟩⟩⟩)))))
  | knot v2 k =>
    refine wt_w (wtw_or (wt_eq (we_ix (we_var 1 rfl (we_int ⟨_, _, _, .tup, rfl, rfl, we_str ⟨_, scal_str, ?_⟩⟩)))))
    refine wtw_or1 (wt_eq (we_meth hK hr (we_var 0 rfl ⟨a, dx, _, rfl, em, rfl, wa_one (we_var 2 rfl ⟨_, W, p.1, kp, rfl, ⟨a, dx, rfl, em⟩, hkp, we_ix (we_var 1 rfl (we_int ⟨_, _, _, .tup, rfl, rfl, _, scal_str, ?_, rfl, fun _ s H C1 cl fp => we_var 2 rfl ⟨rfl, rfl⟩⟩))⟩)⟩)))
    have e2 : kindOf W p.1 = kp.1 := by unfold kindOf; rw [hkp]; rfl
    show _ = decide (kindOf W p.1 = k)
    rw [e2]
  | holds _ _ _ _ => cases hka
  | tie _ _ _ => cases hka
  | way _ _ _ _ => cases hka
  | unlike _ _ => cases hka
/-! ### by_looks, by_knots -/
theorem sc41 : FnScope ["web", "row", "at", "knot"] ["web", "row", "at"] (defScope (top 41)) := ⟨rfl, rfl, rfl, by decide +kernel, rfl, by decide +kernel, by decide +kernel⟩
theorem sc43 : FnScope ["web", "row", "at"] ["web", "row", "at"] (defScope (top 43)) := ⟨rfl, rfl, rfl, by decide +kernel, rfl, by decide +kernel, by decide +kernel⟩
/-- what a step asks -/
structure StepOk (C : Addr) (μ : Mu) (d : D) (W : Wb) (r : Row) (b : Bind) : Prop where
  web : WebAt C μ d W
  ok : WbOk W
  fine : r.fine
  bok : BindOk W b
  len : b.length ≤ 800
  v4 : r.vars.length ≤ 4
def S_looks (C : Addr) : DSp := fun ds μ Q => ∃ d W r b, ds = [d, dRow r, dB b] ∧ StepOk C μ d W r b ∧ (∀ p, r = .p p → ∀ x ∈ p.vs, hasV b x = true) ∧ Q (.lst ((stepL W r b).map dB)) μ
theorem if_one {T2 : TabL} {X : Cx} {G : GE} {μ : Mu} {Q : D → Mu → Prop} {k : Bool} {b : Bind} {p1 p2 p3 : Pos} (h : Q (.lst ((if k = true then [b] else []).map dB)) μ) (he : ∀ Q : D → Mu → Prop, Q (dB b) μ → WA X T2 G μ [.Name "at" p1] fun ds μ1 => ∃ d, ds = [d] ∧ Q d μ1) :
    if k = true then WE X T2 G μ (.List [.Name "at" p1] p2) Q else WE X T2 G μ (.List [] p3) Q := by
  cases k with
  | true =>
    rw [if_pos rfl] at h ⊢
    refine we_lst (WA.mono (he (fun d μ1 => d = dB b ∧ μ1 = μ) ⟨rfl, rfl⟩) fun ds μ1 ⟨d, e1, e2, e3⟩ => ?_)
    subst e1 e2 e3
    exact ⟨by rw [sizeLine_eq]; simp, h⟩
  | false =>
    rw [if_neg (by simp)] at h ⊢
    exact we_lst (wa_nil ⟨Nat.zero_le _, h⟩)
theorem d_looks (hR : DefAt P w K mg base T 12 "holds_row" (S_holdsR C)) (F : FnP K "by_looks" (top 43) f fd) (g : mg "by_looks" = some (.ref f)) : DefAt P w K mg base T 13 "by_looks" (S_looks C) := by
  refine defAt_of F g (ps := ["web", "row", "at"]) (fun _ _ _ _ _ _ us hl => match us, hl with | [_, _, _], _ => rfl) (fn_okD F sc43 (fun ds μ Q ⟨_, _, _, _, h, _⟩ => by rw [h]; rfl) fun cdv A outer s H E ds μ Q hr ⟨d, W, r, b, e, st, hp, q⟩ => ?_)
  subst e
  refine wss_one (ws_ret (we_if (wt_val (we_call hR hr (wa_cons (we_var 0 rfl (wa_two (we_var 1 rfl (we_var 2 rfl ⟨d, W, r, b, rfl, st.web, st.ok, st.fine, st.bok, by have := st.len; omega, st.v4, hp, _, rfl, ?_⟩)))))))))
  exact if_one (h := q) fun Q2 h2 => wa_one (we_var 2 rfl ⟨_, rfl, h2⟩)
def S_byK (C : Addr) : DSp := fun ds μ Q => ∃ d W r v b, ds = [d, dPR r, dB b] ∧ StepOk C μ d W (.p r) b ∧ isKA r = some v ∧ Q (.lst ((stepK W r v b).map dB)) μ
theorem d_byK (hR : DefAt P w K mg base T 12 "holds_row" (S_holdsR C)) (hKK : DefAt P w K mg base T 4 "knots_of_kind" (S_kok C)) (hWk : DefAt P w K mg base T 1 "with_knot" S_with) (F : FnP K "by_knots" (top 41) f fd) (g : mg "by_knots" = some (.ref f)) : DefAt P w K mg base T 13 "by_knots" (S_byK C) := by
  refine defAt_of F g (ps := ["web", "row", "at"]) (fun _ _ _ _ _ _ us hl => match us, hl with | [_, _, _], _ => rfl) (fn_okD F sc41 (fun ds μ Q ⟨_, _, _, _, _, h, _⟩ => by rw [h]; rfl) fun cdv A outer s H E ds μ Q hr ⟨d, W, r, v, b, e, st, hka, q⟩ => ?_)
  subst e
  have ev : atI (.str r.kd :: r.args) 1 = some (.str v) := by cases r <;> first | (cases hka; rfl) | cases hka
  have evs : r.vs = [v] := by cases r <;> first | (cases hka; rfl) | cases hka
  have hbl := st.len
  refine wss_cons (ws_if (wt_din hr.u1 (we_ix (we_var 1 rfl (we_int ⟨_, _, _, .tup, rfl, ev, we_var 2 rfl ⟨_, .inr v, .dic, rfl, ?_⟩⟩)))))
  rw [valD_has]
  unfold stepK at q
  cases hv : hasV b v with
  | true =>
    rw [hv, if_pos rfl] at q
    rw [if_pos rfl]
    refine wss_one (ws_ret (we_if (wt_val (we_call hR hr (wa_cons (we_var 0 rfl (wa_two (we_var 1 rfl (we_var 2 rfl ⟨d, W, .p r, b, rfl, st.web, st.ok, st.fine, st.bok, by omega, st.v4, fun p ep x hx => ?_, _, rfl, ?_⟩)))))))))
    · cases ep; rw [evs] at hx; rw [List.mem_singleton.mp hx]; exact hv
    · exact if_one (h := q) fun Q2 h2 => wa_one (we_var 2 rfl ⟨_, rfl, h2⟩)
  | false =>
    rw [hv, if_neg (by simp)] at q
    rw [if_neg (by simp)]
    refine wss_nil (wss_one (ws_ret (we_lc 3 sc41.nd rfl (blkOk_by (by kernel_rfl)) (wi_seq (we_call hKK hr (wa_two (we_var 0 rfl (we_var 1 rfl ⟨d, W, r, v, rfl, st.web, hka, _, .lst, fun hz => ?_⟩))))))))
    refine lc_fm (knotsOf W r) .int (fun _ => true) (fun n => dB (putB b v n)) (by rw [filter_true]; rw [List.map_map] at q; exact q) fun n _ s H C0 cl fp => ⟨rfl, rfl, fun _ s H C0 cl fp => ?_⟩
    exact we_call hWk hr (wa_cons (we_var 2 rfl (wa_two (we_ix (we_var 1 rfl (we_int ⟨_, _, _, .tup, rfl, ev, we_var 3 rfl ⟨b, v, n, rfl, by omega, rfl, rfl⟩⟩))))))

/-! ### by_ties -/
theorem sc42 : FnScope ["web", "row", "at", "first", "kind", "second", "most", "knot", "found"] ["web", "row", "at"] (defScope (top 42)) := ⟨rfl, rfl, rfl, by decide +kernel, rfl, by decide +kernel, by decide +kernel⟩
/-- a tie's or a way's words -/
inductive TWrow : PRow → Str → Str → Str → Nat → Prop
  | tie (v k u : Str) : TWrow (.tie v k u) v k u 1
  | way (v k u : Str) (m : Nat) (h : m ≤ 4) : TWrow (.way v k u m) v k u m
theorem TWrow.vs {r : PRow} {v k u : Str} {m : Nat} (h : TWrow r v k u m) : r.vs = [v, u] := by cases h <;> rfl
theorem TWrow.m4 {r : PRow} {v k u : Str} {m : Nat} (h : TWrow r v k u m) : m ≤ 4 := by cases h; decide; assumption
def S_byT (C : Addr) (p : Bind → Str → Bool) (nb : Nat) : DSp := fun ds μ Q => ∃ d W r v k u m b, ds = [d, dPR r, dB b] ∧ StepOk C μ d W (.p r) b ∧ TWrow r v k u m ∧ b.length ≤ nb ∧ p b v = true ∧ Q (.lst ((stepT W r v k u m b).map dB)) μ
theorem d_byT {lv nb : Nat} {p p' : Bind → Str → Bool} (hlv : 13 ≤ lv) (hnb : nb ≤ 700) (hrec : (∀ b v, p b v = true → hasV b v = true) ∨ (DefAt P w K mg base T lv "by_ties" (S_byT C p' (nb + 1)) ∧ ∀ b v, hasV b v = true → p' b v = true))
    (fr : Free mg) (hR : DefAt P w K mg base T 12 "holds_row" (S_holdsR C)) (hFW : DefAt P w K mg base T 5 "far_by_way" (S_farW C)) (hNW : DefAt P w K mg base T 5 "near_by_way" (S_nearW C)) (hWk : DefAt P w K mg base T 1 "with_knot" S_with) (hKn : MethAt P w K mg base T 1 C "knots" (S_knots C))
    (F : FnP K "by_ties" (top 42) f fd) (g : mg "by_ties" = some (.ref f)) : DefAt P w K mg base T (lv + 1) "by_ties" (S_byT C p nb) := by
  refine defAt_of F g (ps := ["web", "row", "at"]) (fun _ _ _ _ _ _ us hl => match us, hl with | [_, _, _], _ => rfl) (fn_okD F sc42 (fun ds μ Q ⟨_, _, _, _, _, _, _, _, h, _⟩ => by rw [h]; rfl) fun cdv A outer s H E ds μ Q hr ⟨d, W, r, v, k, u, m, b, e, st, tw, hbl, hp, q⟩ => ?_)
  subst e
  have e1 : atI (.str r.kd :: r.args) 1 = some (.str v) := by cases tw <;> rfl
  have e2 : atI (.str r.kd :: r.args) 2 = some (.str k) := by cases tw <;> rfl
  have e3 : atI (.str r.kd :: r.args) 3 = some (.str u) := by cases tw <;> rfl
  obtain ⟨a, dx, rfl, em⟩ := st.web
  refine wss_cons (ws_asg (ks := [3, 4, 5, 6]) (we_tup ?_))
  refine wa_cons (we_ix (we_var 1 rfl (we_int ⟨_, _, _, .tup, rfl, e1, ?_⟩)))
  refine wa_cons (we_ix (we_var 1 rfl (we_int ⟨_, _, _, .tup, rfl, e2, ?_⟩)))
  refine wa_cons (we_ix (we_var 1 rfl (we_int ⟨_, _, _, .tup, rfl, e3, ?_⟩)))
  refine wa_one (we_if (wt_eq (we_ix (we_var 1 rfl (we_int ⟨_, _, _, .tup, rfl, atI_zero, we_str ⟨_, scal_str, ?_⟩⟩)))))
  suffices hrest : WSs (cxOf CX0 P w K mg base ["web", "row", "at", "first", "kind", "second", "most", "knot", "found"] "by_ties" (defScope (top 42)) f cdv A outer s H E).nox (tab0 T) [some (.ref a), some (dPR r), some (dB b), some (.str v), some (.str k), some (.str u), some (.int m), none, none] μ ((defBody (top 42)).drop 1) { nx := fun _ μ' => Q .non μ', rt := Q } by
    have fin : ∀ {vs : List D}, vs = [.str v, .str k, .str u, .int m] → vs.length ≤ sizeLine ∧ WG (cxOf CX0 P w K mg base ["web", "row", "at", "first", "kind", "second", "most", "knot", "found"] "by_ties" (defScope (top 42)) f cdv A outer s H E).nox (tab0 T) (startG ["web", "row", "at", "first", "kind", "second", "most", "knot", "found"] [.ref a, dPR r, dB b]) μ (match (defBody (top 42)).getD 0 (.Pass ⟨0, 0, 0, 0⟩) with | .Assign (t :: _) _ _ => t | _ => .Constant .none 0 ⟨0, 0, 0, 0⟩) [3, 4, 5, 6] (.tup vs) (fun G1 μ1 => WSs (cxOf CX0 P w K mg base ["web", "row", "at", "first", "kind", "second", "most", "knot", "found"] "by_ties" (defScope (top 42)) f cdv A outer s H E).nox (tab0 T) G1 μ1 ((defBody (top 42)).drop 1) { nx := fun _ μ' => Q .non μ', rt := Q }) := by
      rintro vs rfl
      exact ⟨by rw [sizeLine_eq]; simp, wg_tup rfl ⟨_, rfl, rfl, wgs_cons (wg_name 3 sc42.nd (wgs_cons (wg_name 4 sc42.nd (wgs_cons (wg_name 5 sc42.nd (wgs_cons (wg_name 6 sc42.nd (wgs_nil hrest))))))))⟩⟩
    cases tw with
    | tie => rw [if_pos (by rfl)]; exact we_int (fin rfl)
    | way _ _ _ m h =>
      rw [if_neg (show ¬ (decide ((PRow.way v k u m).kd = "tie") = true) from by show ¬ (decide (("way" : Str) = "tie") = true); decide)]
      exact we_ix (we_var 1 rfl (we_int ⟨_, _, _, .tup, rfl, rfl, fin rfl⟩))
  have hval : ∀ x, hasV b x = true → ∃ n, getV b x = some n ∧ valB b x = n ∧ IsK W n ∧ valD (b.map fun p => ((.inr p.1 : Key), D.int p.2)) (.inr x) = some (.int n) := fun x hx => by
    rw [has_get] at hx
    obtain ⟨n, hn⟩ := Option.isSome_iff_exists.mp hx
    exact ⟨n, hn, by unfold valB; rw [hn]; rfl, st.bok _ (getV_mem hn), by rw [valD_bind, hn]; rfl⟩
  have mok := st.ok
  have m4 := tw.m4
  have dinv : ∀ {x : Str}, (valD (b.map fun p => ((.inr p.1 : Key), D.int p.2)) (.inr x)).isSome = hasV b x := valD_has b _
  refine wss_cons (ws_if (wt_w (wtw_and (wt_din hr.u1 (we_var 3 rfl (we_var 2 rfl ⟨_, .inr v, .dic, rfl, ?_⟩))))))
  rw [dinv]
  unfold stepT at q
  cases hv : hasV b v with
  | true =>
    rw [if_pos rfl]
    rw [hv, if_pos rfl] at q
    unfold stepT1 at q
    rw [hv, Bool.true_and] at q
    refine wtw_and1 (wt_din hr.u1 (we_var 5 rfl (we_var 2 rfl ⟨_, .inr u, .dic, rfl, ?_⟩)))
    rw [dinv]
    cases hu : hasV b u with
    | true =>
      rw [hu, if_pos rfl] at q
      rw [if_pos rfl]
      refine wss_one (ws_ret (we_if (wt_val (we_call hR hr (wa_cons (we_var 0 rfl (wa_two (we_var 1 rfl (we_var 2 rfl ⟨_, W, .p r, b, rfl, ⟨a, dx, rfl, em⟩, st.ok, st.fine, st.bok, by omega, st.v4, fun p2 ep x hx => ?_, _, rfl, ?_⟩))))) (by omega)))))
      · cases ep; rw [tw.vs] at hx
        rcases List.mem_cons.mp hx with e | e
        · rw [e]; exact hv
        · rw [List.mem_singleton.mp e]; exact hu
      · exact if_one (h := q) fun Q2 h2 => wa_one (we_var 2 rfl ⟨_, rfl, h2⟩)
    | false =>
      rw [hu, if_neg (by simp)] at q
      rw [if_neg (by simp)]
      obtain ⟨n, hn1, hn2, hn3, hn4⟩ := hval v hv
      refine wss_nil (wss_cons (ws_ifT (wt_din hr.u1 (we_var 3 rfl (we_var 2 rfl ⟨_, .inr v, .dic, rfl, by rw [dinv]; exact hv, ?_⟩)))))
      refine wss_one (ws_ret (we_lc 7 sc42.nd rfl (blkOk_by (by kernel_rfl)) (wi_seq (we_call hFW hr ?_ (by omega)))))
      refine wa_cons (we_var 0 rfl ?_)
      refine wa_cons (we_dget hr.u1 (we_var 2 rfl (we_var 3 rfl ⟨_, .inr v, _, .dic, rfl, hn4, ?_⟩)))
      refine wa_two (we_var 4 rfl (we_var 6 rfl ⟨_, W, n, k, m, rfl, ⟨a, dx, rfl, em⟩, st.ok, hn3, m4, _, .lst, fun hz => ?_⟩))
      refine lc_fm (farWay W n k m) .int (fun _ => true) (fun i => dB (putB b u i)) (by rw [filter_true]; rw [hn2, List.map_map] at q; exact q) fun i _ s H C0 cl fp => ⟨rfl, rfl, fun _ s H C0 cl fp => ?_⟩
      exact we_call hWk hr (wa_cons (we_var 2 rfl (wa_two (we_var 5 rfl (we_var 7 rfl ⟨b, u, i, rfl, by omega, rfl, rfl⟩))))) (by omega)
  | false =>
    rw [if_neg (by simp)]
    rw [hv, if_neg (by simp)] at q
    refine wss_nil (wss_cons (ws_ifF (wt_din hr.u1 (we_var 3 rfl (we_var 2 rfl ⟨_, .inr v, .dic, rfl, by rw [dinv]; exact hv, wss_nil ?_⟩)))))
    refine wss_cons (ws_if (wt_din hr.u1 (we_var 5 rfl (we_var 2 rfl ⟨_, .inr u, .dic, rfl, ?_⟩))))
    rw [dinv]
    cases hu : hasV b u with
    | true =>
      rw [hu, if_pos rfl] at q
      rw [if_pos rfl]
      obtain ⟨n, hn1, hn2, hn3, hn4⟩ := hval u hu
      refine wss_one (ws_ret (we_lc 7 sc42.nd rfl (blkOk_by (by kernel_rfl)) (wi_seq (we_call hNW hr ?_ (by omega)))))
      refine wa_cons (we_var 0 rfl ?_)
      refine wa_cons (we_dget hr.u1 (we_var 2 rfl (we_var 5 rfl ⟨_, .inr u, _, .dic, rfl, hn4, ?_⟩)))
      refine wa_two (we_var 4 rfl (we_var 6 rfl ⟨_, W, n, k, m, rfl, ⟨a, dx, rfl, em⟩, st.ok, hn3, m4, _, .lst, fun hz => ?_⟩))
      refine lc_fm (nearWay W n k m) .int (fun _ => true) (fun i => dB (putB b v i)) (by rw [filter_true]; rw [hn2, List.map_map] at q; exact q) fun i _ s H C0 cl fp => ⟨rfl, rfl, fun _ s H C0 cl fp => ?_⟩
      exact we_call hWk hr (wa_cons (we_var 2 rfl (wa_two (we_var 3 rfl (we_var 7 rfl ⟨b, v, i, rfl, by omega, rfl, rfl⟩))))) (by omega)
    | false =>
      rw [hu, if_neg (by simp)] at q
      rw [if_neg (by simp)]
      rcases hrec with hno | ⟨hrec, hp'⟩
      · rw [hno b v hp] at hv; cases hv
      refine wss_nil (wss_cons (ws_set 8 sc42.nd (we_lstM (wa_nil ⟨Nat.zero_le _, fun l nl => ?_⟩))))
      have em' : ∀ o, mset μ l o a = some (.mi C dx (webF W)) := fun o => by rw [mset_ne (by rintro rfl; rw [nl] at em; cases em)]; exact em
      let step : (Int × Str × List (Str × D)) → List Bind := fun n => stepT1 W r v k u m (putB b v n.1)
      have hsz : ∀ j, ((W.knots.take j).flatMap step).length ≤ j * 4 := by
        intro j
        have key : ∀ ks : List (Int × Str × List (Str × D)), (ks.flatMap step).length ≤ ks.length * 4 := by
          intro ks
          induction ks with
          | nil => simp
          | cons n ks ih =>
            rw [List.flatMap_cons, List.length_append, List.length_cons, Nat.succ_mul]
            have : (step n).length ≤ 4 := stepT1_len st.ok r v k u m _
            omega
        have := key (W.knots.take j)
        rw [List.length_take] at this
        omega
      refine wss_cons (ws_for (ks := [7]) rfl (wi_seq (we_meth0 hKn hr (we_var 0 rfl ⟨a, dx, _, rfl, em' _, rfl, _, W, rfl, ⟨a, dx, rfl, em' _⟩, _, .lst, fun hz => ⟨fun j G' μ' => (∃ o7, G' = [some (.ref a), some (dPR r), some (dB b), some (.str v), some (.str k), some (.str u), some (.int m), o7, some (.ref l)]) ∧ μ' = mset μ l (.ml (((W.knots.take j).flatMap step).map dB)), ⟨⟨_, rfl⟩, rfl⟩, ?_, ?_⟩⟩) (by omega))))
      · rintro j d1 _ _ ed ⟨⟨o7, rfl⟩, rfl⟩
        rw [List.getElem?_map] at ed
        cases ex : W.knots[j]? with
        | none => rw [ex] at ed; cases ed
        | some n =>
          rw [ex] at ed; cases ed
          have hkn := knot_isK (List.mem_of_getElem? ex)
          have hj : j < W.knots.length := (List.getElem?_eq_some_iff.mp ex).1
          have hj4 := st.ok.few
          have et : (W.knots.take (j + 1)).flatMap step = (W.knots.take j).flatMap step ++ step n := by
            rw [List.take_add_one, ex, Option.toList, List.flatMap_append]; simp
          have hpl := putB_len b v n.1
          have hl7 := st.len
          have hvv : hasV (putB b v n.1) v = true := by rw [has_put]; simp
          refine wg_name 7 sc42.nd (wss_one (ws_expr (we_extend (we_var 8 rfl ⟨l, rfl, ⟨_, mset_same⟩, we_call hrec hr ?_ (Nat.le_refl _)⟩))))
          refine wa_cons (we_var 0 rfl (wa_two (we_var 1 rfl (we_call hWk hr ?_ (by omega)))))
          refine wa_cons (we_var 2 rfl (wa_two (we_var 3 rfl (we_var 7 rfl ⟨b, v, n.1, rfl, by omega, ?_⟩))))
          refine ⟨_, W, r, v, k, u, m, putB b v n.1, rfl, ⟨⟨a, dx, rfl, em' _⟩, st.ok, st.fine, st.bok.put hkn, ?_, st.v4⟩, tw, ?_, hp' _ _ hvv, ?_⟩
          · omega
          · omega
          · have es : stepT W r v k u m (putB b v n.1) = step n := by unfold stepT; rw [hvv, if_pos rfl]
            rw [es]
            refine ⟨_, _, mset_same, .lst, ?_, ⟨_, rfl⟩, ?_⟩
            · have h1 := hsz j
              have h2 : (step n).length ≤ 4 := stepT1_len st.ok r v k u m _
              rw [List.length_map, List.length_map, sizeLine_eq]; omega
            · rw [mset_mset, ← List.map_append, et]
      · rintro _ _ ⟨⟨o7, rfl⟩, rfl⟩
        refine wss_one (ws_ret (we_freezeL (we_var 8 rfl ⟨l, _, rfl, mset_same, ?_⟩)))
        rw [mdel_mset nl, List.length_map, List.take_length]; exact q
end
end Ws
/-! D10: need_order. -/
namespace Ws
open PySem PyProof.Rows PySem.Spec L2

/-- C() may be raised here by the name x -/
structure RaiseC (P : Program) (w : World) (K : PySem.W.Frag) (mg : Str → Option Value) (base : Heap) (k : Nat) (x : Str) (C : Addr) : Prop where
  ex : ∃ (fI : Addr) (fd : FuncData) (ps : List Str), ExA K C ∧ PySem.W.findIn K (.ref C) "__init__" = some (some (.ref fI)) ∧ PySem.W.typeIn K (.ref fI) = some (.type "function") ∧ FnOk P w K mg base CX0 k fI fd ps (SpI K C) ∧ Binds K fd ps [] ∧ mg x = some (.ref C)
theorem ws_raiseC {X : Cx} {T : TabL} {G : GE} {μ : Mu} {E : DE} {C : Addr} {x : Str} {k j : Nat} {p pos pos' : Pos} {PE : Mu → Prop} (R : RaiseC X.prog X.w X.K X.mg X.base k x C) (hc : X.calm = true) (tk : TakesD X T C G PE) (hr : Room j X.A) (hp : PE μ) (hk : k + 1 ≤ j := by decide) (hg : Gl X x := by rfl)
    (hdb : (x == ("__debug__" : Str)) = false := by decide) : WS X T G μ (.Raise (some (.Call (.Name x p) [] [] pos)) none pos') E :=
  let ⟨fI, fd, ps, h1, h2, h3, h4, h5, h6⟩ := R.ex
  ws_raiseA hc tk h1 h2 h3 h4 hr h5 h6 hp hk hg hdb
theorem ws_post {X : Cx} {T : TabL} {G : GE} {μ : Mu} {E : DE} {st : Stmt} (h : WS X T G μ st { E with nx := fun G1 μ1 => ∃ μ2, MSame μ2 μ1 ∧ E.nx G1 μ2 }) : WS X T G μ st E := fun F R H σ hs he =>
  wS_mono (h F R H σ hs he) ⟨fun σ' H' ⟨F1, G1, μ1, hs1, s1, he1, μ2, m, q⟩ => ⟨F1, G1, μ2, hs1.less m, s1, he1, q⟩, fun _ _ z => z, fun _ _ z => z, fun _ _ z => z⟩
/-! ### orders -/
def isSq : D → Bool
  | .lst _ => true | .tup _ => true | _ => false
structure OrdTold (d : D) : Prop where
  t : Told d
  es : ∀ ds, FSq d ds → ∀ e ∈ ds, Told e
def OrdOk (rs : List Row) (d : D) : Prop := ∃ ns : List Nat, FSq d (natsD ns) ∧ ns.Perm (List.range rs.length) ∧ goFrom rs (boundIn (outer rs)) [] ns = true
theorem FSq.uniq {d : D} {a b : List D} (h : FSq d a) (k : FSq d b) : a = b := by cases h <;> cases k <;> rfl
theorem natsD_inj : ∀ {a b : List Nat}, natsD a = natsD b → a = b
  | [], [], _ => rfl
  | [], _ :: _, h => by cases h
  | _ :: _, [], h => by cases h
  | x :: xs, y :: ys, h => by
    unfold natsD at h
    rw [List.map_cons, List.map_cons] at h
    have h1 := (List.cons.inj h).1
    have h2 := (List.cons.inj h).2
    have h3 : (x : Int) = y := D.int.inj h1
    rw [natsD_inj (a := xs) (b := ys) h2, show x = y by omega]
theorem goFrom_app (rs : List Row) (out : List Str) : ∀ (a : List Nat) (bs : List Str) (b : List Nat), goFrom rs out bs (a ++ b) = (goFrom rs out bs a && goFrom rs out (bAfter rs bs a) b)
  | [], bs, b => by rw [List.nil_append, show goFrom rs out bs [] = true from rfl, Bool.true_and]; rfl
  | m :: a, bs, b => by
    rw [List.cons_append]
    cases h : rs[m]? with
    | none => rw [goFrom_0 h, goFrom_0 h]; rfl
    | some r =>
      by_cases hb : r.isB = true
      · rw [goFrom_B h hb, goFrom_B h hb, bAfter_B h hb, goFrom_app rs out a]
      · rw [goFrom_N h hb, goFrom_N h hb, bAfter_N h hb, goFrom_app rs out a, Bool.and_assoc]
theorem rngD_ints (n : Nat) : rngD n = ((List.range n).map fun k : Nat => (k : Int)).map D.int := by
  unfold rngD; rw [List.map_map]; rfl
theorem rng_pair : ∀ n : Nat, ((List.range n).map fun k : Nat => (k : Int)).Pairwise (· ≤ ·) := fun n => by
  rw [List.pairwise_map]
  exact (List.pairwise_lt_range (n := n)).imp fun {a b} h => by omega
theorem nats_of {ns : List Int} {n : Nat} (h : ns.Perm ((List.range n).map fun k : Nat => (k : Int))) : ∃ ms : List Nat, ns = ms.map (fun k : Nat => (k : Int)) ∧ ms.Perm (List.range n) := by
  refine ⟨ns.map Int.toNat, ?_, ?_⟩
  · rw [List.map_map]
    have : ∀ x ∈ ns, ((fun k : Nat => (k : Int)) ∘ Int.toNat) x = x := fun x hx => by
      obtain ⟨k, _, rfl⟩ := List.mem_map.mp (h.mem_iff.mp hx)
      rfl
    rw [List.map_congr_left this]; simp
  · have := h.map Int.toNat
    rw [List.map_map] at this
    rw [show (Int.toNat ∘ fun k : Nat => (k : Int)) = id by funext k; simp, List.map_id] at this
    exact this
theorem ints_of_told : ∀ {ds : List D}, (ds.map wholeD).all id = true → ∃ ns : List Int, ds = ns.map D.int
  | [], _ => ⟨[], rfl⟩
  | d :: ds, h => by
    rw [List.map_cons, List.all_cons, Bool.and_eq_true] at h
    obtain ⟨ns, e⟩ := ints_of_told h.2
    cases d <;> first | (exact ⟨_ :: ns, by rw [e]; rfl⟩) | (cases h.1)
section
variable {P : Program} {w : World} {K : PySem.W.Frag} {mg : Str → Option Value} {base : Heap} {T : TabS} {f C : Addr} {fd : FuncData}
theorem told_sq {d : D} (h : Told d) : ∃ t, TyD d t ∧ PySem.W.kitAny K (.type t) (["list", "tuple"].map .type) = some (isSq d) := by
  cases h with
  | tup => exact ⟨_, .tup, rfl⟩
  | of h =>
    cases d <;> simp only [tyD, Option.some.injEq, reduceCtorEq] at h
    all_goals exact ⟨_, .of rfl, rfl⟩
theorem sc39 : FnScope ["question", "order", "rows", "at", "outer", "bound"] ["question", "order"] (defScope (top 39)) := ⟨rfl, rfl, rfl, by decide +kernel, rfl, by decide +kernel, by decide +kernel⟩
def S_need : DSpX := fun ds μ Q PE => ∃ shown rs d, ds = [dQ shown rs, d] ∧ RowsOk rs ∧ OrdTold d ∧ (OrdOk rs d → Q .non μ) ∧ (¬ OrdOk rs d → PE μ)
theorem defAtX_of {x qual : Str} {params : Arguments} {body : List Stmt} {scope : Scope} {f C : Addr} {fd : FuncData} {ps : List Str} {k : Nat} {S : DSpX} (F : FunD K x qual params body scope [] [] f fd) (g : mg x = some (.ref f))
    (hb : ∀ (kV doc pm : Value) (an : Option Addr) (cdv ct : Value) (us : List Value), us.length = ps.length → bindArgs (PySem.W.fnOf x qual params body scope .none kV doc pm an cdv ct) ⟨us, []⟩ = pure (ps.zip us)) (ok : FnOk P w K mg base (L2.CX P w) k f fd ps (SpDX K T C S)) : DefAtX P w K mg base T k x C S :=
  ⟨f, fd, ps, g, F.kp, F.bindsN hb, ok⟩
theorem d_need (fr : Free mg) {NP : Addr} (hNP : RaiseC P w K mg base 1 "NoPlan" NP) (hW : DefAt P w K mg base T 1 "is_whole" S_whole) (hBd : DefAt P w K mg base T 6 "bound_in" S_bound) (hO : DefAt P w K mg base T 1 "outer_rows" S_outer) (hV : DefAt P w K mg base T 4 "variables_of" S_var) (hRd : DefAt P w K mg base T 6 "is_ready" S_ready)
    (hB : GlobD K mg "BINDING" (.tup bindingD)) (F : FnP K "need_order" (top 39) f fd) (g : mg "need_order" = some (.ref f)) : DefAtX P w K mg base T 7 "need_order" NP S_need := by
  refine defAtX_of F g (ps := ["question", "order"]) (fun _ _ _ _ _ _ us hl => match us, hl with | [_, _], _ => rfl) (fn_okDX F sc39 (fun ds μ Q PE ⟨_, _, _, h, _⟩ => by rw [h]; rfl) fun cdv A outer0 s H E ds μ Q PE lb rb hr ⟨sh, rs, d, e, rok, ot, hyes, hno⟩ tk => ?_)
  subst e
  refine wss_cons (ws_set 2 sc39.nd (we_ix (we_var 0 rfl (we_int ⟨_, _, _, .tup, rfl, rfl, ?_⟩))))
  obtain ⟨t, ty, hk⟩ := told_sq (K := K) ot.t
  refine wss_cons (ws_if (wt_w (wtw_or (wt_not (wt_val (we_isiT rfl fr.isinstance (we_var 1 rfl (wa_two (we_ty fr.list (by decide +kernel) (we_ty fr.tuple (by decide +kernel) ⟨t, _, ["list", "tuple"], by decide, ty, rfl, hk, _, rfl, ?_⟩))))))))))
  cases hsq : isSq d with
  | false =>
    rw [if_pos (by rfl), if_pos rfl]
    refine wss_one (ws_raiseC hNP rfl (tk _) hr (hno fun ⟨ns, hf, _⟩ => ?_) (by decide))
    cases hf <;> cases hsq
  | true =>
    obtain ⟨es, hf⟩ : ∃ es, FSq d es := by
      cases d <;> first | exact ⟨_, .lst⟩ | exact ⟨_, .tup⟩ | cases hsq
    rw [if_neg (by simp)]
    refine wtw_or1 (wt_not (wt_val (we_all rfl fr.all rfl (we_lc 3 sc39.nd rfl (blkOk_by (by kernel_rfl)) (wi_seq (we_var 1 rfl ⟨_, hf, fun hz => ?_⟩))))))
    have hls : es.map id = es := List.map_id _
    rw [← hls]
    refine lc_fm es id (fun _ => true) (fun e => .bl (wholeD e)) ⟨es.map wholeD, by rw [filter_true, List.map_map]; exact .lst, _, rfl, ?_⟩ fun e he s H C cl fp => ⟨rfl, rfl, fun _ s H C cl fp => ?_⟩
    rotate_left
    · exact we_call hW hr (wa_one (we_var 3 rfl ⟨e, rfl, ot.es es hf e he, rfl, rfl⟩))
    cases hw : (es.map wholeD).all id with
    | false =>
      rw [if_pos (by rfl)]
      refine wss_one (ws_raiseC hNP rfl (tk _) hr (hno fun ⟨ns, hf2, _⟩ => ?_) (by decide))
      have := hf.uniq hf2
      subst this
      have h1 : ((natsD ns).map wholeD).all id = true := by unfold natsD; rw [List.map_map, List.all_map, List.all_eq_true]; intro _ _; rfl
      rw [h1] at hw; cases hw
    | true =>
      rw [if_neg (by simp)]
      obtain ⟨ns, rfl⟩ := ints_of_told hw
      refine wss_nil ?_
      refine wss_cons (ws_if (wt_neD hr.units (we_sortedF rfl fr.sorted (we_var 1 rfl ⟨ns, hf, fun ys hp hs => we_listRange rfl rfl rfl fr.list fr.range (we_len rfl fr.len (we_var 2 rfl ⟨_, .tup, rs.length, by rw [List.length_map], by have := rok.1; omega, .list (ys.map .int), .list (((List.range rs.length).map fun k : Nat => (k : Int)).map .int), .inl ?_, .inl ?_, shaped_ints _, shaped_ints _, ?_⟩))⟩))))
      · show (pds (ys.map D.int)).map PyData.list = _
        rw [pd_ints]; rfl
      · rw [rngD_ints]
        show (pds (((List.range rs.length).map fun k : Nat => (k : Int)).map D.int)).map PyData.list = _
        rw [pd_ints]; rfl
      rw [eqv_lints]
      by_cases hys : ys = (List.range rs.length).map fun k : Nat => (k : Int)
      rotate_left
      · rw [if_pos (by simp [hys])]
        refine wss_one (ws_raiseC hNP rfl (tk _) hr (hno fun ⟨ms, hf2, hpm, _⟩ => hys ?_) (by decide))
        have h1 := hf.uniq hf2
        have h2 : ns = ms.map fun k : Nat => (k : Int) := by
          have : ns.map D.int = (ms.map fun k : Nat => (k : Int)).map D.int := by rw [h1]; unfold natsD; rw [List.map_map]; rfl
          exact (List.map_inj_right (fun a b h => D.int.inj h)).mp this
        refine sorted_uniq (hp.trans ?_) hs (rng_pair _)
        rw [h2]
        exact hpm.map _
      rw [if_neg (by simp [hys])]
      refine wss_nil ?_
      subst hys
      obtain ⟨ms, rfl, hpm⟩ := nats_of hp.symm
      have hf : FSq d (natsD ms) := by
        have : natsD ms = (ms.map fun k : Nat => (k : Int)).map D.int := by unfold natsD; rw [List.map_map]; rfl
        rw [this]; exact hf
      refine wss_cons (ws_par 4 5 rfl sc39.nd (we_call hBd hr (wa_one (we_call hO hr (wa_one (we_var 2 rfl ⟨_, rs, rfl, .tup, _, outer rs, rfl, .lst, rok.filter _, we_lstM (wa_nil ⟨Nat.zero_le _, fun l nl => ?_⟩)⟩))))) rfl)
      let st : List Str → Mu := fun b => mset μ l (.ml (b.map .str))
      have st1 : ∀ b, st b l = some (.ml (b.map .str)) := fun b => mset_same
      have hlt : ∀ n ∈ ms, n < rs.length := fun n hn => List.mem_range.mp (hpm.mem_iff.mp hn)
      have hml : ms.length = rs.length := by have := hpm.length_eq; rwa [List.length_range] at this
      refine wss_one (ws_post (ws_for (ks := [3]) rfl (wi_seq (we_var 1 rfl ⟨_, hf, fun hz2 => ⟨fun j G' μ' => ∃ o3, G' = [some (dQ sh rs), some d, some (.tup (rs.map dRow)), o3, some (.lst ((boundIn (outer rs)).map .str)), some (.ref l)] ∧ μ' = st (bAfter rs [] (ms.take j)) ∧ goFrom rs (boundIn (outer rs)) [] (ms.take j) = true, ⟨_, rfl, rfl, rfl⟩, ?_, ?_⟩⟩)) (passes_of rfl)))
      · rintro j d1 _ _ ed ⟨o3, rfl, rfl, hgo⟩
        unfold natsD at ed
        rw [List.getElem?_map] at ed
        cases ex : ms[j]? with
        | none => rw [ex] at ed; cases ed
        | some n =>
          rw [ex] at ed; cases ed
          have hn : n ∈ ms := List.mem_of_getElem? ex
          have hnr := hlt n hn
          have er : rs[n]? = some rs[n] := List.getElem?_eq_getElem hnr
          have etk : ms.take (j + 1) = ms.take j ++ [n] := by rw [List.take_add_one, ex]; rfl
          have hix : ∀ {X : Cx} {T : TabL} {G : GE} {μ : Mu} {p1 p2 p3 : Pos} {x y : Str} {Q : D → Mu → Prop}, WE X T G μ (.Name x p1) (fun d _ => d = .tup (rs.map dRow)) → True := fun _ => trivial
          refine wg_name 3 sc39.nd (wss_one (ws_if (wt_in rfl (we_ix (we_ix (we_var 2 rfl (we_var 3 rfl ⟨_, _, _, .tup, rfl, by rw [atI_nat, List.getElem?_map, er]; rfl, we_int ⟨_, _, _, .tup, rfl, atI_zero, we_globD hB ⟨_, _, .tup, in_binding rs[n], ?_⟩⟩⟩)))))))
          cases hb : rs[n].isB with
          | true =>
            rw [if_pos rfl]
            refine wss_one (ws_expr (we_extend (we_var 5 rfl ⟨l, rfl, ⟨_, st1 _⟩, we_call hV hr (wa_one (we_ix (we_var 2 rfl (we_var 3 rfl ⟨_, _, _, .tup, rfl, by rw [atI_nat, List.getElem?_map, er]; rfl, ⟨rs[n], rfl, rok.2 _ (List.getElem_mem hnr), _, _, st1 _, .lst, ?_, _, rfl, ?_, ?_⟩⟩))))⟩)))
            · have h1 := vars_len (rok.2 _ (List.getElem_mem hnr))
              have h2 := bAfter_len rok.2 (ms.take j) []
              have h3 := rok.1
              rw [List.length_map, List.length_map, sizeLine_eq]
              rw [List.length_nil, List.length_take] at h2
              omega
            · rw [← List.map_append, mset_mset, etk, bAfter_snoc, bAfter_B er hb]; rfl
            · rw [etk, goFrom_snoc, hgo, goFrom_B er hb]; rfl
          | false =>
            rw [if_neg (by simp)]
            refine wss_one (ws_if (wt_not (wt_val (we_call hRd hr (wa_cons (we_ix (we_var 2 rfl (we_var 3 rfl ⟨_, _, _, .tup, rfl, by rw [atI_nat, List.getElem?_map, er]; rfl, wa_two (we_var 5 rfl (we_var 4 rfl ⟨rs[n], _, _, boundIn (outer rs), rfl, rok.2 _ (List.getElem_mem hnr), .ml (st1 _), _, rfl, ?_⟩))⟩))))))))
            have hgn : goFrom rs (boundIn (outer rs)) (bAfter rs [] (ms.take j)) [n] = ready rs[n] (bAfter rs [] (ms.take j)) (boundIn (outer rs)) := by
              rw [goFrom_N er (by rw [hb]; simp)]
              show (_ && true) = _
              rw [Bool.and_true]
            cases hrd : ready rs[n] (bAfter rs [] (ms.take j)) (boundIn (outer rs)) with
            | true =>
              rw [if_neg (by simp)]
              refine wss_nil ⟨_, rfl, ?_, ?_⟩
              · rw [etk, bAfter_snoc, bAfter_N er (by rw [hb]; simp)]; rfl
              · rw [etk, goFrom_snoc, hgo, hgn, hrd]; rfl
            | false =>
              rw [if_pos (by rfl)]
              refine WSs.weak (wss_one (ws_raiseC hNP rfl (tk _) hr (hno fun ⟨ms2, hf2, _, hg2⟩ => ?_) (by decide))) ((MSame.refl μ).new nl)
              have := natsD_inj (hf2.uniq hf)
              subst this
              have e2 : ms2 = ms2.take j ++ n :: ms2.drop (j + 1) := by
                conv => lhs; rw [← List.take_append_drop j ms2]
                rw [List.drop_eq_getElem?_toList_append, ex]; rfl
              rw [e2, goFrom_app, hgo, show n :: ms2.drop (j + 1) = [n] ++ ms2.drop (j + 1) from rfl, goFrom_app, hgn, hrd] at hg2
              simp at hg2
      · rintro _ _ ⟨o3, rfl, rfl, hgo⟩
        have hl : (natsD ms).length = ms.length := by unfold natsD; rw [List.length_map]
        rw [hl, List.take_length] at hgo
        exact ⟨μ, (MSame.refl μ).new nl, hyes ⟨ms, hf, hpm, hgo⟩⟩
end
end Ws
/-! M1: the plain law, first part: ways there and back, bindings read as assignments, what holds leans on the row's own names. -/
namespace Ws
open PySem PyProof.Rows PySem.Spec L2

/-! ### ways there and back -/
def EdgeW (W : Wb) (kind : Str) (a b : Int) : Prop := ∃ n t, look n W.ties = some t ∧ t.1 = kind ∧ t.2.1 = a ∧ t.2.2.1 = b
theorem far_edge {W : Wb} (ok : WbOk W) {kind : Str} {ks : List Int} {x : Int} : x ∈ farTies W ks kind ↔ ∃ k ∈ ks, EdgeW W kind k x := by
  unfold farTies
  rw [srt_mem, uq_mem, List.mem_flatMap]
  constructor
  · rintro ⟨k, hk, h⟩
    obtain ⟨n, hn, h⟩ := List.mem_flatMap.mp h
    obtain ⟨t, ht, e⟩ := ok.outs k n hn
    unfold endFar at h
    rw [ht] at h
    dsimp only at h
    split at h
    · rename_i e1
      exact ⟨k, hk, n, t, ht, e1, e, (List.mem_singleton.mp h).symm⟩
    · cases h
  · rintro ⟨k, hk, n, t, ht, e1, e2, e3⟩
    refine ⟨k, hk, List.mem_flatMap.mpr ⟨n, by rw [← e2]; exact (ok.all n t ht).1, ?_⟩⟩
    unfold endFar
    rw [ht]
    dsimp only
    rw [if_pos e1, e3]; exact List.mem_singleton.mpr rfl
theorem near_edge {W : Wb} (ok : WbOk W) {kind : Str} {ks : List Int} {x : Int} : x ∈ nearTies W ks kind ↔ ∃ k ∈ ks, EdgeW W kind x k := by
  unfold nearTies
  rw [srt_mem, uq_mem, List.mem_flatMap]
  constructor
  · rintro ⟨k, hk, h⟩
    obtain ⟨n, hn, h⟩ := List.mem_flatMap.mp h
    obtain ⟨t, ht, e⟩ := ok.ins k n hn
    unfold endNear at h
    rw [ht] at h
    dsimp only at h
    split at h
    · rename_i e1
      exact ⟨k, hk, n, t, ht, e1, (List.mem_singleton.mp h).symm, e⟩
    · cases h
  · rintro ⟨k, hk, n, t, ht, e1, e2, e3⟩
    refine ⟨k, hk, List.mem_flatMap.mpr ⟨n, by rw [← e3]; exact (ok.all n t ht).2, ?_⟩⟩
    unfold endNear
    rw [ht]
    dsimp only
    rw [if_pos e1, e2]; exact List.mem_singleton.mpr rfl
def PathW (W : Wb) (kind : Str) : Nat → Int → Int → Prop
  | 0, a, b => a = b
  | n + 1, a, b => ∃ y, PathW W kind n a y ∧ EdgeW W kind y b
theorem path_front {W : Wb} {kind : Str} : ∀ (n : Nat) (a b : Int), PathW W kind (n + 1) a b ↔ ∃ y, EdgeW W kind a y ∧ PathW W kind n y b
  | 0, a, b => by
    constructor
    · rintro ⟨y, rfl, h⟩; exact ⟨b, h, rfl⟩
    · rintro ⟨y, h, rfl⟩; exact ⟨a, rfl, h⟩
  | n + 1, a, b => by
    constructor
    · rintro ⟨y, h1, h2⟩
      obtain ⟨z, h3, h4⟩ := (path_front n a y).mp h1
      exact ⟨z, h3, y, h4, h2⟩
    · rintro ⟨y, h1, z, h2, h3⟩
      exact ⟨z, (path_front n a z).mpr ⟨y, h1, h2⟩, h3⟩
theorem far_path {W : Wb} (ok : WbOk W) {kind : Str} {a : Int} : ∀ (n : Nat) (x : Int), x ∈ wayFar W kind a n ↔ PathW W kind n a x
  | 0, x => by unfold wayFar PathW; rw [List.mem_singleton]; exact eq_comm
  | n + 1, x => by
    unfold wayFar PathW
    rw [far_edge ok]
    constructor
    · rintro ⟨k, h1, h2⟩; exact ⟨k, (far_path ok n k).mp h1, h2⟩
    · rintro ⟨k, h1, h2⟩; exact ⟨k, (far_path ok n k).mpr h1, h2⟩
theorem near_path {W : Wb} (ok : WbOk W) {kind : Str} {a : Int} : ∀ (n : Nat) (x : Int), x ∈ wayNear W kind a n ↔ PathW W kind n x a
  | 0, x => by unfold wayNear PathW; rw [List.mem_singleton]
  | n + 1, x => by
    unfold wayNear
    rw [near_edge ok, path_front]
    constructor
    · rintro ⟨k, h1, h2⟩; exact ⟨k, h2, (near_path ok n k).mp h1⟩
    · rintro ⟨k, h1, h2⟩; exact ⟨k, (near_path ok n k).mpr h2, h1⟩
theorem near_far {W : Wb} (ok : WbOk W) {kind : Str} {a x : Int} {m : Nat} : x ∈ nearWay W a kind m ↔ a ∈ farWay W x kind m := by
  unfold nearWay farWay
  rw [srt_mem, uq_mem, srt_mem, uq_mem, List.mem_flatMap, List.mem_flatMap]
  constructor <;> rintro ⟨j, h1, h2⟩ <;> refine ⟨j, h1, ?_⟩
  · exact (far_path ok _ _).mpr ((near_path ok _ _).mp h2)
  · exact (near_path ok _ _).mpr ((far_path ok _ _).mp h2)

/-! ### bindings -/
theorem getV_none {b : Bind} {x : Str} : getV b x = none ↔ x ∉ b.map (·.1) := by
  unfold getV
  cases e : b.find? fun p => decide (p.1 = x) with
  | none =>
    refine ⟨fun _ hm => ?_, fun _ => rfl⟩
    obtain ⟨p, hp, rfl⟩ := List.mem_map.mp hm
    exact absurd (List.find?_eq_none.mp e p hp) (by simp)
  | some q =>
    refine ⟨fun h => (by cases h), fun hm => ?_⟩
    have h1 := List.mem_of_find?_eq_some e
    have h2 := List.find?_some e
    exact absurd (List.mem_map.mpr ⟨q, h1, of_decide_eq_true h2⟩) hm
theorem has_mem {b : Bind} {x : Str} : hasV b x = true ↔ x ∈ b.map (·.1) := by
  rw [has_get]
  have h := getV_none (b := b) (x := x)
  cases e : getV b x with
  | none => rw [e] at h; simp only [Option.isSome_none, Bool.false_eq_true, false_iff]; exact h.mp rfl
  | some v =>
    rw [e] at h
    simp only [Option.isSome_some, true_iff]
    exact Classical.byContradiction fun z => by have := h.mpr z; cases this
theorem getV_app (b : Bind) (x y : Str) (n : Int) (h : x ∉ b.map (·.1)) : getV (b ++ [(x, n)]) y = if y = x then some n else getV b y := by
  unfold getV
  rw [List.find?_append]
  by_cases hy : y = x
  · subst hy
    have : b.find? (fun p => decide (p.1 = y)) = none := by
      rw [List.find?_eq_none]
      intro p hp hh
      exact h (List.mem_map.mpr ⟨p, hp, of_decide_eq_true hh⟩)
    rw [this, if_pos rfl]; simp
  · rw [if_neg hy]
    have : [(x, n)].find? (fun p => decide (p.1 = y)) = none := by
      rw [List.find?_eq_none]
      intro p hp
      rw [List.mem_singleton.mp hp]
      simpa using fun z => hy z.symm
    rw [this]; simp
theorem putB_new {b : Bind} {x : Str} {n : Int} (h : x ∉ b.map (·.1)) : putB b x n = b ++ [(x, n)] := by
  unfold putB
  rw [if_neg (fun z => h (has_mem.mp z))]
/-- the same at these names -/
def AgreeB (b c : Bind) (xs : List Str) : Prop := ∀ x ∈ xs, getV b x = getV c x
theorem AgreeB.val {b c : Bind} {xs : List Str} (h : AgreeB b c xs) {x : Str} (hx : x ∈ xs) : valB b x = valB c x := by unfold valB; rw [h x hx]
theorem AgreeB.has {b c : Bind} {xs : List Str} (h : AgreeB b c xs) {x : Str} (hx : x ∈ xs) : hasV b x = hasV c x := by rw [has_get, has_get, h x hx]
theorem holdsP_agree {W : Wb} {r : PRow} {b c : Bind} (h : AgreeB b c r.vs) : holdsP W r b = holdsP W r c := by
  cases r with
  | knot v k => unfold holdsP; simp only [h.val (x := v) (by simp [PRow.vs])]
  | any v => rfl
  | holds v n w o => unfold holdsP; simp only [h.val (x := v) (by simp [PRow.vs])]
  | tie v k u => unfold holdsP; simp only [h.val (x := v) (by simp [PRow.vs]), h.val (x := u) (by simp [PRow.vs])]
  | way v k u m => unfold holdsP; simp only [h.val (x := v) (by simp [PRow.vs]), h.val (x := u) (by simp [PRow.vs])]
  | unlike v u => unfold holdsP; simp only [h.val (x := v) (by simp [PRow.vs]), h.val (x := u) (by simp [PRow.vs])]
/-- knots set one behind another -/
def putAll (b : Bind) : List Str → List Int → Bind
  | x :: xs, k :: ks => putAll (b ++ [(x, k)]) xs ks
  | _, _ => b
theorem putAll_get : ∀ (xs : List Str) (ks : List Int) (b : Bind) (y : Str), y ∉ xs → getV (putAll b xs ks) y = getV b y
  | [], _, b, y, _ => by unfold putAll; rfl
  | x :: xs, [], b, y, _ => by unfold putAll; rfl
  | x :: xs, k :: ks, b, y, h => by
    unfold putAll
    have h1 : y ≠ x := fun z => h (by rw [z]; exact List.mem_cons_self)
    rw [putAll_get xs ks _ y (fun z => h (List.mem_cons_of_mem _ z))]
    unfold getV
    rw [List.find?_append]
    have : [(x, k)].find? (fun p => decide (p.1 = y)) = none := by
      rw [List.find?_eq_none]
      intro p hp
      rw [List.mem_singleton.mp hp]
      simpa using fun z => h1 z.symm
    rw [this]; simp
theorem putAll_names : ∀ (xs : List Str) (ks : List Int) (b : Bind), ks.length = xs.length → (putAll b xs ks).map (·.1) = b.map (·.1) ++ xs
  | [], [], b, _ => by unfold putAll; simp
  | [], _ :: _, _, h => by cases h
  | _ :: _, [], _, h => by cases h
  | x :: xs, k :: ks, b, h => by
    unfold putAll
    rw [putAll_names xs ks _ (by simpa using h)]; simp
/-- the values at xs lean on the ks alone -/
theorem putAll_agree : ∀ (xs : List Str) (ks : List Int) (b c : Bind) (y : Str), xs.Nodup → (∀ x ∈ xs, x ∉ b.map (·.1)) → (∀ x ∈ xs, x ∉ c.map (·.1)) → ks.length = xs.length → (y ∉ xs → getV b y = getV c y) → getV (putAll b xs ks) y = getV (putAll c xs ks) y
  | [], [], b, c, y, _, _, _, _, h => by unfold putAll; exact h (by simp)
  | [], _ :: _, _, _, _, _, _, _, h, _ => by cases h
  | _ :: _, [], _, _, _, _, _, _, h, _ => by cases h
  | x :: xs, k :: ks, b, c, y, hn, hb, hc, hl, h => by
    unfold putAll
    have nd := List.nodup_cons.mp hn
    have fresh : ∀ (d : Bind), (∀ z ∈ x :: xs, z ∉ d.map (·.1)) → ∀ z ∈ xs, z ∉ (d ++ [(x, k)]).map (·.1) := fun d hd z hz hm => by
      rw [List.map_append, List.mem_append] at hm
      rcases hm with hm | hm
      · exact hd z (List.mem_cons_of_mem _ hz) hm
      · have : z = x := by simpa using hm
        exact nd.1 (this ▸ hz)
    refine putAll_agree xs ks _ _ y nd.2 (fresh b hb) (fresh c hc) (by simpa using hl) fun hy => ?_
    rw [getV_app b x y k (hb x List.mem_cons_self), getV_app c x y k (hc x List.mem_cons_self)]
    split
    · rfl
    · rename_i hyx
      exact h fun z => (List.mem_cons.mp z).elim hyx hy
theorem isK_iff {W : Wb} {k : Int} : k ∈ W.knots.map (·.1) ↔ IsK W k := by
  constructor
  · rintro h
    obtain ⟨p, hp, rfl⟩ := List.mem_map.mp h
    exact knot_isK hp
  · exact isK_mem
/-- THE PLAIN SEARCH: what it finds -/
theorem binds_iff {W : Wb} {rs : List PRow} : ∀ {xs : List Str} {b c : Bind}, xs.Nodup → (∀ x ∈ xs, x ∉ b.map (·.1)) →
    (c ∈ binds W rs xs b ↔ ∃ ks : List Int, ks.length = xs.length ∧ (∀ k ∈ ks, IsK W k) ∧ c = putAll b xs ks ∧ ∀ r ∈ rs, holdsP W r c = true)
  | [], b, c, _, _ => by
    unfold binds
    constructor
    · intro h
      split at h
      · rename_i hh
        have e := List.mem_singleton.mp h
        subst e
        exact ⟨[], rfl, by simp, rfl, fun r hr => List.all_eq_true.mp hh r hr⟩
      · cases h
    · rintro ⟨ks, hl, _, rfl, hh⟩
      have : ks = [] := List.eq_nil_of_length_eq_zero (by simpa using hl)
      subst this
      rw [if_pos (List.all_eq_true.mpr hh)]
      exact List.mem_singleton.mpr rfl
  | x :: xs, b, c, hn, hf => by
    have nd := List.nodup_cons.mp hn
    have hx := hf x List.mem_cons_self
    have fresh : ∀ k : Int, ∀ z ∈ xs, z ∉ (b ++ [(x, k)]).map (·.1) := fun k z hz hm => by
      rw [List.map_append, List.mem_append] at hm
      rcases hm with hm | hm
      · exact hf z (List.mem_cons_of_mem _ hz) hm
      · have : z = x := by simpa using hm
        exact nd.1 (this ▸ hz)
    unfold binds
    rw [List.mem_flatMap]
    constructor
    · rintro ⟨p, hp, h⟩
      split at h
      · rw [putB_new hx] at h
        obtain ⟨ks, h1, h2, h3, h4⟩ := (binds_iff nd.2 (fresh p.1)).mp h
        refine ⟨p.1 :: ks, by simp [h1], fun k hk => ?_, by unfold putAll; exact h3, h4⟩
        rcases List.mem_cons.mp hk with e | e
        · rw [e]; exact knot_isK hp
        · exact h2 k e
      · cases h
    · rintro ⟨ks, h1, h2, h3, h4⟩
      cases ks with
      | nil => cases h1
      | cons k ks =>
        obtain ⟨p, hp, rfl⟩ := List.mem_map.mp (isK_iff.mpr (h2 k List.mem_cons_self))
        refine ⟨p, hp, ?_⟩
        unfold putAll at h3
        rw [putB_new hx]
        have hc := (binds_iff (c := c) (rs := rs) nd.2 (fresh p.1)).mpr ⟨ks, by simpa using h1, fun k hk => h2 k (List.mem_cons_of_mem _ hk), h3, h4⟩
        rw [if_pos ?_]
        · exact hc
        · rw [List.all_eq_true]
          intro r hr
          have hr' := List.mem_filter.mp hr
          have hall := (Bool.and_eq_true _ _ ▸ hr'.2).2
          rw [← h4 r hr'.1]
          refine holdsP_agree fun y hy => ?_
          have hy2 : hasV (b ++ [(x, p.1)]) y = true := List.all_eq_true.mp hall y ((prVars_mem r y).mpr hy)
          rw [h3]
          refine (putAll_get xs ks _ y fun hm => ?_).symm
          exact fresh p.1 y hm (has_mem.mp hy2)
theorem holdsR_agree {W : Wb} {r : Row} {b c : Bind} (h : AgreeB b c r.vars) : holdsR W r b = holdsR W r c := by
  cases r with
  | p r => exact holdsP_agree fun x hx => h x ((prVars_mem r x).mpr hx)
  | no rs =>
    have key : ∀ {b c : Bind}, AgreeB b c (Row.no rs).vars → holdsR W (.no rs) c = true → holdsR W (.no rs) b = true := by
      intro b c h hh
      unfold holdsR at hh ⊢
      rw [List.isEmpty_iff] at hh ⊢
      have e : ((Row.no rs).vars.filter fun x => !hasV b x) = (Row.no rs).vars.filter fun x => !hasV c x := by
        refine List.filter_congr fun x hx => ?_
        rw [h.has hx]
      rw [e]
      rw [List.eq_nil_iff_forall_not_mem] at hh ⊢
      intro d hd
      have nd : ((Row.no rs).vars.filter fun x => !hasV c x).Nodup := (vars_nodup _).filter _
      have fb : ∀ x ∈ (Row.no rs).vars.filter fun x => !hasV c x, x ∉ b.map (·.1) := fun x hx hm => by
        rw [← e] at hx
        have := (List.mem_filter.mp hx).2
        rw [has_mem.mpr hm] at this; cases this
      have fc : ∀ x ∈ (Row.no rs).vars.filter fun x => !hasV c x, x ∉ c.map (·.1) := fun x hx hm => by
        have := (List.mem_filter.mp hx).2
        rw [has_mem.mpr hm] at this; cases this
      obtain ⟨ks, h1, h2, h3, h4⟩ := (binds_iff nd fb).mp hd
      refine hh (putAll c _ ks) ((binds_iff nd fc).mpr ⟨ks, h1, h2, rfl, fun r hr => ?_⟩)
      rw [← h4 r hr, h3]
      refine holdsP_agree fun y hy => putAll_agree _ ks c b y nd fc fb h1 fun _ => ?_
      exact (h y (no_vars_mem.mpr ⟨r, hr, hy⟩)).symm
    cases hb : holdsR W (.no rs) b with
    | true => exact (key (fun x hx => (h x hx).symm) hb).symm
    | false =>
      cases hc : holdsR W (.no rs) c with
      | false => rfl
      | true => rw [key h hc] at hb; cases hb
end Ws
/-! M2: the plain law, second part: the search row by row finds what the plain search finds. -/
namespace Ws
open PySem PyProof.Rows PySem.Spec L2

theorem putAll_eq : ∀ (xs : List Str) (ks : List Int) (b : Bind), ks.length = xs.length → putAll b xs ks = b ++ xs.zip ks
  | [], [], b, _ => by unfold putAll; simp
  | [], _ :: _, _, h => by cases h
  | _ :: _, [], _, h => by cases h
  | x :: xs, k :: ks, b, h => by
    unfold putAll
    rw [putAll_eq xs ks _ (by simpa using h)]; simp
theorem putAll_ok {W : Wb} : ∀ (xs : List Str) (ks : List Int) (b : Bind), BindOk W b → (∀ k ∈ ks, IsK W k) → BindOk W (putAll b xs ks)
  | [], _, b, h, _ => by unfold putAll; exact h
  | _ :: _, [], b, h, _ => by unfold putAll; exact h
  | x :: xs, k :: ks, b, h, hk => by
    unfold putAll
    refine putAll_ok xs ks _ (fun p hp => ?_) fun k' hk' => hk k' (List.mem_cons_of_mem _ hk')
    rcases List.mem_append.mp hp with hp | hp
    · exact h p hp
    · rw [List.mem_singleton.mp hp]; exact hk k List.mem_cons_self
/-- the names that a row binds anew -/
def newV (dom : List Str) (r : Row) : List Str := if r.isB = true then r.vars.filter fun x => decide (x ∉ dom) else []
theorem uniq_two (v u : Str) : uniq [v, u] = if v = u then [v] else [v, u] := by
  unfold uniq
  simp only [List.foldl]
  by_cases h : v = u
  · subst h; simp
  · have : ¬ u = v := fun z => h z.symm
    simp [h, this]
theorem uniq_one (v : Str) : uniq [v] = [v] := by unfold uniq; simp [List.foldl]
theorem one_len {ks : List Int} (h : ks.length = 1) : ∃ k, ks = [k] := by
  match ks, h with
  | [k], _ => exact ⟨k, rfl⟩
theorem filt_iff {W : Wb} {r : Row} {b b' : Bind} : (b' ∈ if holdsR W r b = true then [b] else []) ↔ ∃ ks : List Int, ks.length = ([] : List Str).length ∧ (∀ k ∈ ks, IsK W k) ∧ b' = putAll b [] ks ∧ holdsR W r b' = true := by
  constructor
  · intro h
    split at h
    · rename_i hh
      have := List.mem_singleton.mp h
      subst this
      exact ⟨[], rfl, by simp, by unfold putAll; rfl, hh⟩
    · cases h
  · rintro ⟨ks, h1, _, h3, h4⟩
    have : b' = b := by rw [h3]; unfold putAll; rfl
    subst this
    rw [if_pos h4]; exact List.mem_singleton.mpr rfl
theorem val_app {b : Bind} {x y : Str} {n : Int} (h : x ∉ b.map (·.1)) : valB (b ++ [(x, n)]) y = if y = x then n else valB b y := by
  unfold valB
  rw [getV_app b x y n h]
  split <;> rfl
theorem farWay_K {W : Wb} {k a : Int} {kind : Str} {m : Nat} (ok : WbOk W) (h : a ∈ farWay W k kind m) : IsK W a := farWay_isK ok h
theorem stepK_iff {W : Wb} (ok : WbOk W) {r : PRow} {v : Str} (hv : isKA r = some v) {b b' : Bind} :
    b' ∈ stepK W r v b ↔ ∃ ks : List Int, ks.length = ((prVars r).filter fun x => decide (x ∉ b.map (·.1))).length ∧ (∀ k ∈ ks, IsK W k) ∧ b' = putAll b ((prVars r).filter fun x => decide (x ∉ b.map (·.1))) ks ∧ holdsP W r b' = true := by
  have hvs : prVars r = [v] := by
    cases r <;> first | (cases hv; exact uniq_one _) | (cases hv)
  rw [hvs]
  by_cases hh : v ∈ b.map (·.1)
  · have e : ([v].filter fun x => decide (x ∉ b.map (·.1))) = [] := by simp [hh]
    rw [e]
    unfold stepK
    rw [if_pos (has_mem.mpr hh)]
    exact filt_iff (r := .p r)
  · have e : ([v].filter fun x => decide (x ∉ b.map (·.1))) = [v] := by simp [hh]
    rw [e]
    unfold stepK
    rw [if_neg (fun z => hh (has_mem.mp z)), List.mem_map]
    have key : ∀ k : Int, IsK W k → (k ∈ knotsOf W r ↔ holdsP W r (b ++ [(v, k)]) = true) := by
      intro k hk
      unfold knotsOf
      rw [List.mem_filter]
      have h1 := isK_iff.mpr hk
      cases r with
      | knot v' k' =>
        cases hv
        unfold holdsP
        simp only [val_app hh, if_true]
        exact ⟨fun z => z.2, fun z => ⟨h1, z⟩⟩
      | any v' => exact ⟨fun _ => rfl, fun _ => ⟨h1, rfl⟩⟩
      | _ => cases hv
    constructor
    · rintro ⟨k, hk, rfl⟩
      have hK : IsK W k := isK_iff.mp ((List.mem_filter.mp hk).1)
      refine ⟨[k], rfl, fun k' hk' => by rw [List.mem_singleton.mp hk']; exact hK, ?_, ?_⟩
      · rw [putB_new hh]; unfold putAll putAll; rfl
      · rw [putB_new hh]; exact (key k hK).mp hk
    · rintro ⟨ks, h1, h2, h3, h4⟩
      obtain ⟨k, rfl⟩ := one_len h1
      have hK := h2 k List.mem_cons_self
      have e3 : b' = b ++ [(v, k)] := by rw [h3]; unfold putAll putAll; rfl
      refine ⟨k, (key k hK).mpr (by rw [← e3]; exact h4), by rw [putB_new hh, e3]⟩
theorem tw_holds {W : Wb} {r : PRow} {v k u : Str} {m : Nat} (h : TWrow r v k u m) (b : Bind) : holdsP W r b = decide (valB b u ∈ farWay W (valB b v) k m) := by cases h <;> rfl
theorem stepT1_iff {W : Wb} (ok : WbOk W) {r : PRow} {v k u : Str} {m : Nat} (h : TWrow r v k u m) {b b' : Bind} (hv : v ∈ b.map (·.1)) :
    b' ∈ stepT1 W r v k u m b ↔ ∃ ks : List Int, ks.length = ([u].filter fun x => decide (x ∉ b.map (·.1))).length ∧ (∀ k ∈ ks, IsK W k) ∧ b' = putAll b ([u].filter fun x => decide (x ∉ b.map (·.1))) ks ∧ holdsP W r b' = true := by
  unfold stepT1
  by_cases hu : u ∈ b.map (·.1)
  · have e : ([u].filter fun x => decide (x ∉ b.map (·.1))) = [] := by simp [hu]
    rw [e, if_pos (by rw [has_mem.mpr hv, has_mem.mpr hu]; rfl)]
    exact filt_iff (r := .p r)
  · have e : ([u].filter fun x => decide (x ∉ b.map (·.1))) = [u] := by simp [hu]
    have hvu : v ≠ u := fun z => hu (z ▸ hv)
    rw [e, if_neg (by rw [Bool.and_eq_true]; exact fun z => hu (has_mem.mp z.2)), List.mem_map]
    have key : ∀ n : Int, holdsP W r (b ++ [(u, n)]) = decide (n ∈ farWay W (valB b v) k m) := fun n => by
      rw [tw_holds h, val_app hu, val_app hu, if_pos rfl, if_neg hvu]
    constructor
    · rintro ⟨n, hn, rfl⟩
      refine ⟨[n], rfl, fun k' hk' => by rw [List.mem_singleton.mp hk']; exact farWay_isK ok hn, ?_, ?_⟩
      · rw [putB_new hu]; unfold putAll putAll; rfl
      · rw [putB_new hu, key]; exact decide_eq_true hn
    · rintro ⟨ks, h1, h2, h3, h4⟩
      obtain ⟨n, rfl⟩ := one_len h1
      have e3 : b' = b ++ [(u, n)] := by rw [h3]; unfold putAll putAll; rfl
      rw [e3, key] at h4
      exact ⟨n, of_decide_eq_true h4, by rw [putB_new hu, e3]⟩
theorem stepT_iff {W : Wb} (ok : WbOk W) {r : PRow} {v k u : Str} {m : Nat} (h : TWrow r v k u m) {b b' : Bind} :
    b' ∈ stepT W r v k u m b ↔ ∃ ks : List Int, ks.length = ((prVars r).filter fun x => decide (x ∉ b.map (·.1))).length ∧ (∀ k ∈ ks, IsK W k) ∧ b' = putAll b ((prVars r).filter fun x => decide (x ∉ b.map (·.1))) ks ∧ holdsP W r b' = true := by
  have hvs : prVars r = if v = u then [v] else [v, u] := by unfold prVars; rw [h.vs, uniq_two]
  rw [hvs]
  unfold stepT
  by_cases hv : v ∈ b.map (·.1)
  · rw [if_pos (has_mem.mpr hv), stepT1_iff ok h hv]
    have e : ((if v = u then [v] else [v, u]).filter fun x => decide (x ∉ b.map (·.1))) = [u].filter fun x => decide (x ∉ b.map (·.1)) := by
      by_cases e : v = u
      · rw [if_pos e, e]
      · rw [if_neg e]; simp [hv]
    rw [e]
  · rw [if_neg (fun z => hv (has_mem.mp z))]
    by_cases hu : u ∈ b.map (·.1)
    · have hvu : ¬ v = u := fun z => hv (z ▸ hu)
      have e : ((if v = u then [v] else [v, u]).filter fun x => decide (x ∉ b.map (·.1))) = [v] := by rw [if_neg hvu]; simp [hv, hu]
      rw [e, if_pos (has_mem.mpr hu), List.mem_map]
      have key : ∀ n : Int, holdsP W r (b ++ [(v, n)]) = decide (n ∈ nearWay W (valB b u) k m) := fun n => by
        rw [tw_holds h, val_app hv, val_app hv, if_pos rfl, if_neg (fun z => hvu z.symm)]
        exact decide_eq_decide.mpr (near_far ok).symm
      constructor
      · rintro ⟨n, hn, rfl⟩
        refine ⟨[n], rfl, fun k' hk' => by rw [List.mem_singleton.mp hk']; exact nearWay_isK ok hn, ?_, ?_⟩
        · rw [putB_new hv]; unfold putAll putAll; rfl
        · rw [putB_new hv, key]; exact decide_eq_true hn
      · rintro ⟨ks, h1, h2, h3, h4⟩
        obtain ⟨n, rfl⟩ := one_len h1
        have e3 : b' = b ++ [(v, n)] := by rw [h3]; unfold putAll putAll; rfl
        rw [e3, key] at h4
        exact ⟨n, of_decide_eq_true h4, by rw [putB_new hv, e3]⟩
    · rw [if_neg (fun z => hu (has_mem.mp z)), List.mem_flatMap]
      have hin : ∀ n : Int, v ∈ (b ++ [(v, n)]).map (·.1) := fun n => by simp
      by_cases hvu : v = u
      · subst hvu
        have e : ((if v = v then [v] else [v, v]).filter fun x => decide (x ∉ b.map (·.1))) = [v] := by rw [if_pos rfl]; simp [hv]
        rw [e]
        have e2 : ∀ n : Int, ([v].filter fun x => decide (x ∉ (b ++ [(v, n)]).map (·.1))) = [] := fun n => by simp
        constructor
        · rintro ⟨p, hp, h'⟩
          rw [putB_new hv, stepT1_iff ok h (hin p.1), e2] at h'
          obtain ⟨ks, h1, h2, h3, h4⟩ := h'
          have : ks = [] := List.eq_nil_of_length_eq_zero (by simpa using h1)
          subst this
          refine ⟨[p.1], rfl, fun k' hk' => by rw [List.mem_singleton.mp hk']; exact knot_isK hp, ?_, h4⟩
          rw [h3]; unfold putAll putAll; rfl
        · rintro ⟨ks, h1, h2, h3, h4⟩
          obtain ⟨n, rfl⟩ := one_len h1
          obtain ⟨p, hp, rfl⟩ := List.mem_map.mp (isK_iff.mpr (h2 n List.mem_cons_self))
          refine ⟨p, hp, ?_⟩
          rw [putB_new hv, stepT1_iff ok h (hin p.1), e2]
          exact ⟨[], rfl, by simp, by rw [h3]; unfold putAll putAll; rfl, h4⟩
      · have e : ((if v = u then [v] else [v, u]).filter fun x => decide (x ∉ b.map (·.1))) = [v, u] := by rw [if_neg hvu]; simp [hv, hu]
        rw [e]
        have e2 : ∀ n : Int, ([u].filter fun x => decide (x ∉ (b ++ [(v, n)]).map (·.1))) = [u] := fun n => by
          have : ¬ u = v := fun z => hvu z.symm
          rw [List.filter_cons_of_pos, List.filter_nil]
          refine decide_eq_true fun z => ?_
          rw [List.map_append, List.mem_append] at z
          rcases z with z | z
          · exact hu z
          · exact this (by simpa using z)
        constructor
        · rintro ⟨p, hp, h'⟩
          rw [putB_new hv, stepT1_iff ok h (hin p.1), e2] at h'
          obtain ⟨ks, h1, h2, h3, h4⟩ := h'
          obtain ⟨n, rfl⟩ := one_len h1
          refine ⟨[p.1, n], rfl, fun k' hk' => ?_, ?_, h4⟩
          · rcases List.mem_cons.mp hk' with e | e
            · rw [e]; exact knot_isK hp
            · exact h2 k' e
          · rw [h3]; conv => rhs; unfold putAll
        · rintro ⟨ks, h1, h2, h3, h4⟩
          match ks, h1 with
          | [n, n2], _ =>
            obtain ⟨p, hp, rfl⟩ := List.mem_map.mp (isK_iff.mpr (h2 n List.mem_cons_self))
            refine ⟨p, hp, ?_⟩
            rw [putB_new hv, stepT1_iff ok h (hin p.1), e2]
            exact ⟨[n2], rfl, fun k' hk' => h2 k' (List.mem_cons_of_mem _ hk'), by rw [h3]; conv => lhs; unfold putAll, h4⟩
/-- ONE STEP -/
theorem stepR_iff {W : Wb} (ok : WbOk W) {r : Row} (hr : r.fine) {b b' : Bind} :
    b' ∈ stepR W r b ↔ ∃ ks : List Int, ks.length = (newV (b.map (·.1)) r).length ∧ (∀ k ∈ ks, IsK W k) ∧ b' = putAll b (newV (b.map (·.1)) r) ks ∧ holdsR W r b' = true := by
  cases r with
  | no rs => exact filt_iff
  | p r =>
    cases r with
    | knot v k => exact stepK_iff ok rfl
    | any v => exact stepK_iff ok rfl
    | holds v n w o => exact filt_iff
    | unlike v u => exact filt_iff
    | tie v k u => exact stepT_iff ok (.tie v k u)
    | way v k u m =>
      have hm : 0 ≤ m ∧ m ≤ 4 := hr
      obtain ⟨n, rfl⟩ : ∃ n : Nat, m = n := ⟨m.toNat, by omega⟩
      exact stepT_iff ok (.way v k u n (by omega))
end Ws
/-! M3: the plain law, third part: the whole run; as many answers as there may be. -/
namespace Ws
open PySem PyProof.Rows PySem.Spec L2

def stepN (W : Wb) (rs : List Row) (f : List Bind) (n : Nat) : List Bind := match rs[n]? with
  | some r => f.flatMap (stepR W r)
  | none => f
def runAll (W : Wb) (rs : List Row) (ns : List Nat) : List Bind := ns.foldl (stepN W rs) [[]]
theorem runAll_snoc (W : Wb) (rs : List Row) (ns : List Nat) (n : Nat) : runAll W rs (ns ++ [n]) = stepN W rs (runAll W rs ns) n := by
  unfold runAll; rw [List.foldl_append]; rfl
def domN (rs : List Row) (dom : List Str) (n : Nat) : List Str := match rs[n]? with
  | some r => dom ++ newV dom r
  | none => dom
def domAll (rs : List Row) (ns : List Nat) : List Str := ns.foldl (domN rs) []
theorem domAll_snoc (rs : List Row) (ns : List Nat) (n : Nat) : domAll rs (ns ++ [n]) = domN rs (domAll rs ns) n := by
  unfold domAll; rw [List.foldl_append]; rfl
/-- every name of an outer row stands in a row that binds -/
def AllBound (rs : List Row) : Prop := ∀ r ∈ rs, r.isP = true → ∀ x ∈ r.vars, x ∈ boundIn (outer rs)
theorem newV_mem {dom : List Str} {r : Row} {x : Str} : x ∈ newV dom r ↔ r.isB = true ∧ x ∈ r.vars ∧ x ∉ dom := by
  unfold newV
  split
  · rename_i h
    rw [List.mem_filter]
    simp [h]
  · rename_i h
    simp [h]
theorem newV_nodup (dom : List Str) (r : Row) : (newV dom r).Nodup := by
  unfold newV
  split
  · exact (vars_nodup r).filter _
  · exact List.nodup_nil
theorem map_put_nodup {b : Bind} {v : Str} (hv : v ∉ b.map (·.1)) {ks : List Int} (h : ks.Nodup) : (ks.map (putB b v)).Nodup := by
  refine List.pairwise_map.mpr (h.imp fun {a c} hne e => hne ?_)
  rw [putB_new hv, putB_new hv] at e
  have := List.append_cancel_left e
  simpa using this
theorem knotsOf_nodup {W : Wb} (ok : WbOk W) (r : PRow) : (knotsOf W r).Nodup := ok.kn.filter _
theorem one_nodup {b : Bind} {k : Bool} : (if k = true then [b] else []).Nodup := by split <;> simp
theorem stepK_nodup {W : Wb} (ok : WbOk W) (r : PRow) (v : Str) (b : Bind) : (stepK W r v b).Nodup := by
  unfold stepK
  split
  · exact one_nodup
  · rename_i h
    exact map_put_nodup (fun z => h (has_mem.mpr z)) (knotsOf_nodup ok r)
theorem stepT1_nodup {W : Wb} (r : PRow) (v k u : Str) (m : Nat) (b : Bind) (hv : hasV b v = true) : (stepT1 W r v k u m b).Nodup := by
  unfold stepT1
  split
  · exact one_nodup
  · rename_i h
    exact map_put_nodup (fun z => h (by rw [hv, has_mem.mpr z]; rfl)) (farWay_nodup ..)
theorem stepT1_pre {W : Wb} {r : PRow} {v k u : Str} {m : Nat} {b c : Bind} (hv : hasV b v = true) (h : c ∈ stepT1 W r v k u m b) : ∃ t, c = b ++ t := by
  unfold stepT1 at h
  split at h
  · split at h
    · exact ⟨[], by rw [List.mem_singleton.mp h]; simp⟩
    · cases h
  · rename_i h'
    obtain ⟨n, _, rfl⟩ := List.mem_map.mp h
    exact ⟨_, putB_new (fun z => h' (by rw [hv, has_mem.mpr z]; rfl))⟩
theorem stepT_nodup {W : Wb} (ok : WbOk W) (r : PRow) (v k u : Str) (m : Nat) (b : Bind) : (stepT W r v k u m b).Nodup := by
  unfold stepT
  split
  · rename_i h; exact stepT1_nodup r v k u m b h
  · rename_i h
    have hv : v ∉ b.map (·.1) := fun z => h (has_mem.mpr z)
    split
    · exact map_put_nodup hv (nearWay_nodup ..)
    · have hin : ∀ n : Int, hasV (putB b v n) v = true := fun n => by rw [has_put]; simp
      refine List.pairwise_flatMap.mpr ⟨fun n _ => stepT1_nodup r v k u m _ (hin n.1), ?_⟩
      have nd := List.pairwise_map.mp ok.kn
      refine nd.imp fun {p q} hne c hc d hd e => ?_
      obtain ⟨t1, e1⟩ := stepT1_pre (hin p.1) hc
      obtain ⟨t2, e2⟩ := stepT1_pre (hin q.1) hd
      rw [putB_new hv] at e1 e2
      rw [e1, e2, List.append_assoc, List.append_assoc] at e
      have := List.append_cancel_left e
      exact hne (by simpa using congrArg List.head? this)
theorem stepR_nodup {W : Wb} (ok : WbOk W) (r : Row) (b : Bind) : (stepR W r b).Nodup := by
  cases r with
  | no rs => exact one_nodup
  | p r =>
    cases r with
    | knot v k => exact stepK_nodup ok _ _ _
    | any v => exact stepK_nodup ok _ _ _
    | holds v n w o => exact one_nodup
    | unlike v u => exact one_nodup
    | tie v k u => exact stepT_nodup ok _ _ _ _ _ _
    | way v k u m => exact stepT_nodup ok _ _ _ _ _ _

structure RunInv (W : Wb) (rs : List Row) (ns : List Nat) : Prop where
  nd : (domAll rs ns).Nodup
  dm : ∀ x, x ∈ domAll rs ns ↔ x ∈ bAfter rs [] ns
  ex : ∀ b, b ∈ runAll W rs ns ↔ b.map (·.1) = domAll rs ns ∧ BindOk W b ∧ ∀ n ∈ ns, ∀ r, rs[n]? = some r → holdsR W r b = true
  un : (runAll W rs ns).Nodup
  ob : ∀ n ∈ ns, ∀ r, rs[n]? = some r → ∀ x ∈ r.vars, x ∈ boundIn (outer rs) → x ∈ domAll rs ns
theorem RunInv.nil (W : Wb) (rs : List Row) : RunInv W rs [] where
  nd := List.nodup_nil
  dm := fun x => by unfold domAll bAfter; simp
  ex := fun b => by
    unfold runAll domAll
    simp only [List.foldl_nil, List.mem_singleton]
    constructor
    · rintro rfl; exact ⟨rfl, fun p hp => (by cases hp), fun n hn => (by cases hn)⟩
    · rintro ⟨h, _⟩; exact List.map_eq_nil_iff.mp h
  un := by unfold runAll; simp
  ob := fun n hn => by cases hn
theorem zip_fs : ∀ l : List (Str × Int), (l.map (·.1)).zip (l.map (·.2)) = l
  | [] => rfl
  | p :: l => by rw [List.map_cons, List.map_cons, List.zip_cons_cons, zip_fs l]
theorem split_names {c : Bind} {dom new : List Str} (h : c.map (·.1) = dom ++ new) : ∃ b ks, b.map (·.1) = dom ∧ ks.length = new.length ∧ c = putAll b new ks ∧ (∀ p ∈ b, p ∈ c) ∧ ∀ k ∈ ks, ∃ p ∈ c, p.2 = k := by
  have h1 : (c.take dom.length).map (·.1) = dom := by rw [List.map_take, h]; simp
  have h2 : (c.drop dom.length).map (·.1) = new := by rw [List.map_drop, h]; simp
  have h3 : ((c.drop dom.length).map (·.2)).length = new.length := by rw [List.length_map, ← h2, List.length_map]
  refine ⟨c.take dom.length, (c.drop dom.length).map (·.2), h1, h3, ?_, fun p hp => List.mem_of_mem_take hp, fun k hk => ?_⟩
  · rw [putAll_eq _ _ _ h3]
    have : new.zip ((c.drop dom.length).map (·.2)) = c.drop dom.length := by
      rw [← h2]
      exact zip_fs _
    rw [this, List.take_append_drop]
  · obtain ⟨p, hp, e⟩ := List.mem_map.mp hk
    exact ⟨p, List.mem_of_mem_drop hp, e⟩
theorem RunInv.snoc {W : Wb} (ok : WbOk W) {rs : List Row} (rok : RowsOk rs) (ab : AllBound rs) {ns : List Nat} {n : Nat} (I : RunInv W rs ns) (hgo : goFrom rs (boundIn (outer rs)) [] (ns ++ [n]) = true) : RunInv W rs (ns ++ [n]) := by
  rw [goFrom_snoc, Bool.and_eq_true] at hgo
  obtain ⟨_, hn⟩ := hgo
  cases er : rs[n]? with
  | none => rw [goFrom_0 er] at hn; cases hn
  | some r =>
    have hr : r ∈ rs := List.mem_of_getElem? er
    have hf := rok.2 r hr
    have ed : domAll rs (ns ++ [n]) = domAll rs ns ++ newV (domAll rs ns) r := by rw [domAll_snoc]; unfold domN; rw [er]
    have erun : runAll W rs (ns ++ [n]) = (runAll W rs ns).flatMap (stepR W r) := by rw [runAll_snoc]; unfold stepN; rw [er]
    have old : ∀ m ∈ ns, ∀ r', rs[m]? = some r' → ∀ x ∈ r'.vars, x ∉ newV (domAll rs ns) r := fun m hm r' er' x hx hnew => by
      obtain ⟨hB, hxv, hxd⟩ := newV_mem.mp hnew
      exact hxd (I.ob m hm r' er' x hx ((boundIn_mem rs x).mpr ⟨r, hr, hB, hxv⟩))
    have agree : ∀ (b : Bind) (ks : List Int), ∀ m ∈ ns, ∀ r', rs[m]? = some r' → holdsR W r' (putAll b (newV (domAll rs ns) r) ks) = holdsR W r' b := fun b ks m hm r' er' =>
      holdsR_agree fun x hx => putAll_get _ _ _ _ (old m hm r' er' x hx)
    have dm : ∀ x, x ∈ domAll rs (ns ++ [n]) ↔ x ∈ bAfter rs [] (ns ++ [n]) := fun x => by
      rw [ed, bAfter_snoc, List.mem_append, I.dm, newV_mem]
      by_cases hB : r.isB = true
      · rw [bAfter_B er hB]
        show _ ↔ x ∈ bAfter rs [] ns ++ r.vars
        rw [List.mem_append, I.dm]
        constructor
        · rintro (h | ⟨_, h, _⟩)
          · exact .inl h
          · exact .inr h
        · rintro (h | h)
          · exact .inl h
          · by_cases h2 : x ∈ bAfter rs [] ns
            · exact .inl h2
            · exact .inr ⟨hB, h, h2⟩
      · rw [bAfter_N er hB]
        show _ ↔ x ∈ bAfter rs [] ns
        exact ⟨fun h => h.resolve_right (fun z => hB z.1), .inl⟩
    refine ⟨?_, dm, fun c => ?_, ?_, ?_⟩
    · rw [ed]
      exact List.nodup_append.mpr ⟨I.nd, newV_nodup _ _, fun a ha b hb e => (newV_mem.mp hb).2.2 (e ▸ ha)⟩
    · rw [erun, ed, List.mem_flatMap]
      constructor
      · rintro ⟨b, hb, hc⟩
        obtain ⟨h1, h2, h3⟩ := (I.ex b).mp hb
        rw [stepR_iff ok hf, h1] at hc
        obtain ⟨ks, k1, k2, k3, k4⟩ := hc
        refine ⟨by rw [k3, putAll_names _ _ _ k1, h1], by rw [k3]; exact putAll_ok _ _ _ h2 k2, fun m hm r' er' => ?_⟩
        rcases List.mem_append.mp hm with hm | hm
        · rw [k3, agree b ks m hm r' er']; exact h3 m hm r' er'
        · rw [List.mem_singleton.mp hm, er] at er'; cases er'; exact k4
      · rintro ⟨h1, h2, h3⟩
        obtain ⟨b, ks, k1, k2, k3, k4, k5⟩ := split_names h1
        refine ⟨b, (I.ex b).mpr ⟨k1, fun p hp => h2 p (k4 p hp), fun m hm r' er' => ?_⟩, ?_⟩
        · rw [← agree b ks m hm r' er', ← k3]
          exact h3 m (List.mem_append_left _ hm) r' er'
        · rw [stepR_iff ok hf, k1]
          refine ⟨ks, k2, fun k hk => ?_, k3, h3 n (List.mem_append_right _ List.mem_cons_self) r er⟩
          obtain ⟨p, hp, e⟩ := k5 k hk
          rw [← e]; exact h2 p hp
    · rw [erun]
      refine List.pairwise_flatMap.mpr ⟨fun b _ => stepR_nodup ok r b, ?_⟩
      have hnd := I.un
      refine List.Pairwise.imp_of_mem (fun {a b} ha hb hne x hx y hy e => hne ?_) hnd
      have h1 := ((I.ex a).mp ha).1
      have h2 := ((I.ex b).mp hb).1
      obtain ⟨ks, k1, _, k3, _⟩ := (stepR_iff ok hf).mp hx
      obtain ⟨ks2, k1', _, k3', _⟩ := (stepR_iff ok hf).mp hy
      rw [putAll_eq _ _ _ k1] at k3
      rw [putAll_eq _ _ _ k1'] at k3'
      have hl : a.length = b.length := by rw [← List.length_map (f := (·.1)) (as := a), ← List.length_map (f := (·.1)) (as := b), h1, h2]
      have e1 : x.take a.length = a := by rw [k3]; simp
      have e2 : y.take b.length = b := by rw [k3']; simp
      rw [← e1, ← e2, e, hl]
    · intro m hm r' er' x hx hout
      rcases List.mem_append.mp hm with hm | hm
      · rw [ed]; exact List.mem_append_left _ (I.ob m hm r' er' x hx hout)
      · rw [List.mem_singleton.mp hm, er] at er'; cases er'
        rw [dm]
        by_cases hB : r.isB = true
        · exact (bAfter_mem rs x _ []).mpr (.inr ⟨n, List.mem_append_right _ List.mem_cons_self, r, er, hB, hx⟩)
        · rw [goFrom_N er hB, Bool.and_eq_true] at hn
          have hrd := hn.1
          unfold ready wantedBy at hrd
          have := List.all_eq_true.mp hrd x (List.mem_filter.mpr ⟨hx, decide_eq_true hout⟩)
          rw [bAfter_snoc, bAfter_N er hB]
          exact of_decide_eq_true this
theorem run_inv {W : Wb} (ok : WbOk W) {rs : List Row} (rok : RowsOk rs) (ab : AllBound rs) (ns : List Nat) (hgo : goFrom rs (boundIn (outer rs)) [] ns = true) : RunInv W rs ns := by
  have key : ∀ ns : List Nat, goFrom rs (boundIn (outer rs)) [] ns = true → RunInv W rs ns := fun ns => by
    refine snoc_ind (p := fun ns => goFrom rs (boundIn (outer rs)) [] ns = true → RunInv W rs ns) (fun _ => RunInv.nil W rs) (fun xs x ih h => ?_) ns
    have h' := h
    rw [goFrom_snoc, Bool.and_eq_true] at h'
    exact (ih h'.1).snoc ok rok ab h
  exact key ns hgo
end Ws
/-! M4: the plain law, fourth part: how many; the two searches show the same. -/
namespace Ws
open PySem PyProof.Rows PySem.Spec L2

/-! ### how many -/
def prods (ks : List Int) : Nat → List (List Int)
  | 0 => [[]]
  | n + 1 => ks.flatMap fun k => (prods ks n).map (k :: ·)
theorem prods_len (ks : List Int) : ∀ n, (prods ks n).length = ks.length ^ n
  | 0 => rfl
  | n + 1 => by
    unfold prods
    rw [List.length_flatMap]
    have : (ks.map fun k => ((prods ks n).map (k :: ·)).length) = ks.map fun _ => ks.length ^ n := by
      refine List.map_congr_left fun k _ => ?_
      rw [List.length_map, prods_len ks n]
    rw [this, List.map_const', List.sum_replicate_nat, Nat.pow_succ, Nat.mul_comm]
theorem prods_mem {ks : List Int} : ∀ {l : List Int}, (∀ k ∈ l, k ∈ ks) → l ∈ prods ks l.length
  | [], _ => by unfold prods; simp
  | k :: l, h => by
    unfold prods
    rw [List.length_cons]
    exact List.mem_flatMap.mpr ⟨k, h k List.mem_cons_self, List.mem_map.mpr ⟨l, prods_mem fun x hx => h x (List.mem_cons_of_mem _ hx), rfl⟩⟩
theorem nodup_sub_lenA {α : Type} [DecidableEq α] : ∀ (l m : List α), l.Nodup → (∀ x ∈ l, x ∈ m) → l.length ≤ m.length
  | [], _, _, _ => Nat.zero_le _
  | x :: l, m, hn, h => by
    have nd := List.nodup_cons.mp hn
    have hx := h x List.mem_cons_self
    have h2 : ∀ y ∈ l, y ∈ m.erase x := fun y hy => by
      have hne : y ≠ x := fun e => nd.1 (e ▸ hy)
      exact (List.mem_erase_of_ne hne).mpr (h y (List.mem_cons_of_mem _ hy))
    have := nodup_sub_lenA l (m.erase x) nd.2 h2
    rw [List.length_erase_of_mem hx] at this
    have : 0 < m.length := List.length_pos_of_mem hx
    rw [List.length_cons]; omega
/-- bindings of one domain, each once -/
theorem binds_few {W : Wb} {dom : List Str} {f : List Bind} (hn : f.Nodup) (h : ∀ b ∈ f, b.map (·.1) = dom ∧ BindOk W b) : f.length ≤ W.knots.length ^ dom.length := by
  have e1 : (f.map fun b => b.map (·.2)).Nodup := by
    refine List.pairwise_map.mpr (List.Pairwise.imp_of_mem (fun {a b} ha hb hne e => hne ?_) hn)
    rw [← zip_fs a, ← zip_fs b, (h a ha).1, (h b hb).1, e]
  have e2 : ∀ l ∈ f.map (fun b => b.map (·.2)), l ∈ prods (W.knots.map (·.1)) dom.length := fun l hl => by
    obtain ⟨b, hb, rfl⟩ := List.mem_map.mp hl
    obtain ⟨h1, h2⟩ := h b hb
    have : dom.length = (b.map (·.2)).length := by rw [List.length_map, ← h1, List.length_map]
    rw [this]
    refine prods_mem fun k hk => ?_
    obtain ⟨p, hp, rfl⟩ := List.mem_map.mp hk
    exact isK_iff.mpr (h2 p hp)
  have := nodup_sub_lenA _ _ e1 e2
  rw [prods_len, List.length_map, List.length_map] at this
  exact this
/-- what bindings of the names V show: no more than that -/
def atV (V : List Str) (vs : List Int) (x : Str) : Int := valB (V.zip vs) x
theorem getV_zip {b : Bind} {V : List Str} (hV : ∀ x ∈ V, hasV b x = true) {x : Str} (hx : x ∈ V) : valB (V.zip (V.map (valB b))) x = valB b x := by
  have e : V.zip (V.map (valB b)) = V.map fun x => (x, valB b x) := by
    clear hV hx
    induction V with
    | nil => rfl
    | cons y ys ih => rw [List.map_cons, List.zip_cons_cons, ih, List.map_cons]
  rw [e]
  have : getV (V.map fun x => (x, valB b x)) x = some (valB b x) := by
    clear hV e
    unfold getV
    induction V with
    | nil => cases hx
    | cons y ys ih =>
      rw [List.map_cons, List.find?_cons]
      by_cases h : y = x
      · subst h; simp
      · have h' : decide (y = x) = false := decide_eq_false h
        simp only [h']
        exact ih ((List.mem_cons.mp hx).resolve_left fun z => h z.symm)
  unfold valB at this ⊢
  rw [this]; rfl
theorem shown_few {W : Wb} {V shown : List Str} {ts : List (List Int)} (hs : ∀ x ∈ shown, x ∈ V) (h : ∀ t ∈ ts, ∃ b, BindOk W b ∧ (∀ x ∈ V, hasV b x = true) ∧ t = shownOf shown b) {l : List (List Int)} (hn : l.Nodup) (hl : ∀ t ∈ l, t ∈ ts) : l.length ≤ W.knots.length ^ V.length := by
  have e : ∀ t ∈ l, t ∈ (prods (W.knots.map (·.1)) V.length).map fun vs => shown.map (atV V vs) := fun t ht => by
    obtain ⟨b, h1, h2, rfl⟩ := h t (hl t ht)
    refine List.mem_map.mpr ⟨V.map (valB b), ?_, ?_⟩
    · have : V.length = (V.map (valB b)).length := by rw [List.length_map]
      rw [this]
      refine prods_mem fun k hk => ?_
      obtain ⟨x, hx, rfl⟩ := List.mem_map.mp hk
      obtain ⟨n, e1, e2⟩ := h1.gives h2 x hx
      have : valB b x = n := by unfold valB; rw [e1]; rfl
      rw [this]; exact isK_iff.mpr e2
    · unfold shownOf
      refine List.map_congr_left fun x hx => ?_
      exact getV_zip h2 (hs x hx)
  have := nodup_sub_lenA _ _ hn e
  rw [List.length_map, prods_len, List.length_map] at this
  exact this
def FewK (W : Wb) (rs : List Row) : Prop := W.knots.length ^ (varsIn (outer rs)).length ≤ 81

/-! ### the two searches -/
theorem mem_bound {rs : List Row} (ab : AllBound rs) (x : Str) : x ∈ varsIn (outer rs) ↔ x ∈ boundIn (outer rs) := by
  constructor
  · intro h
    obtain ⟨r, h1, h2⟩ := (vin_mem _ x).mp h
    have := List.mem_filter.mp h1
    exact ab r this.1 this.2 x h2
  · intro h
    obtain ⟨r, h1, h2, h3⟩ := (boundIn_mem rs x).mp h
    exact (vin_mem _ x).mpr ⟨r, List.mem_filter.mpr ⟨h1, isB_isP h2⟩, h3⟩
theorem dom_all {W : Wb} {rs : List Row} (ab : AllBound rs) {ns : List Nat} (I : RunInv W rs ns) (hp : ns.Perm (List.range rs.length)) (x : Str) : x ∈ domAll rs ns ↔ x ∈ varsIn (outer rs) := by
  rw [I.dm, mem_bound ab, boundIn_mem, bAfter_mem]
  constructor
  · rintro (h | ⟨n, hn, r, er, hB, hx⟩)
    · cases h
    · exact ⟨r, List.mem_of_getElem? er, hB, hx⟩
  · rintro ⟨r, hr, hB, hx⟩
    obtain ⟨i, hi, e⟩ := List.mem_iff_getElem.mp hr
    exact .inr ⟨i, hp.mem_iff.mpr (List.mem_range.mpr hi), r, by rw [List.getElem?_eq_getElem hi, e], hB, hx⟩
theorem allB_iff {W : Wb} {rs : List Row} {ys : List Str} (hy : ys.Perm (varsIn (outer rs))) (b : Bind) : b ∈ allB W rs ys ↔ b.map (·.1) = ys ∧ BindOk W b ∧ ∀ r ∈ rs, holdsR W r b = true := by
  have nd : ys.Nodup := hy.nodup_iff.mpr (vin_nodup _)
  unfold allB
  rw [List.mem_filter, binds_iff nd (fun x _ h => by cases h), List.all_eq_true]
  constructor
  · rintro ⟨⟨ks, h1, h2, h3, h4⟩, h5⟩
    refine ⟨by rw [h3, putAll_names _ _ _ h1]; rfl, by rw [h3]; exact putAll_ok _ _ _ (fun p hp => by cases hp) h2, fun r hr => ?_⟩
    cases r with
    | p r => exact h4 r (plain_mem.mpr hr)
    | no ps => exact h5 _ (List.mem_filter.mpr ⟨hr, rfl⟩)
  · rintro ⟨h1, h2, h3⟩
    refine ⟨⟨b.map (·.2), by rw [List.length_map, ← h1, List.length_map], fun k hk => ?_, ?_, fun r hr => h3 _ (plain_mem.mp hr)⟩, fun r hr => h3 r (List.mem_filter.mp hr).1⟩
    · obtain ⟨p, hp, rfl⟩ := List.mem_map.mp hk
      exact h2 p hp
    · rw [putAll_eq _ _ _ (by rw [List.length_map, ← h1, List.length_map]), ← h1, zip_fs]; rfl
theorem run_iff {W : Wb} {rs : List Row} {ns : List Nat} (I : RunInv W rs ns) (hp : ns.Perm (List.range rs.length)) (b : Bind) : b ∈ runAll W rs ns ↔ b.map (·.1) = domAll rs ns ∧ BindOk W b ∧ ∀ r ∈ rs, holdsR W r b = true := by
  rw [I.ex]
  constructor
  · rintro ⟨h1, h2, h3⟩
    refine ⟨h1, h2, fun r hr => ?_⟩
    obtain ⟨i, hi, e⟩ := List.mem_iff_getElem.mp hr
    exact h3 i (hp.mem_iff.mpr (List.mem_range.mpr hi)) r (by rw [List.getElem?_eq_getElem hi, e])
  · rintro ⟨h1, h2, h3⟩
    exact ⟨h1, h2, fun n _ r er => h3 r (List.mem_of_getElem? er)⟩
/-- the same binding with its names in another order -/
theorem reorder {W : Wb} {b : Bind} (hb : BindOk W b) {V : List Str} (h : ∀ x, x ∈ b.map (·.1) ↔ x ∈ V) : ∃ c : Bind, c.map (·.1) = V ∧ BindOk W c ∧ ∀ x, getV c x = getV b x := by
  have hV : ∀ x ∈ V, hasV b x = true := fun x hx => has_mem.mpr ((h x).mpr hx)
  have hg : ∀ x ∈ V, getV b x = some (valB b x) := fun x hx => by
    have := hV x hx
    rw [has_get] at this
    obtain ⟨n, e⟩ := Option.isSome_iff_exists.mp this
    unfold valB; rw [e]; rfl
  refine ⟨V.map fun x => (x, valB b x), by rw [List.map_map]; exact List.map_id _, fun p hp => ?_, fun x => ?_⟩
  · obtain ⟨x, hx, rfl⟩ := List.mem_map.mp hp
    exact hb _ (getV_mem (hg x hx))
  · by_cases hx : x ∈ V
    · rw [hg x hx]
      unfold getV
      clear hg hV h
      induction V with
      | nil => cases hx
      | cons y ys ih =>
        rw [List.map_cons, List.find?_cons]
        by_cases e : y = x
        · subst e; simp
        · have h' : decide (y = x) = false := decide_eq_false e
          simp only [h']
          exact ih ((List.mem_cons.mp hx).resolve_left fun z => e z.symm)
    · have h1 : getV b x = none := getV_none.mpr fun z => hx ((h x).mp z)
      rw [h1]
      refine getV_none.mpr fun z => hx ?_
      rw [List.map_map] at z
      simpa using z
theorem same_shown {W : Wb} (ok : WbOk W) {rs : List Row} (rok : RowsOk rs) (ab : AllBound rs) {ns : List Nat} (hp : ns.Perm (List.range rs.length)) (hgo : goFrom rs (boundIn (outer rs)) [] ns = true) {ys : List Str} (hy : ys.Perm (varsIn (outer rs))) (shown : List Str) (t : List Int) :
    t ∈ (runAll W rs ns).map (shownOf shown) ↔ t ∈ (allB W rs ys).map (shownOf shown) := by
  have I := run_inv ok rok ab ns hgo
  have hs : ∀ {b c : Bind}, (∀ x, getV c x = getV b x) → shownOf shown c = shownOf shown b := fun {b c} h => by
    unfold shownOf
    refine List.map_congr_left fun x _ => ?_
    unfold valB; rw [h x]
  rw [List.mem_map, List.mem_map]
  constructor
  · rintro ⟨b, hb, rfl⟩
    obtain ⟨h1, h2, h3⟩ := (run_iff I hp b).mp hb
    obtain ⟨c, c1, c2, c3⟩ := reorder h2 (V := ys) fun x => by rw [h1, dom_all ab I hp, hy.mem_iff]
    exact ⟨c, (allB_iff hy c).mpr ⟨c1, c2, fun r hr => (holdsR_agree fun x _ => c3 x).trans (h3 r hr)⟩, hs c3⟩
  · rintro ⟨b, hb, rfl⟩
    obtain ⟨h1, h2, h3⟩ := (allB_iff hy b).mp hb
    obtain ⟨c, c1, c2, c3⟩ := reorder h2 (V := domAll rs ns) fun x => by rw [h1, dom_all ab I hp, hy.mem_iff]
    exact ⟨c, (run_iff I hp c).mpr ⟨c1, c2, fun r hr => (holdsR_agree fun x _ => c3 x).trans (h3 r hr)⟩, hs c3⟩
end Ws
/-! SA: tables of sets of up to 81 tuples: what is met on the way, one put in, all laid anew. -/
namespace Ws.Sx
open PySem PyProof.Rows PySem.Spec L2
/-- the round of i -> 5 i + 1, as a list -/
def trail (m : Nat) : Nat → Nat → List Nat
  | _, 0 => []
  | x, n + 1 => x :: trail m ((x * 5 + 1) % (m + 1)) n
theorem trail_at (m : Nat) : ∀ (n a b : Nat), b < n → (trail m (lcgN m a) n)[b]? = some (lcgN m (a + b))
  | 0, _, b, h => (Nat.not_lt_zero b h).elim
  | n + 1, a, 0, _ => rfl
  | n + 1, a, b + 1, h => by
    have q := trail_at m n (a + 1) b (by omega)
    rw [show a + (b + 1) = a + 1 + b by omega, ← q]; rfl
theorem trail_511 : ((List.range 512).all fun j => (trail 511 0 512).any fun x => Nat.beq x j) = true := by decide +kernel
theorem back_511 : lcgN 511 512 = 0 := by decide +kernel
theorem on_511 (j : Nat) (h : j ≤ 511) : ∃ b, b ≤ 511 ∧ lcgN 511 b = j := by
  obtain ⟨x, hx, e⟩ := List.any_eq_true.mp (List.all_eq_true.mp trail_511 j (List.mem_range.mpr (by omega)))
  obtain ⟨b, hb, eb⟩ := List.mem_iff_getElem?.mp hx |>.imp fun b hb => (⟨(List.getElem?_eq_some_iff.mp hb).1, hb⟩ : b < (trail 511 0 512).length ∧ (trail 511 0 512)[b]? = some x)
  have hl : (trail 511 0 512).length = 512 := by decide +kernel
  rw [hl] at hb
  have q := trail_at 511 512 0 b hb
  have q' : (trail 511 0 512)[b]? = some (lcgN 511 (0 + b)) := q
  rw [q', Nat.zero_add] at eb
  exact ⟨b, by omega, (Option.some.inj eb).trans (Nat.eq_of_beq_eq_true e)⟩
theorem per_511 (k : Nat) : lcgN 511 (512 + k) = lcgN 511 k := by
  induction k with
  | zero => exact back_511
  | succ k ih => exact congrArg (fun z => (z * 5 + 1) % 512) ih
theorem all_511 {i j : Nat} (hi : i ≤ 511) (hj : j ≤ 511) : ∃ k, k ≤ 511 ∧ lcgI 511 i k = j := by
  obtain ⟨a, a1, rfl⟩ := on_511 i hi
  obtain ⟨b, b1, rfl⟩ := on_511 j hj
  by_cases c : a ≤ b
  · exact ⟨b - a, by omega, by rw [lcgN_add, Nat.add_sub_cancel' c]⟩
  · exact ⟨b + 512 - a, by omega, by rw [lcgN_add, show a + (b + 512 - a) = 512 + b by omega, per_511]⟩
/-- a mask from which every slot is met soon -/
structure Msk (m : Nat) : Prop where
  odd : m % 2 = 1
  big : m ≤ 511
  met : ∀ (h : Int) (j : Nat), j ≤ m → ∃ n, n ≤ m + 12 ∧ runI m (SetTable.bits h) n = j
theorem msk_of {m : Nat} (h : MaskOk m) : Msk m := ⟨mask_odd h, by rcases h with e | e | e <;> omega, fun z j hj => run_meets h z hj⟩
theorem msk_511 : Msk 511 := ⟨rfl, Nat.le_refl _, fun h j hj => by
  obtain ⟨k, hk, e⟩ := all_511 (runI_le 511 (SetTable.bits h) 12) hj
  exact ⟨12 + k, by omega, (runI_tail (bits_lt h) k).trans e⟩⟩
theorem Msk.on {m : Nat} (M : Msk m) (h : Int) {j : Nat} (hj : j ≤ m) : ∃ k, k < 10 * SetTable.turns m ∧ way m h k = j := by
  obtain ⟨n, hn, e⟩ := M.met h j hj
  have ⟨k, hk, e2⟩ := run_nth m (SetTable.bits h) n
  exact ⟨k, by unfold SetTable.turns; omega, (congrArg SetTable.Probe.j e2).trans e⟩
theorem way_in (m : Nat) (h : Int) (k : Nat) : way m h k ≤ m := by
  have b := runEnd_bd (m := m) (i := SetTable.bits h % (m + 1)) (Nat.le_of_lt_succ (Nat.mod_lt _ (Nat.succ_pos _)))
  exact Nat.le_trans (Nat.le_add_right _ _) (nth_in (m := m) k (runAt m (SetTable.bits h % (m + 1)) (SetTable.bits h)) (show SetTable.bits h % (m + 1) + (SetTable.runEnd m (SetTable.bits h % (m + 1)) - SetTable.bits h % (m + 1)) ≤ m by omega))
/-- a table whose entries are found from their hashes -/
structure Tab (t : SetTable) (hs : List Int) : Prop where
  ris : Ris t.place.toList
  dm : t.dummies = #[]
  sz : t.place.size = hs.length
  mok : Msk t.mask
  top : ∀ j ∈ t.place.toList, j ≤ t.mask
  fnd : ∀ (i : Nat) (h : Int) (j : Nat), hs[i]? = some h → t.place.toList[i]? = some j → ∃ k, way t.mask h k = j ∧ ∀ c, c < k → way t.mask h c ∈ t.place.toList
theorem Tab.gap {t : SetTable} {hs : List Int} (T : Tab t hs) (hl : hs.length ≤ t.mask) (h : Int) : ∃ K, K < 10 * SetTable.turns t.mask ∧ way t.mask h K ∉ t.place.toList ∧ ∀ k, k < K → way t.mask h k ∈ t.place.toList := by
  have e : t.place.toList.length = hs.length := (Array.length_toList).trans T.sz
  obtain ⟨j, hj, out⟩ := st_missing t.place.toList (t.mask + 1) (by omega)
  obtain ⟨k, hk, ek⟩ := T.mok.on h (j := j) (by omega)
  obtain ⟨K, a, b, c⟩ := st_least (p := fun n => way t.mask h n ∉ t.place.toList) k (by rw [show way t.mask h k = j from ek]; exact out)
  exact ⟨K, by omega, b, fun n hn => Classical.not_not.mp (c n hn)⟩
theorem Tab.ahead {t : SetTable} {hs : List Int} (T : Tab t hs) {h : Int} {K i j : Nat} (hK : way t.mask h K ∉ t.place.toList) (hi : hs[i]? = some h) (hj : t.place.toList[i]? = some j) : ∃ k, k < K ∧ way t.mask h k = j := by
  obtain ⟨k, e, b⟩ := T.fnd i h j hi hj
  refine ⟨k, Nat.lt_of_not_le fun c => ?_, e⟩
  rcases Nat.lt_or_eq_of_le c with c | c
  · exact hK (b K c)
  · exact hK (by rw [c, e]; exact List.mem_of_getElem? hj)
/-- one entry more -/
theorem Tab.one {t : SetTable} {hs : List Int} (T : Tab t hs) {h : Int} {K j : Nat} (ej : way t.mask h K = j) (hK : j ∉ t.place.toList) (hb : ∀ k, k < K → way t.mask h k ∈ t.place.toList) :
    (t.put j).2 = SetTable.below t.place j ∧ SetTable.below t.place j ≤ hs.length ∧ Tab (t.put j).1 (hs.take (SetTable.below t.place j) ++ h :: hs.drop (SetTable.below t.place j)) ∧
    (t.put j).1.mask = t.mask ∧ (t.put j).1.led = t.led ∧ (t.put j).1.plain = t.plain ∧ (t.put j).1.fill = hs.length + 1 := by
  have c1 := (below_cut T.ris j).1
  have p1 : SetTable.below t.place j ≤ t.place.toList.length := by rw [Array.length_toList]; exact c1
  have p2 : SetTable.below t.place j ≤ hs.length := by rw [← T.sz]; exact c1
  have pl := put_place t j
  have z : (t.put j).1.place.size = hs.length + 1 := by rw [← Array.length_toList, pl, len_ins _ p1, Array.length_toList, T.sz]
  have up : ∀ x, x ∈ t.place.toList → x ∈ (t.put j).1.place.toList := fun x hx => by rw [pl]; exact mem_ins.mpr (.inr hx)
  refine ⟨rfl, p2, ⟨ris_insert T.ris fun e => hK (List.mem_of_getElem? ((Array.getElem?_toList).trans e)), put_dm T.dm j, z.trans (len_ins _ p2 h).symm, T.mok, fun x hx => ?_, fun i h1 j1 e1 e2 => ?_⟩, rfl, rfl, rfl, ?_⟩
  · rw [pl] at hx
    exact (mem_ins.mp hx).elim (fun e => by rw [e, ← ej]; exact way_in _ _ _) (T.top x)
  · have go : ∀ i', hs[i']? = some h1 → t.place.toList[i']? = some j1 → ∃ k, way t.mask h1 k = j1 ∧ ∀ c, c < k → way t.mask h1 c ∈ (t.put j).1.place.toList := fun i' a b =>
      let ⟨k, e, q⟩ := T.fnd i' h1 j1 a b
      ⟨k, e, fun c hc => up _ (q c hc)⟩
    rw [tins_get hs p2] at e1
    rw [pl, tins_get _ p1] at e2
    by_cases a : i < SetTable.below t.place j
    · rw [if_pos a] at e1 e2; exact go i e1 e2
    rw [if_neg a] at e1 e2
    by_cases b : i = SetTable.below t.place j
    · rw [if_pos b] at e1 e2
      cases e1; cases e2
      exact ⟨K, ej, fun c hc => up _ (hb c hc)⟩
    · rw [if_neg b] at e1 e2; exact go (i - 1) e1 e2
  · show (t.put j).1.place.size + (t.put j).1.dummies.size = _
    rw [z, put_dm T.dm j]; rfl
/-! ### all laid anew -/
theorem Msk.free {m : Nat} (M : Msk m) (owner : Array (Option Nat)) (h : Int) {j : Nat} (hj : j ≤ m) (hf : oAt owner j = none) :
    ∃ K, oAt owner (way m h K) = none ∧ (∀ k, k < K → oAt owner (way m h k) ≠ none) ∧ SetTable.layClean.free m owner (SetTable.turns m) (SetTable.bits h % (m + 1)) (SetTable.bits h) = some (way m h K) := by
  obtain ⟨n, hn, e⟩ := M.met h j hj
  have ew : way m h (off m (SetTable.bits h % (m + 1)) (SetTable.bits h) n) = j := by
    show (nth m (runAt m _ _) (off m _ _ n)).j = j
    rw [nth_off, itL_run]; exact e
  obtain ⟨K, k1, k2, k3⟩ := st_least (p := fun k => oAt owner (way m h k) = none) (off m (SetTable.bits h % (m + 1)) (SetTable.bits h) n) (by show oAt owner (way m h _) = none; rw [ew]; exact hf)
  refine ⟨K, k2, k3, free_spec m owner _ n _ _ K (by unfold SetTable.turns; omega) k1 (fun k hk => ?_) (Option.isNone_iff_eq_none.mpr k2)⟩
  exact Option.not_isSome .. ▸ (by rw [Option.isSome_iff_ne_none.mpr (k3 k hk)]; rfl)
end Ws.Sx
/-! SB: a table laid anew. -/
namespace Ws.Sx
open PySem PyProof.Rows PySem.Spec L2
theorem seat {m : Nat} (M : Msk m) {dn : List Int} {ow : Array (Option Nat)} (W : Own m dn ow) (hl : dn.length ≤ m) (h : Int) :
    ∃ j, SetTable.layClean.free m ow (SetTable.turns m) (SetTable.bits h % (m + 1)) (SetTable.bits h) = some j ∧ Own m (dn ++ [h]) (ow.setIfInBounds j (some dn.length)) := by
  obtain ⟨ps, lp, hin⟩ := W.ps
  obtain ⟨j0, b0, n0⟩ := st_missing ps (m + 1) (by omega)
  have e0 : oAt ow j0 = none := Classical.byContradiction fun c => n0 (hin j0 (by omega) c)
  obtain ⟨K, f2, f3, f1⟩ := M.free ow h (j := j0) (by omega) e0
  have wm := way_in m h K
  generalize ew : way m h K = j at f1 f2 wm
  have sf : oAt (ow.setIfInBounds j (some dn.length)) j = some dn.length := oAt_set_self _ (by rw [W.sz]; omega)
  have ot : ∀ i, i ≠ j → oAt (ow.setIfInBounds j (some dn.length)) i = oAt ow i := fun i hi => oAt_set_ne _ hi
  have up : ∀ i, oAt ow i ≠ none → oAt (ow.setIfInBounds j (some dn.length)) i ≠ none := fun i hi => by
    by_cases c : i = j
    · rw [c, sf]; intro z; cases z
    · rw [ot i c]; exact hi
  refine ⟨j, f1, ⟨(Array.size_setIfInBounds).trans W.sz, fun i k hi e => ?_, fun k hk => ?_, ⟨j :: ps, by rw [List.length_cons, lp, List.length_append]; rfl, fun i hi e => ?_⟩⟩⟩
  · by_cases c : i = j
    · rw [c, sf] at e
      cases e
      exact ⟨h, K, by rw [List.getElem?_append_right (Nat.le_refl _), Nat.sub_self]; rfl, ew.trans c.symm, fun n hn => up _ (f3 n hn)⟩
    · rw [ot i c] at e
      obtain ⟨h1, K1, a, b, d⟩ := W.at_ i k hi e
      exact ⟨h1, K1, by rw [List.getElem?_append_left (List.getElem?_eq_some_iff.mp a).1]; exact a, b, fun n hn => up _ (d n hn)⟩
  · rw [List.length_append] at hk; change k < dn.length + 1 at hk
    by_cases c : k = dn.length
    · exact ⟨j, wm, by rw [sf, c]⟩
    · obtain ⟨i, a, b⟩ := W.all k (by omega)
      exact ⟨i, a, by rw [ot i (by rintro rfl; rw [f2] at b; cases b)]; exact b⟩
  · by_cases c : i = j
    · rw [c]; exact List.mem_cons_self
    · rw [ot i c] at e; exact List.mem_cons_of_mem _ (hin i hi e)
theorem seats {m : Nat} (M : Msk m) : ∀ (rest dn : List Int) (ow : Array (Option Nat)), Own m dn ow → dn.length + rest.length ≤ m → ∃ ow', rest.foldl (stepF m) (some (ow, dn.length)) = some (ow', dn.length + rest.length) ∧ Own m (dn ++ rest) ow'
  | [], dn, ow, W, _ => ⟨ow, rfl, by rw [List.append_nil]; exact W⟩
  | h :: rest, dn, ow, W, hl => by
    rw [List.length_cons] at hl
    obtain ⟨j, e, W1⟩ := seat M W (by omega) h
    obtain ⟨ow', f, W2⟩ := seats M rest (dn ++ [h]) _ W1 (by rw [List.length_append, List.length_singleton]; omega)
    rw [List.length_append, List.length_singleton] at f
    rw [List.append_assoc] at W2
    exact ⟨ow', by rw [List.foldl_cons, stepF_some e, f, List.length_cons, Nat.add_assoc, Nat.add_comm 1], W2⟩
theorem clean {m : Nat} (M : Msk m) {hs : Array Int} (hn : hs.size ≤ m) : ∃ ow, SetTable.layClean m hs = some ow ∧ Own m hs.toList ow := by
  obtain ⟨ow, f, W⟩ := seats M hs.toList [] _ (Own.init m) (by show 0 + hs.size ≤ m; omega)
  exact ⟨ow, by rw [layClean_eq]; exact congrArg (Option.map Prod.fst) f, W⟩
theorem anew (t : SetTable) {hs : Array Int} {wanted m : Nat} (hw : SetTable.sizeAbove wanted - 1 = m) (M : Msk m) (hn : hs.size ≤ m) :
    ∃ t' ord, t.relaid hs wanted = some (t', ord) ∧ ord.toList.Perm (List.range hs.size) ∧ Tab t' (ord.toList.map fun i => hs.getD i 0) ∧ t'.mask = m ∧ t'.led = t.led ∧ t'.plain = t.plain := by
  obtain ⟨ow, e, W⟩ := clean M hn
  obtain ⟨r1, r2⟩ := ris_live (fun j => ow.getD j none) (List.range (m + 1)) List.pairwise_lt_range
  have r1 : Ris ((liveOf m ow).map (·.1)) := r1
  have r2 : ∀ x ∈ (liveOf m ow).map (·.1), x ∈ List.range (m + 1) := r2
  have inL : ∀ {j k}, (j, k) ∈ liveOf m ow ↔ j ≤ m ∧ oAt ow j = some k := mem_live W.sz
  have has : ∀ k, k < hs.size → k ∈ (liveOf m ow).map (·.2) := fun k hk => by
    obtain ⟨j, a, b⟩ := W.all k (by rw [Array.length_toList]; exact hk)
    exact List.mem_map.mpr ⟨(j, k), inL.mpr ⟨a, b⟩, rfl⟩
  have hl : (liveOf m ow).length = hs.size := by
    obtain ⟨ps, p1, p2⟩ := W.ps
    have nd : ((liveOf m ow).map (·.1)).Nodup := List.Pairwise.imp (fun h => Nat.ne_of_lt h) r1
    have a := nat_nodup_len ((liveOf m ow).map (·.1)) ps nd fun x hx => by
      obtain ⟨⟨y, k⟩, hq, rfl⟩ := List.mem_map.mp hx
      obtain ⟨b1, b2⟩ := inL.mp hq
      exact p2 y b1 (by rw [b2]; intro z; cases z)
    have b := nat_nodup_len (List.range hs.size) ((liveOf m ow).map (·.2)) List.nodup_range fun k hk => has k (List.mem_range.mp hk)
    rw [List.length_map, p1] at a; rw [List.length_range, List.length_map] at b
    exact Nat.le_antisymm a b
  refine ⟨tabOf t m ow, ((liveOf m ow).map (·.2)).toArray, by rw [relaid_eq, hw, e]; rfl, perm_range hs.size _ (by show ((liveOf m ow).map (·.2)).length = _; rw [List.length_map, hl]) has, ⟨r1, rfl, ?_, M, fun x hx => Nat.le_of_lt_succ (List.mem_range.mp (r2 x hx)), fun i h j h1 h2 => ?_⟩, rfl, rfl, rfl⟩
  · show ((liveOf m ow).map (·.1)).toArray.size = (((liveOf m ow).map (·.2)).map _).length
    rw [List.size_toArray]; simp
  · have h1 : (((liveOf m ow).map (·.2)).map fun i => hs.getD i 0)[i]? = some h := h1
    have h2 : ((liveOf m ow).map (·.1))[i]? = some j := h2
    rw [List.getElem?_map, List.getElem?_map] at h1
    rw [List.getElem?_map] at h2
    cases hq : (liveOf m ow)[i]? with
    | none => rw [hq] at h2; cases h2
    | some q =>
      obtain ⟨y, k⟩ := q
      rw [hq] at h1 h2
      cases h2
      obtain ⟨b1, b2⟩ := inL.mp (List.mem_of_getElem? hq)
      have ⟨h0, K, a1, a2, a3⟩ := W.at_ y k b1 b2
      have e0 : hs.getD k 0 = h0 := by rw [Array.getD_eq_getD_getElem?, ← Array.getElem?_toList, a1]; rfl
      have h1 : some (hs.getD k 0) = some h := h1
      rw [e0] at h1
      cases h1
      refine ⟨K, a2, fun c hc => ?_⟩
      show way m h c ∈ (liveOf m ow).map (·.1)
      cases z : oAt ow (way m h c) with
      | none => exact absurd z (a3 c hc)
      | some k2 => exact List.mem_map.mpr ⟨(_, k2), inL.mpr ⟨way_in _ _ _, z⟩, rfl⟩
end Ws.Sx
/-! SC: a set of up to 81 tuples of ints: searching, adding. -/
namespace Ws.Sx
open PySem PyProof.Rows PySem.Spec L2
abbrev Ent := Addr × List Int
/-- the order is the text's, or the table's own -/
abbrev Ldd (w : World) (t : SetTable) : Prop := w.params.followText "set-order" = true ∨ t.led = true
/-- the set at a: its entries in the table's order -/
structure TSet (P : Program) (w : World) (h : Heap) (a : Addr) (L : List Ent) (es : Array (Int × Value)) (ep : Nat) (t : SetTable) : Prop where
  thing : ∃ u, h.get? a = some u ∧ u.ExactSet ∧ u.data = .set es ep t
  ents : es.toList = rowsOf P w L
  tab : Tab t (L.map fun p => thash P w p.2)
  nd : (L.map (·.2)).Nodup
  tps : ∀ e ∈ L, IsT P w h e.2 e.1
  plain : t.plain = true
  ldd : Ldd w t
  wide : L.length * 5 < t.mask * 3
  msk : t.mask = 7 ∨ t.mask = 31 ∨ t.mask = 127 ∨ t.mask = 511
section
variable {P : Program} {w : World} {A : Around} {E : Value → Shared → Prop} {s : Shared} {h : Heap} {a x : Addr} {k : List Int} {L : List Ent} {es : Array (Int × Value)} {ep : Nat} {t : SetTable}
theorem TSet.len (R : TSet P w h a L es ep t) : es.size = L.length := by
  have q : es.toList.length = (rowsOf P w L).length := congrArg List.length R.ents
  unfold rowsOf at q
  rwa [List.length_map, Array.length_toList] at q
theorem TSet.plc (R : TSet P w h a L es ep t) : t.place.size = L.length := R.tab.sz.trans (List.length_map _)
theorem TSet.fit (R : TSet P w h a L es ep t) : t.fits es.size = true := by
  have h1 := R.plc
  have h2 := R.len
  have h3 := R.wide
  rw [SetTable.fits, SetTable.fill, R.tab.dm]
  exact Bool.and_eq_true_iff.mpr ⟨beq_iff_eq.mpr (h1.trans h2.symm), decide_eq_true (show t.place.size + 0 ≤ t.mask by omega)⟩
theorem TSet.ent (R : TSet P w h a L es ep t) {i : Nat} {p : Ent} (e : L[i]? = some p) : es[i]? = some (thash P w p.2, Value.ref p.1) := by
  rw [← Array.getElem?_toList, R.ents]; unfold rowsOf; rw [List.getElem?_map, e]; rfl
theorem TSet.keeps (R : TSet P w h a L es ep t) : t.gaveWay = false := by
  unfold SetTable.gaveWay
  rw [R.tab.mok.odd]; rfl
theorem nth_dummy (m : Nat) : ∀ (n : Nat) (p : SetTable.Probe), p.dummy = none → (nth m p n).dummy = none
  | 0, _, e => e
  | n + 1, p, e => nth_dummy m n (adv m p) (by unfold adv; split <;> exact e)
abbrev strt (m : Nat) (z : Int) : SetTable.Probe := runAt m (SetTable.bits z % (m + 1)) (SetTable.bits z)
/-- from the c-th step of the way on -/
theorem look (R : TSet P w s.heap a L es ep t) (hx : IsT P w s.heap k x) (hu : A.units < cLine) {K : Nat} (hKf : K < 10 * SetTable.turns t.mask) {z : Int} (hz : z = thash P w k)
    (gap : way t.mask z K ∉ t.place.toList) (full : ∀ c, c < K → way t.mask z c ∈ t.place.toList) {Q : SetFound → Shared → Prop} (hin : k ∈ L.map (·.2) → Q (.there none) s) (hout : k ∉ L.map (·.2) → Q (.free (way t.mask z K) false) s) :
    ∀ (f c : Nat) (st : Option SetTable.Probe), st.getD (t.probeStart z) = nth t.mask (strt t.mask z) c → c ≤ K → K - c < f → (∀ (i : Nat) p, L[i]? = some p → p.2 = k → ∃ c', c ≤ c' ∧ c' < K ∧ t.place.toList[i]? = some (way t.mask z c')) →
      wpAny (model P w) A (setSearchFrom a (.ref x) z true f st) Q E s
  | 0, _, _, _, _, hf, _ => absurd hf (Nat.not_lt_zero _)
  | f + 1, c, st, hst, hc, hf, hre => by
    obtain ⟨u, ho, _, hd⟩ := R.thing
    rw [setSearchFrom_succ]
    refine wpAny_bind (wpAny_setState_of ho hd R.fit ?_)
    dsimp only
    refine wp_if_neg (by rw [R.keeps]; exact Bool.false_ne_true) ?_
    try (apply wpAny_bind; apply wpAny_pure)
    have far : ∀ q, nth t.mask (nth t.mask (strt t.mask z) c) q = nth t.mask (strt t.mask z) (c + q) := fun q => (nth_add t.mask c _ q).symm
    have farJ : ∀ q, (nth t.mask (nth t.mask (strt t.mask z) c) q).j = way t.mask z (c + q) := fun q => congrArg SetTable.Probe.j (far q)
    have hsh : ∀ (i : Nat) p, L[i]? = some p → (es[i]?.map (·.1)).getD 0 = thash P w p.2 := fun i p e => by rw [R.ent e]; rfl
    have ask := go_spec t R.tab.ris R.tab.dm (fun i => (es[i]?.map (·.1)).getD 0) z (10 * SetTable.turns t.mask) (K - c) _ (nth_dummy t.mask c (strt t.mask z) rfl) (by omega)
      (fun q hq => by rw [farJ]; exact full _ (by omega)) (by rw [farJ, Nat.add_sub_cancel' hc]; exact gap)
    rcases ask with ⟨q, i, hq, hi, _, hno, hpr⟩ | ⟨hno, hpr⟩
    · have pr : t.probe (fun i => (es[i]?.map (·.1)).getD 0) z (st.getD (t.probeStart z)) = some (.candidate (way t.mask z (c + q)) i (nth t.mask (strt t.mask z) (c + (q + 1)))) := by rw [hst, ← farJ, ← far]; exact hpr
      rw [pr]
      dsimp only
      rw [farJ] at hi
      have il : i < L.length := by
        have h1 := (List.getElem?_eq_some_iff.mp hi).1
        rw [Array.length_toList, R.plc] at h1; exact h1
      obtain ⟨p, hp⟩ : ∃ p, L[i]? = some p := ⟨_, List.getElem?_eq_getElem il⟩
      have pm : p ∈ L := List.mem_of_getElem? hp
      have sl := slot_live R.tab.ris hi
      have more : wpAny (model P w) A (searchRest a (.ref x) z true f es t (way t.mask z (c + q)) i (nth t.mask (strt t.mask z) (c + (q + 1)))) Q E s := by
        unfold searchRest
        rw [R.ent hp]
        dsimp only
        refine wpAny_bind (wpAny_holding (wpAny_eqBool_tuple hu (R.tps p pm) hx ?_))
        refine wpAny_bind (wpAny_setState_of ho hd R.fit ?_)
        dsimp only
        by_cases hk : p.2 = k
        · exact wp_if_pos (by simp [hk]) (wpAny_pure (hin (List.mem_map.mpr ⟨p, pm, hk⟩)))
        refine wp_if_neg (by simp [hk]) ?_
        try (apply wpAny_bind; apply wpAny_pure)
        rw [sameMem]
        dsimp only
        simp only [if_true, sl, R.ent hp]
        apply wpAny_bind; apply wpAny_isSame_ref_self; apply wpAny_bind; apply wpAny_pure
        simp only [if_true]
        refine wp_if_neg (by simp [hk]) (look R hx hu hKf hz gap full hin hout f (c + (q + 1)) _ rfl (by omega) (by omega) fun i0 p0 h0 k0 => ?_)
        obtain ⟨c', a1, a2, a3⟩ := hre i0 p0 h0 k0
        have h1 : ¬ c' < c + q := fun lt => hno (c' - c) i0 (by omega) (by rw [farJ, Nat.add_sub_cancel' a1]; exact a3) ((hsh i0 p0 h0).trans ((congrArg (thash P w) k0).trans hz.symm))
        have h2 : c' ≠ c + q := fun e => by
          rw [e] at a3
          have s0 := sl.symm.trans (slot_live R.tab.ris a3)
          injection s0 with s0
          rw [← s0, hp] at h0
          cases h0
          exact hk k0
        exact ⟨c', by omega, a2, a3⟩
      by_cases hl : t.led = true
      · refine wp_if_neg (by rw [hl]; simp) ?_
        try (apply wpAny_bind; apply wpAny_pure)
        exact more
      · refine wp_if_pos (by simp [hl]) (wpAny_bind (seen_tup hx (fun y hy => ?_) ?_))
        · obtain ⟨e, he, rfl⟩ := List.mem_map.mp hy
          have he2 : e ∈ es.toList := by simpa using (show e ∈ es ∧ e.1 = z by simpa using he).1
          rw [R.ents] at he2
          obtain ⟨p2, m2, rfl⟩ := List.mem_map.mp he2
          exact ⟨p2.2, p2.1, rfl, R.tps p2 m2⟩
        · refine wp_if_neg Bool.false_ne_true ?_
          try (apply wpAny_bind; apply wpAny_pure)
          exact more
    · have pr : t.probe (fun i => (es[i]?.map (·.1)).getD 0) z (st.getD (t.probeStart z)) = some (.empty (way t.mask z K) none) := by
        have e2 : way t.mask z K = (nth t.mask (nth t.mask (strt t.mask z) c) (K - c)).j := by rw [farJ, Nat.add_sub_cancel' hc]
        rw [hst, e2]; exact hpr
      rw [pr]
      dsimp only
      apply wpAny_pure; refine hout fun hm => ?_
      obtain ⟨p0, h0, k0⟩ := List.mem_map.mp hm
      obtain ⟨i0, e0⟩ := List.mem_iff_getElem?.mp h0
      obtain ⟨c', a1, a2, a3⟩ := hre i0 p0 e0 k0
      exact hno (c' - c) i0 (by omega) (by rw [farJ, Nat.add_sub_cancel' a1]; exact a3) ((hsh i0 p0 e0).trans ((congrArg (thash P w) k0).trans hz.symm))
/-- as adding asks -/
theorem find (R : TSet P w s.heap a L es ep t) (hx : IsT P w s.heap k x) (hu : A.units < cLine) {Q : SetFound → Shared → Prop} (hin : k ∈ L.map (·.2) → Q (.there none) s)
    (hout : k ∉ L.map (·.2) → ∀ K, way t.mask (thash P w k) K ∉ t.place.toList → (∀ c, c < K → way t.mask (thash P w k) c ∈ t.place.toList) → Q (.free (way t.mask (thash P w k) K) false) s) : wpAny (model P w) A (setSearch a (.ref x) (thash P w k) true) Q E s := by
  have hr := R.wide
  obtain ⟨K, b1, b2, b3⟩ := R.tab.gap (by rw [List.length_map]; omega) (thash P w k)
  have b4 : K < 100000 := by
    have := R.tab.mok.big
    unfold SetTable.turns at b1
    omega
  unfold setSearch
  refine look R hx hu b1 rfl b2 b3 hin (fun hn => hout hn K b2 b3) 100000 0 none rfl (Nat.zero_le _) (by omega) fun i p hp hk => ?_
  have il : i < t.place.toList.length := by rw [Array.length_toList, R.plc]; exact (List.getElem?_eq_some_iff.mp hp).1
  have hj := List.getElem?_eq_getElem il
  obtain ⟨c, hc, e⟩ := R.tab.ahead b2 (h := thash P w k) (by rw [List.getElem?_map, hp, ← hk]; rfl) hj
  exact ⟨c, Nat.zero_le c, hc, hj.trans (congrArg some e.symm)⟩
end
end Ws.Sx
/-! SD: adding to a set of tuples. -/
namespace Ws.Sx
open PySem PyProof.Rows PySem.Spec L2
theorem size_7 : SetTable.sizeAbove (SetTable.grown 5) = 32 ∧ SetTable.sizeAbove (SetTable.grown 19) = 128 ∧ SetTable.sizeAbove (SetTable.grown 77) = 512 := by decide +kernel
section
variable {P : Program} {w : World} {A : Around} {E : Value → Shared → Prop} {s : Shared} {a x : Addr} {k : List Int} {L : List Ent} {es : Array (Int × Value)} {ep : Nat} {t : SetTable}
theorem len_rows {es : Array (Int × Value)} {L : List Ent} (h : es.toList = rowsOf P w L) : es.size = L.length := by
  rw [← Array.length_toList, h]; unfold rowsOf; exact List.length_map _
/-- laid anew, larger -/
theorem relay {o : Obj} (ho : s.heap.get? a = some o) (hex : o.ExactSet) (hd : o.data = .set es ep t) (hr : es.toList = rowsOf P w L) (T : Tab t (L.map fun p => thash P w p.2)) (hf : L.length ≤ t.mask) (nd : (L.map (·.2)).Nodup) (tup : ∀ p ∈ L, IsT P w s.heap p.2 p.1)
    (pl : t.plain = true) (ld : Ldd w t) {n m : Nat} (hw : SetTable.sizeAbove n = m + 1) (M : Msk m) (hm : m = 7 ∨ m = 31 ∨ m = 127 ∨ m = 511) (hn : L.length * 5 < m * 3) {Q : Unit → Shared → Prop}
    (hQ : ∀ h' L' es' ep' t', Heap.SameBut a s.heap h' → TSet P w h' a L' es' ep' t' → L'.Perm L → Q () { s with heap := h' }) : wpAny (model P w) A (setRelay a n) Q E s := by
  have sl := len_rows hr
  have pz : t.place.size = es.size := (T.sz.trans (List.length_map _)).trans sl.symm
  have fit : t.fits es.size = true := by
    rw [SetTable.fits, SetTable.fill, T.dm]
    exact Bool.and_eq_true_iff.mpr ⟨beq_iff_eq.mpr pz, decide_eq_true (show t.place.size + 0 ≤ t.mask by omega)⟩
  obtain ⟨t1, ord, e, hp, T1, em, el, e1⟩ := anew t (hs := es.map (·.1)) (wanted := n) (m := m) (by rw [hw]; rfl) M (by rw [Array.size_map, sl]; omega)
  rw [Array.size_map, sl] at hp
  obtain ⟨L2, r1, r2, r3⟩ := order_rows L es ord hr hp
  rw [← r3] at T1
  have s2 : (ord.filterMap (es[·]?)).size = es.size := by rw [len_rows r1, r2.length_eq, sl]
  have big : m ≤ 511 := M.big
  rw [setRelay_eq]
  refine wpAny_bind (wpAny_setState_of ho hd fit ?_)
  dsimp only
  refine wp_if_neg (by rw [sizeLine_eq, hw]; omega) ?_
  try (apply wpAny_bind; apply wpAny_pure)
  rw [e]
  dsimp only
  refine wpAny_bind (wp_if_neg (by rw [s2]; simp) ?_)
  try (apply wpAny_bind; apply wpAny_pure)
  refine wpAny_pure ?_
  dsimp only
  have sb : Heap.SameBut a s.heap (s.heap.update a (Obj.putSet (ord.filterMap (es[·]?)) t1)) := Heap.SameBut.update ..
  refine wpAny_storeSet_of ho hd (hQ _ L2 (ord.filterMap (es[·]?)) (ep + 1) t1 sb ⟨⟨_, store_at ho hd, hex, rfl⟩, r1, T1, (r2.map (·.2)).nodup_iff.mpr nd, fun p hm => isT_same (tup p (r2.mem_iff.mp hm)) ho hd sb, e1.trans pl, ld.imp_right fun z => el.trans z, by rw [r2.length_eq, em]; exact hn, by rw [em]; exact hm⟩ r2) (by rw [s2, sl, sizeLine_eq]; omega)
/-- one is added -/
theorem add (R : TSet P w s.heap a L es ep t) (hx : IsT P w s.heap k x) (hu : A.units < cLine) (hf : k ∉ L.map (·.2) → L.length + 1 ≤ 81) {Q : Bool → Shared → Prop}
    (hQ : ∀ b h' L' es' ep' t', Heap.SameBut a s.heap h' → TSet P w h' a L' es' ep' t' → (k ∈ L.map (·.2) → L' = L) → (k ∉ L.map (·.2) → L'.Perm ((x, k) :: L)) → Q b { s with heap := h' }) : wpAny (model P w) A (setAddHashed a (.ref x) (thash P w k)) Q E s := by
  have ⟨o, ho, hex, hd⟩ := R.thing
  have hr := R.wide
  unfold setAddHashed
  show wpAny _ _ (holding _ (setAddHashedIn a (.ref x) (thash P w k) (99999 + 1))) _ _ _
  rw [setAddHashedIn_succ]
  refine wpAny_holding (wpAny_bind (wpAny_setState_of ho hd R.fit ?_))
  dsimp only
  refine wp_if_neg (by simp [Value.scannable, byScan]) ?_
  try (apply wpAny_bind; apply wpAny_pure)
  refine wpAny_bind (find R hx hu (fun hm => ?_) fun hm K gap full => ?_)
  · dsimp only
    exact wpAny_pure (hQ false _ _ _ _ _ (.refl a s.heap) R (fun _ => rfl) fun z => (z hm).elim)
  dsimp only
  refine wpAny_bind (wpAny_setState_of ho hd R.fit ?_)
  dsimp only
  have few := hf hm
  generalize ej : way t.mask (thash P w k) K = j at gap
  obtain ⟨q1, q2, q3, q4, q5, q6, q9⟩ := R.tab.one ej gap full
  generalize hpt : t.put j = pt at q1 q3 q4 q5 q6 q9 ⊢
  obtain ⟨t1, p⟩ := pt
  dsimp only at q1 q3 q4 q5 q6 q9 ⊢
  subst q1
  have p1 : t1.plain = true := q6.trans R.plain
  first
    | (refine wpAny_bind (wp_if_pos p1 ?_); refine hashBy_tup hx ?_)
    | refine wp_if_pos p1 (wpAny_bind (hashBy_tup hx ?_))
  simp only [if_true]
  have rows1 := (SetTable.toList_insertAt es (SetTable.below t.place j) (thash P w k, Value.ref x)).trans ((congrArg (fun l : List (Int × Value) => l.take (SetTable.below t.place j) ++ (thash P w k, Value.ref x) :: l.drop (SetTable.below t.place j)) R.ents).trans (rows_put L (SetTable.below t.place j) x k).symm)
  generalize SetTable.below t.place j = p at q2 q3 rows1 ⊢
  have pm : (L.take p ++ (x, k) :: L.drop p).Perm _ := put_perm L p (x, k)
  have hlen := pm.length_eq
  rw [List.length_cons (as := L)] at hlen
  have q3 : Tab t1 ((L.take p ++ (x, k) :: L.drop p).map fun p => thash P w p.2) := by rw [List.map_append, List.map_cons, List.map_take, List.map_drop]; exact q3
  have nd1 : ((L.take p ++ (x, k) :: L.drop p).map (·.2)).Nodup := (pm.map (·.2)).nodup_iff.mpr (List.nodup_cons.mpr ⟨hm, R.nd⟩)
  generalize SetTable.insertAt es p (thash P w k, Value.ref x) = es1 at rows1 ⊢
  generalize L.take p ++ (x, k) :: L.drop p = L1 at pm hlen q3 nd1 rows1
  have z1 : es1.size = L.length + 1 := (len_rows rows1).trans hlen
  refine wpAny_bind (wpAny_storeSet_of ho hd ?_ (by rw [z1, sizeLine_eq]; omega))
  obtain ⟨h1, eh1⟩ : ∃ z, s.heap.update a (Obj.putSet es1 t1) = z := ⟨_, rfl⟩
  have sb : Heap.SameBut a s.heap h1 := eh1 ▸ Heap.SameBut.update ..
  have ho1 : h1.get? a = _ := eh1 ▸ store_at ho hd
  rw [eh1]
  have tup1 : ∀ p ∈ L1, IsT P w h1 p.2 p.1 := fun p hp => (List.mem_cons.mp (pm.mem_iff.mp hp)).elim (fun e => by rw [e]; exact isT_same hx ho hd sb) fun m => isT_same (R.tps p m) ho hd sb
  have ld1 : Ldd w t1 := R.ldd.imp_right fun z => q5.trans z
  have full1 : t1.tooFull = decide ((L.length + 1) * 5 ≥ t.mask * 3) := by
    unfold SetTable.tooFull
    rw [q9, List.length_map, q4]
  by_cases hc : (L.length + 1) * 5 ≥ t.mask * 3
  · rw [decide_eq_true hc] at full1
    first
      | (refine wpAny_bind (wp_if_pos (by simp [full1]) ?_))
      | (refine wp_if_pos (by simp [full1]) (wpAny_bind ?_))
    rw [R.len]
    have go : ∀ m, SetTable.sizeAbove (SetTable.grown (L.length + 1)) = m + 1 → Msk m → (m = 7 ∨ m = 31 ∨ m = 127 ∨ m = 511) → (L.length + 1) * 5 < m * 3 → wpAny (model P w) A (setRelay a (SetTable.grown (L.length + 1))) (fun _ s' => wpAny (model P w) A (pure true) Q E s') E { s with heap := h1 } := fun m g1 g2 g3 g4 =>
      relay (s := { s with heap := h1 }) ho1 hex rfl rows1 q3 (by rw [hlen, q4]; omega) nd1 tup1 p1 ld1 g1 g2 g3 (by rw [hlen]; exact g4) fun h2 L2 es2 ep2 t2 sb2 R2 pm2 => wpAny_pure (hQ true h2 L2 es2 ep2 t2 (sb.trans sb2) R2 (fun z => absurd z hm) fun _ => pm2.trans pm)
    rcases R.msk with e | e | e | e
    · have e2 : L.length + 1 = 5 := by omega
      exact go 31 (by rw [e2]; exact size_7.1) (msk_of (.inr (.inl rfl))) (.inr (.inl rfl)) (by omega)
    · have e2 : L.length + 1 = 19 := by omega
      exact go 127 (by rw [e2]; exact size_7.2.1) (msk_of (.inr (.inr rfl))) (.inr (.inr (.inl rfl))) (by omega)
    · have e2 : L.length + 1 = 77 := by omega
      exact go 511 (by rw [e2]; exact size_7.2.2) msk_511 (.inr (.inr (.inr rfl))) (by omega)
    · omega
  · rw [decide_eq_false hc] at full1
    first
      | refine wp_if_neg (by simp [full1]) ?_
      | (refine wpAny_bind (wp_if_neg (by simp [full1]) (wpAny_pure ?_)))
    exact wpAny_pure (hQ true h1 L1 es1 (ep + 1) t1 sb ⟨⟨_, ho1, hex, rfl⟩, rows1, q3, nd1, tup1, p1, ld1, by rw [hlen, q4]; omega, by rw [q4]; exact R.msk⟩ (fun z => absurd z hm) fun _ => pm)
theorem TSet.stay {h h' : Heap} (R : TSet P w h a L es ep t) (ha : ∀ o, h.get? a = some o → h'.get? a = some o) (ht : ∀ p ∈ L, IsT P w h' p.2 p.1) : TSet P w h' a L es ep t := by
  obtain ⟨o, ho, r⟩ := R.thing
  exact { R with thing := ⟨o, ha o ho, r⟩, tps := ht }
abbrev newTab (w : World) : SetTable := .fresh 0 0 (!w.params.followText "set-order")
theorem tset_new {h : Heap} (ho : h.get? a = some { cls := .type "set", dict := none, data := .set #[] 0 (newTab w) }) : TSet P w h a [] #[] 0 (newTab w) where
  thing := ⟨_, ho, ⟨rfl, rfl, rfl⟩, rfl⟩
  ents := rfl
  tab := ⟨.nil, rfl, rfl, msk_of (.inl rfl), (fun _ hx => nomatch hx), fun _ _ _ e => by cases e⟩
  nd := .nil
  tps := fun _ hp => nomatch hp
  plain := rfl
  ldd := (Bool.eq_false_or_eq_true (w.params.followText "set-order")).imp id fun z => by show (!_) = true; rw [z]; rfl
  wide := by show 0 * 5 < 7 * 3; decide
  msk := .inl rfl
end
end Ws.Sx
/-! SE: set comprehensions of tuples. -/
namespace Ws.Sx
open PySem PyProof.Rows PySem.Spec L2
/-- the set at a, without its tuples -/
structure T0 (P : Program) (w : World) (h : Heap) (a : Addr) (L : List Ent) : Prop where
  ex : ∃ (es : Array (Int × Value)) (ep : Nat) (t : SetTable), (∃ o, h.get? a = some o ∧ o.ExactSet ∧ o.data = .set es ep t) ∧ es.toList = rowsOf P w L ∧ Tab t (L.map fun p => thash P w p.2) ∧ (L.map (·.2)).Nodup ∧ t.plain = true ∧ Ldd w t ∧
    L.length * 5 < t.mask * 3 ∧ (t.mask = 7 ∨ t.mask = 31 ∨ t.mask = 127 ∨ t.mask = 511)
def TSO (P : Program) (w : World) (a : Addr) (L : List Ent) : HO := .ext fun h => T0 P w h a L
section
variable {P : Program} {w : World} {h : Heap} {a : Addr} {L : List Ent} {es : Array (Int × Value)} {ep : Nat} {t : SetTable}
theorem TSet.t0 (R : TSet P w h a L es ep t) : T0 P w h a L := ⟨⟨es, ep, t, R.thing, R.ents, R.tab, R.nd, R.plain, R.ldd, R.wide, R.msk⟩⟩
theorem T0.full (R : T0 P w h a L) (ht : ∀ p ∈ L, IsT P w h p.2 p.1) : ∃ es ep t, TSet P w h a L es ep t := by
  have ⟨es, ep, t, h1, h2, h3, h4, rest⟩ := R.ex
  exact ⟨es, ep, t, h1, h2, h3, h4, ht, rest.1, rest.2.1, rest.2.2.1, rest.2.2.2⟩
theorem tso_new {H : Hp} (R : T0 P w h a L) : ObjOk P w H h a (TSO P w a L) := by
  have ⟨_, _, _, ⟨o, ho, _⟩, _⟩ := R.ex
  exact ⟨R, ⟨o, ho⟩, fun h1 h2 (p : T0 P w h1 a L) keep => by
    obtain ⟨es, ep, t, ⟨o, ho, r⟩, q⟩ := p.ex
    exact ⟨⟨es, ep, t, ⟨o, keep o ho, r⟩, q⟩⟩⟩
end
section
variable {P : Program} {w : World} {A : Around} {E : Value → Shared → Prop} {s : Shared} {a x : Addr} {k : List Int} {L : List Ent}
/-- found.add(t) -/
theorem add_call {es : Array (Int × Value)} {ep : Nat} {t : SetTable} (R : TSet P w s.heap a L es ep t) (hx : IsT P w s.heap k x) (hu : A.units + 64 < cLine) (hf : k ∉ L.map (·.2) → L.length + 1 ≤ 81) {Q : Value → Shared → Prop}
    (hQ : ∀ h' L' tk, Heap.SameBut a s.heap h' → T0 P w h' a L' → (k ∈ L.map (·.2) → L' = L) → (k ∉ L.map (·.2) → L'.Perm ((x, k) :: L)) → Q .none { s with heap := h', toks := tk }) :
    wpAny (model P w) A (call (.builtin "set.add") [.ref a, .ref x]) Q E s := by
  have hu1 : A.in1.units < cLine := by show A.units + 1 < cLine; omega
  have hT : s.TypeIs (.ref a) "set" := let ⟨o, ho, hex, _⟩ := R.thing; ⟨o, ho, hex.1⟩
  refine wpAny_call_entry PySem.F.slot_set_add hT PySem.F.entry_set_add ?_ (PySem.F.args_set_add_2 _ _)
  simp only [Builtin.«set.add», Builtin.Frozenset.oneOther, Builtin.Frozenset.addrOf, setAdd, List.isEmpty_nil, bind_assoc]
  apply wpAny_bind; apply wpAny_pure
  try dsimp only
  apply wpAny_bind; apply wpAny_pure
  try dsimp only
  refine wpAny_bind (wpAny_holding (wpAny_bind (wpAny_pyHash_tuple hu1 hx ?_)))
  refine add (s := { s with toks := s.toks + (k.length + 1) }) R hx hu1 hf fun b h' L' es' ep' t' sb R' c1 c2 => ?_
  change wpAny (model P w) _ (ret Value.none) _ _ _
  exact wpAny_pure ⟨_, rfl, hQ h' L' _ sb R'.t0 c1 c2⟩
end
section
variable {X : Cx}
theorem add_ok {pins : List (Addr × Obj)} {σ : L2.St} {H : Hp} {s : Shared} {E : Value → Shared → Prop} {D b : Addr} {k : List Int} {L : List Ent} {Q : Value → Shared → Prop} (I : Inv X pins σ H s) (hu : X.A.units + 64 < cLine) (hD : H D = some (TSO X.prog X.w D L)) (hk : SqT X.K H b (k.map V.int))
    (hL : ∀ p ∈ L, SqT X.K H p.1 (p.2.map V.int)) (hf : k ∉ L.map (·.2) → L.length + 1 ≤ 81)
    (hQ : ∀ s' L', (k ∈ L.map (·.2) → L' = L) → (k ∉ L.map (·.2) → L'.Perm ((b, k) :: L)) → Inv X pins σ (upd H D (TSO X.prog X.w D L')) s' → Q .none s') : wpAny (model X.prog X.w) X.A (call (.builtin "set.add") [.ref D, .ref b]) Q E s := by
  have R0 : T0 X.prog X.w s.heap D L := (I.hok D _ hD).1
  obtain ⟨es, ep, t, R⟩ := R0.full fun p hp => I.isT (hL p hp)
  refine add_call R (I.isT hk) hu hf fun h' L' tk sb R' c1 c2 => hQ _ L' c1 c2 ?_
  have he : ∃ u, h'.get? D = some u := let ⟨_, _, _, ⟨o, ho, _⟩, _⟩ := R'.ex; ⟨o, ho⟩
  exact I.write (e := D) (t' := tk) (by rw [hD]; trivial) (.inl rfl) (fun c u hc hu => (sb.2 c hc).trans hu) he (tso_new R')
end
end Ws.Sx
/-! SF: the comprehension {elt for target in iter}, elt a tuple of ints. -/
namespace Ws.Sx
open PySem PyProof.Rows PySem.Spec L2 PpSet
abbrev noSet (w : World) : Obj := { cls := .type "set", dict := none, data := .set #[] 0 (newTab w) }
section
variable {X : Cx}
/-- the turn's end: the tuple y is put into the set at D -/
def putOk (X : Cx) (D : Addr) (y : V) (H : Hp) (Nx : Hp → Prop) : Prop := ∃ (b : Addr) (k : List Int) (L : List Ent), y = .ref b ∧ SqT X.K H b (k.map V.int) ∧ H D = some (TSO X.prog X.w D L) ∧ (∀ p ∈ L, SqT X.K H p.1 (p.2.map V.int)) ∧ (k ∉ L.map (·.2) → L.length + 1 ≤ 81) ∧
  ∀ L', (k ∈ L.map (·.2) → L' = L) → (k ∉ L.map (·.2) → L'.Perm ((b, k) :: L)) → Nx (upd H D (TSO X.prog X.w D L'))
def tTup (X : Cx) (wi : TI) (g : TG) (te : TE) (vs : List Nat) : TE := fun σ H Q => wi σ H fun J H1 => ∀ D, H1 D = none → ∃ W : Nat → Nat → Hp → Prop, (∃ m, W 0 m (upd H1 D (TSO X.prog X.w D []))) ∧ ∀ i m H, W i m H →
  (J.stop i H ∧ Q (.ref D) H) ∨ (J.go i H ∧ ∃ Nx : Hp → Prop, (∀ H', Nx H' → ∃ m', m' < m ∧ W (i + 1) m' H') ∧ ∀ x H', J.yld i H x H' → g x (wipe σ vs) H' fun σ2 H2 => wipe σ2 vs = wipe σ vs ∧ te σ2 H2 fun y H4 => putOk X D y H4 Nx)
theorem pe_tup {elt tg iter : Expr} {scope : Scope} {own : List (PySem.Str × Nat)} {pos : Pos} {wi : TI} {g : TG} {te : TE} (hc : X.calm = true) (hu : X.A.units + 64 < cLine) (hN : X.N.Nodup) (hi : PI X tg iter wi) (ok : BlkOk X.N X.env.scope scope own)
    (hg : ∀ (s : Shared) (H : Hp) (C : Addr) (cl : List (PySem.Str × Addr)) (fp : List Addr), PG (X.blk s H scope (compEnvC scope cl C X.env) fp) tg g) (he : ∀ (s : Shared) (H : Hp) (C : Addr) (cl : List (PySem.Str × Addr)) (fp : List Addr), PE (X.blk s H scope (compEnvC scope cl C X.env) fp) elt te)
    (hs : ∀ x, foldedSetIterable iter X.env x = pure x := by intro _; rfl) : PE X (.SetComp elt [⟨tg, iter, [], 0⟩] scope pos) (tTup X wi g te (own.map (·.2))) := by
  constructor; intro pins s σ H Q I h
  rw [eval_SetComp]
  have frees : ∀ y ∈ scope.names, y.2 = .free → ∃ c, X.env.cells.lookup y.1 = some c := fun y hy e => (ok.free y hy e).elim (fun k => I.ok.has _ (.inl k)) fun k => I.ok.has _ (.inr k)
  refine wpAny_comprehension_free rfl hs (closure_ok frees) ok.kind (fun y hy e => by rw [ok.uniq y hy, e]) (thn (hi.run pins s σ H _ I h) fun xv s1 hx => thn hx fun itv s2 ⟨it, fp, tn, J, H2, e, I2, T, st2, f2, q⟩ => ?_)
  subst e
  apply newSet_ok; apply newEnv_comp
  obtain ⟨D, hD⟩ : ∃ D, s2.heap.objs.size = D := ⟨_, rfl⟩
  rw [hD]
  have ⟨W, ⟨m0, w0⟩, turn⟩ := q D (I2.hok.fresh (Nat.le_of_eq hD))
  obtain ⟨s3, hs3⟩ : ∃ z : Shared, ({ s2 with heap := s2.heap.push (noSet X.w) } : Shared) = z := ⟨_, rfl⟩
  have h3 : s3.heap = s2.heap.push (noSet X.w) := by rw [← hs3]
  have old3 : ∀ b o, s2.heap.get? b = some o → s3.heap.get? b = some o := fun b o e => by rw [h3]; exact Heap.get?_push_of_some _ e
  have I3 : Inv X pins σ (upd H2 D (TSO X.prog X.w D [])) s3 := by
    rw [← hs3]
    exact I2.laid (t' := s2.toks) (fun b o e => Heap.get?_push_of_some _ e) (Nat.le_of_eq hD) (tso_new (TSet.t0 (P := X.prog) (tset_new (by rw [← hD]; exact Heap.get?_push_size _ rfl))))
  have f3 : ∀ b ∈ fp, FpOk X pins (upd H2 D (TSO X.prog X.w D [])) b ∧ b < s3.heap.objs.size := fun b hb => by
    obtain ⟨o, eo, _⟩ := T.obj _ _ st2 b hb
    have lt := Heap.lt_size eo
    have ne : b ≠ D := by rw [← hD]; exact Nat.ne_of_lt lt
    exact ⟨⟨by rw [upd_ne ne]; exact (f2 b hb).1, (f2 b hb).2⟩, by rw [h3, Heap.size_push]; exact Nat.lt_succ_of_lt lt⟩
  have st3 : tn 0 s3.heap := T.keep _ _ _ st2 fun b _ o e => old3 b o e
  have I4 : Inv _ _ _ _ _ := block_start I3 ok hN f3
  obtain ⟨H3, hH3⟩ : ∃ z, upd H2 D (TSO X.prog X.w D []) = z := ⟨_, rfl⟩
  rw [hH3] at I3 I4 w0 f3
  obtain ⟨cl, hcl⟩ : ∃ z, cellsFrom (s3.heap.objs.size + 1) scope.names (cloFrom X.env.cells scope.names []) = z := ⟨_, rfl⟩
  have pg := hg s3 H3 s3.heap.objs.size cl fp
  have pe := he s3 H3 s3.heap.objs.size cl fp
  have nfp : ∀ b ∈ fp, H3 b = none := fun b hb => (f3 b hb).1.1
  obtain ⟨PQ, hPQ⟩ : ∃ z : Value → Shared → Prop, (fun (v : Value) (s' : Shared) => ∃ x H', Inv X pins σ H' s' ∧ RelV x v ∧ Q x H') = z := ⟨_, rfl⟩
  have endQ : ∀ (s' : Shared) (m : Str → Option Value) (H' : Hp), Inv X pins σ H' s' → Q (.ref D) H' → s'.heap.Ns s3.heap.objs.size m → FpOk X pins H' s3.heap.objs.size → compPost (model X.prog X.w) X.A X.xe none PQ (.ref D) s3.heap.objs.size (.ok .next) s' := fun s' m H' Ie qe hn ⟨f0, f1, _, f3, f4, f5⟩ => by
    refine ⟨m, hn, fun h'' sb => ?_⟩
    rw [← hPQ]
    exact ⟨.ref D, H', Ie.turned (t' := s'.toks) (fun b o hb e => (sb.2 b hb).trans e) f0 f1 f3 f4 f5, rfl, qe⟩
  have body : codeAny (model X.prog X.w) X.A (.compStart (.SetComp elt [⟨tg, iter, [], 0⟩] scope pos) 0 (.ref it) (.ref D) (compEnvC scope cl s3.heap.objs.size X.env)) (compPost (model X.prog X.w) X.A X.xe none PQ (.ref D) s3.heap.objs.size) { s3 with heap := pushCells (s3.heap.push { cls := .type "dict", data := .dict #[] }) scope.names } := by
    obtain ⟨ce, hce⟩ : ∃ z, compEnvC scope cl s3.heap.objs.size X.env = z := ⟨_, rfl⟩
    rw [hcl, hce] at I4
    rw [hce] at pg pe ⊢
    have cL : ce.locals = s3.heap.objs.size := by rw [← hce]; rfl
    obtain ⟨s4, hs4⟩ : ∃ z : Shared, ({ s3 with heap := pushCells (s3.heap.push { cls := .type "dict", data := .dict #[] }) scope.names } : Shared) = z := ⟨_, rfl⟩
    rw [hs4] at I4 ⊢
    have st4 : tn 0 s4.heap := T.keep _ _ _ st3 fun b _ o e => hs4 ▸ pushCells_keeps _ _ _ _ (Heap.get?_push_of_some _ e)
    have stat : ∀ {σ' : L2.St} {H' : Hp} {s' : Shared}, Inv (X.blk s3 H3 scope ce fp) [] σ' H' s' → (∀ b ∈ fp, H' b = none) → ∀ b ∈ fp, FpOk (X.blk s3 H3 scope ce fp) [] H' b := fun Ie hn b hb =>
      ⟨hn b hb, (Ie.ok.exf b hb).1, Ie.ok.exfs b hb, .inl hb, (fun y c e => (Ie.ok.exf b hb).2 y c e), fun p hp => (List.not_mem_nil hp).elim⟩
    have loop : codeAny (model X.prog X.w) X.A (.compLoop (.SetComp elt [⟨tg, iter, [], 0⟩] scope pos) 0 (.ref it) (.ref D) ce) (compPost (model X.prog X.w) X.A X.xe none PQ (.ref D) s3.heap.objs.size) s4 := by
      refine compLoopS_any (fun n z => ∃ i Hz, Inv (X.blk s3 H3 scope ce fp) [] (wipe σ (own.map (·.2))) Hz z ∧ tn i z.heap ∧ (∀ b ∈ fp, Hz b = none) ∧ W i n Hz) ?_ m0 ⟨0, H3, I4, st4, nfp, w0⟩
      intro n s5 ⟨i, H5, I5, st5, n5, w5⟩
      rcases turn i n H5 w5 with ⟨stop, qe⟩ | ⟨go, Nx, hNx, step⟩
      · refine thnF (T.done (X.blk s3 H3 scope ce fp) rfl rfl rfl hc i [] s5 _ H5 (fun _ _ => False) I5 (stat I5 n5) st5 stop) fun r s6 ⟨hr, I6⟩ => ?_
        subst hr
        have I7 : Inv X pins σ H5 s6 := I3.call' (ch := fp) I6.os I6.base I6.hok I6.bare fun b hb => let z := (f3 b hb).1.2; ⟨z.2.2.1, z.1, z.2.2.2.1, z.2.2.2.2⟩
        have nC : H5 s3.heap.objs.size = none := cL ▸ I6.free
        obtain ⟨m, hn, _⟩ := I6.loc
        change s6.heap.Ns ce.locals m at hn; rw [cL] at hn
        exact endQ s6 m H5 I7 qe hn (I3.fpOk (Nat.le_refl _) nC)
      · refine thnF (T.item (X.blk s3 H3 scope ce fp) rfl rfl rfl hc i [] s5 _ H5 (fun _ _ => False) I5 (stat I5 n5) st5 go) fun r s6 ⟨u, hr, h6⟩ => ?_
        subst hr
        refine thnF h6 fun u7 s7 ⟨x, H7, I7, r7, y7, st7, n7⟩ => ?_
        refine thnF (pg.run _ s7 _ H7 x u _ (I7.pinned (stat I7 n7) (T.obj _ _ st7)) r7 (step x H7 y7)) fun _ s8 ⟨σ8, H8, I8, hw8, q8⟩ => ?_
        show wpAny _ _ (pure true) _ _ _
        refine wpAny_pure ?_
        simp only [if_true]
        refine thnF (pe.run _ s8 σ8 H8 _ I8 q8) fun z s10 ⟨yv, H10, I10, r10, b, k, L0, ey, hk, hD10, hL, hf, nx⟩ => ?_
        subst ey
        cases (show z = Value.ref b from r10)
        refine add_ok (X := X.blk s3 H3 scope ce fp) I10 hu hD10 hk hL hf fun s11 L' c1 c2 I11 => ?_
        obtain ⟨m', hm, w'⟩ := hNx _ (nx L' c1 c2)
        have pin' : ∀ b ∈ fp, ∀ o, s7.heap.get? b = some o → s11.heap.get? b = some o ∧ (upd H10 D (TSO X.prog X.w D L')) b = none := fun b hb o e =>
          have z := I11.pin (b, o) (List.mem_append_right _ (List.mem_append_right _ (mem_pinsAt hb e)))
          ⟨z.1, z.2.1⟩
        have hl : (wipe σ (own.map (·.2))).length = σ8.length := hw8 ▸ wipe_length σ8 _
        refine ⟨m', hm, i + 1, _, (I11.unpinned (pins := [])).weak hl (fun j v e => ?_), T.keep _ _ _ st7 (fun b hb o e => (pin' b hb o e).1), (fun b hb => ?_), w'⟩
        · rw [← hw8] at e; exact (wipe_some e).1
        · exact (T.obj _ _ st7 b hb).elim fun o z => (pin' b hb o z.1).2
    apply codeAny_compStart_set loop; exact T.self X.A 0 _ _ _ st4 loop
  rw [← hcl, ← hPQ] at body
  subst hs3
  exact body
end
end Ws.Sx
/-! SG: sorted(a set of tuples). -/
/-- the order of tuples of ints -/
def Ws.ltL : List Int → List Int → Bool
  | [], [] => false
  | [], _ :: _ => true
  | _ :: _, [] => false
  | x :: xs, y :: ys => decide (x < y) || (decide (x = y) && Ws.ltL xs ys)
namespace Ws.Sx
open PySem PyProof.Rows PySem.Spec L2 PySem.W
theorem lt_list : ∀ xs ys : List Int, ltL xs ys = decide (xs < ys)
  | [], [] => by simp [ltL]
  | [], _ :: _ => by simp [ltL]
  | _ :: _, [] => by simp [ltL]
  | x :: xs, y :: ys => by
    rw [ltL, lt_list xs ys]
    by_cases h : x < y
    · simp [h, List.cons_lt_cons_iff]
    · by_cases e : x = y <;> simp [h, e, List.cons_lt_cons_iff]
abbrev encE (p : Ent) : PyData := .tuple (p.2.map .int)
theorem le_ent : dataLe false encE = fun p q => decide (p.2 ≤ q.2) := by
  funext p q
  show (!dataLt (.tuple (q.2.map .int)) (.tuple (p.2.map .int))) = _
  rw [dataLt_tuple, show lexLt itemOrd (keyToksAll (q.2.map .int)) (keyToksAll (p.2.map .int)) = decide (q.2 < p.2) from dataLt_ints _ _]
  by_cases h : q.2 < p.2
  · simp [h, List.not_le.mpr h]
  · simp [h, List.not_lt.mp h]
theorem merged (L : List Ent) : (L.mergeSort (dataLe false encE)).Perm L ∧ (L.mergeSort (dataLe false encE)).Pairwise fun p q => p.2 ≤ q.2 := by
  refine ⟨List.mergeSort_perm _ _, ?_⟩
  rw [le_ent]
  have q := List.pairwise_mergeSort (le := fun p q : Ent => decide (p.2 ≤ q.2)) (fun a b c h1 h2 => decide_eq_true (List.le_trans (of_decide_eq_true h1) (of_decide_eq_true h2))) (fun a b => by
    rcases List.le_total a.2 b.2 with h | h
    · simp [h]
    · simp [h]) L
  exact q.imp fun h => of_decide_eq_true h
theorem perm_back {α β : Type} (f : α → β) : ∀ (L : List α) {l : List β}, l.Perm (L.map f) → ∃ L1 : List α, L1.Perm L ∧ l = L1.map f
  | [], l, h => ⟨[], .refl _, h.eq_nil⟩
  | x :: L, l, h => by
    obtain ⟨s, t, rfl⟩ := List.append_of_mem (h.mem_iff.mpr List.mem_cons_self)
    have h2 : (s ++ t).Perm (L.map f) := (List.perm_middle.symm.trans h).cons_inv
    obtain ⟨L1, p, e⟩ := perm_back f L h2
    obtain ⟨A, B, rfl, rfl, rfl⟩ := List.map_eq_append_iff.mp e.symm
    exact ⟨A ++ x :: B, List.perm_middle.trans (p.cons x), by rw [List.map_append, List.map_cons]⟩
theorem reads_ints {h : Heap} : ∀ {vs : List Value} {k : List Int}, IntsAre vs k → ReadsAll h vs (k.map .int) []
  | _, _, .nil => .nil
  | _, _, .cons k0 t r => ReadsAll.cons (as := []) (Reads.int k0 t) (reads_ints r)
section
variable {P : Program} {w : World} {s : Shared} {A : Around} {E : Value → Shared → Prop}
theorem reads_ent {h : Heap} {p : Ent} (x : IsT P w h p.2 p.1) : ∃ as, Reads h (.ref p.1) (encE p) as ∧ ∀ a, a ∉ as := by
  have ⟨o, items, n, ho, hc, hd, hi⟩ := x
  exact ⟨[], .tuple ho hc hd (reads_ints (ints_of_items hi)), fun _ h => nomatch h⟩
theorem sort_ents {a : Addr} {n : Nat} {L : List Ent} {Q : Value → Shared → Prop} (ho : s.heap.get? a = some (seqObj "list" (L.map fun p => Value.ref p.1).toArray n)) (ht : ∀ p ∈ L, IsT P w s.heap p.2 p.1) (hL : L.length ≤ sizeLine) (hu : A.units + 3 < cLine)
    (hn : (∀ p ∈ L, p.2 ≠ []) ∨ L.length < 2) (h : ∀ L' : List Ent, L'.Perm L → L'.Pairwise (fun p q => p.2 ≤ q.2) → Q .none { s with heap := sortedHeap s.heap a (L.map fun p => Value.ref p.1) (L'.map fun p => Value.ref p.1).toArray }) :
    wpAny (model P w) A (call (.builtin "list.sort") [.ref a]) Q E s := by
  by_cases c : L.length < 2
  · refine wpAny_call_entry slot_list_sort ⟨_, ho, rfl⟩ entry_list_sort (SrtO.list_sort_ord SrtO.swo_int ho (by rw [List.length_map]; exact hL) (fun h2 => absurd h2 (by rw [List.length_map]; omega)) fun out q1 q2 => ⟨.none, rfl, ?_⟩) (args_list_sort _)
    obtain ⟨L1, p1, rfl⟩ := perm_back (fun p : Ent => Value.ref p.1) L q2.perm
    refine h L1 p1 ?_
    have l1 := p1.length_eq
    match L1, l1 with
    | [], _ => exact .nil
    | [x], _ => exact List.pairwise_singleton _ _
    | _ :: _ :: _, l1 => rw [List.length_cons, List.length_cons] at l1; omega
  · have hne := hn.resolve_right c
    have each : ∀ (R : Value → Ent → Prop) (M : List Ent), (∀ p ∈ M, R (.ref p.1) p) → EachIs R (M.map fun p => Value.ref p.1) M := fun R M => by
      induction M with
      | nil => exact fun _ => .nil
      | cons x M ih => exact fun hm => .cons (hm x List.mem_cons_self) (ih fun p hp => hm p (List.mem_cons_of_mem _ hp))
    refine list_sort_data (enc := encE) (R := fun v p => v = .ref p.1) ho (each _ L fun p _ => rfl) (each _ L fun p hp => (reads_ent (ht p hp)).imp fun as z => ⟨z.1, z.2 a⟩) ?_ ?_ hL (fun p _ => ?_) fun out ho2 e2 => ?_
    · exact AllAlike.of fun p q => by simp [alike, alike_ints]
    · refine .inl fun d hd => ?_
      obtain ⟨p, hp, rfl⟩ := List.mem_map.mp hd
      cases hk : p.2 with
      | nil => exact absurd hk (hne p hp)
      | cons x r => exact ⟨.int x, r.map .int, by show PyData.tuple (p.2.map .int) = _; rw [hk]; rfl⟩
    · show A.units + 1 + (PyData.tuple (p.2.map .int)).depth < cLine
      rw [PyData.depth, PySem.W.depth_ints]; omega
    · obtain ⟨m1, m2⟩ := merged L
      have eo : ∀ {out : List Value} {M : List Ent}, EachIs (fun v p => v = Value.ref p.1) out M → out = M.map fun p => Value.ref p.1 := fun {out M} z => by
        induction z with
        | nil => rfl
        | cons e _ ih => rw [e, ih]; rfl
      rw [eo e2]
      exact h _ m1 m2
end
end Ws.Sx
/-! SH: sorted(..) of a set of tuples, as a rule; what is told of the set's place. -/
namespace Ws.Sx
open PySem PyProof.Rows PySem.Spec L2
def rSortTS (K : PySem.W.Frag) (P : Program) (w : World) : List V → Hp → VK → Prop := fun vs H Q => ∃ (D : Addr) (L : List Ent), vs = [V.ref D] ∧ H D = some (TSO P w D L) ∧ (∀ p ∈ L, SqT K H p.1 (p.2.map V.int)) ∧ L.length ≤ 81 ∧ ((∀ p ∈ L, p.2 ≠ []) ∨ L.length < 2) ∧
  ∀ (L' : List Ent) (q : Addr), L'.Perm L → L'.Pairwise (fun a b => ltL a.2 b.2 = true) → H q = none → Q (.ref q) (upd H q (.lst (L'.map fun p => V.ref p.1)))
theorem strict {L L' : List Ent} (nd : (L.map (·.2)).Nodup) (p : L'.Perm L) (h : L'.Pairwise fun a b => a.2 ≤ b.2) : L'.Pairwise fun a b => ltL a.2 b.2 = true := by
  have n1 : (L'.map (·.2)).Nodup := (p.map (·.2)).nodup_iff.mpr nd
  have n2 := List.pairwise_map.mp n1
  refine (h.and n2).imp fun {a b} ⟨h1, h2⟩ => ?_
  rw [lt_list]
  exact decide_eq_true (Decidable.byContradiction fun c => h2 (List.le_antisymm h1 (List.not_lt.mp c)))
theorem cr_sortTS {X : Cx} (hc : X.calm = true) (hu : X.A.units + 64 < cLine) : CallR X (.builtin "sorted") (rSortTS X.K X.prog X.w) := by
  rintro pins s σ H vs us Q I r ⟨D, L, rfl, hD, hk, h81, hn, q⟩
  have R0 : T0 X.prog X.w s.heap D L := (I.hok D _ hD).1
  have ⟨es, ep, t, R⟩ := R0.full fun p hp => I.isT (hk p hp)
  rw [Vals.ref1 r]
  have ⟨o, ho, hex, hd⟩ := R.thing
  have el := R.len
  refine sorted_by (collect_set (A := X.A.in1) (I.ok.hd hc) ⟨o, ho, hex.1, hd⟩ R.fit (by unfold scanBound; omega) R.tab.ris R.ldd fun s1 out k1 hz g1 o1 pm => ?_)
  have pm2 : out.Perm (L.map fun p => Value.ref p.1) := by
    have e : es.toList.map (·.2) = L.map fun p => Value.ref p.1 := by rw [R.ents]; unfold rowsOf; rw [List.map_map]; rfl
    rw [← e]; exact pm
  obtain ⟨L1, p1, rfl⟩ := perm_back (fun p : Ent => Value.ref p.1) L pm2
  have l1 := p1.length_eq
  refine ⟨by rw [List.length_map, sizeLine_eq]; omega, ?_⟩
  have hn0 : s.heap.get? s1.heap.objs.size = none := by
    cases z : s.heap.get? s1.heap.objs.size with
    | none => rfl
    | some o => exact absurd (Heap.lt_size (k1 _ _ z)) (Nat.lt_irrefl _)
  have hob : (s1.heap.push (seqObj "list" (L1.map fun p => Value.ref p.1).toArray 0)).get? s1.heap.objs.size = some (seqObj "list" (L1.map fun p => Value.ref p.1).toArray 0) := Heap.get?_push_size _ rfl
  have up : ∀ b u, s.heap.get? b = some u → (s1.heap.push (seqObj "list" (L1.map fun p => Value.ref p.1).toArray 0)).get? b = some u := fun b u e => Heap.get?_push_of_some _ (k1 b u e)
  refine sort_ents (P := X.prog) (w := X.w) (A := X.A.in1) (s := { s1 with heap := s1.heap.push (seqObj "list" (L1.map fun p => Value.ref p.1).toArray 0) }) hob (fun p hp => isT_keep (R.tps p (p1.mem_iff.mp hp)) up) (by rw [sizeLine_eq]; omega) (by show X.A.units + 1 + 3 < cLine; omega)
    (hn.imp (fun z p hp => z p (p1.mem_iff.mp hp)) fun z => by omega) fun L2 p2 w2 => ?_
  obtain ⟨c, hcx⟩ := PyProof.Rows.sortedHeap_at (vs := L1.map fun p => Value.ref p.1) (out := (L2.map fun p => Value.ref p.1).toArray) hob
  have p3 : L2.Perm L := p2.trans p1
  have hH : H s1.heap.objs.size = none := I.hok.gone hn0
  have old : ∀ b u, s.heap.get? b = some u → (sortedHeap (s1.heap.push (seqObj "list" (L1.map fun p => Value.ref p.1).toArray 0)) s1.heap.objs.size (L1.map fun p => Value.ref p.1) (L2.map fun p => Value.ref p.1).toArray).get? b = some u := fun b u e => by
    have lt := Heap.lt_size (k1 b u e)
    rw [PyProof.Rows.sortedHeap_old (Nat.ne_of_lt lt) (by rw [size_push']; exact Nat.lt_succ_of_lt lt)]
    exact up b u e
  have J : Inv X pins σ (upd H s1.heap.objs.size (.lst (L2.map fun p => V.ref p.1))) { s with heap := sortedHeap (s1.heap.push (seqObj "list" (L1.map fun p => Value.ref p.1).toArray 0)) s1.heap.objs.size (L1.map fun p => Value.ref p.1) (L2.map fun p => Value.ref p.1).toArray, gens := s1.gens, drawn := s1.drawn, toks := s1.toks } :=
    I.call (ch := []) (Un.laid old hz hH) (I.hok.laid old hz ⟨by rw [List.length_map, p3.length_eq, sizeLine_eq]; omega, _, c, vals_of_refs L2, hcx⟩) (by rw [g1]; exact I.bare) (fun _ z => nomatch z)
  refine ⟨.ref _, _, ?_, rfl, q L2 _ p3 (strict R.nd p3 w2) hH⟩
  have e : s1.os = s.os := o1
  show Inv X pins σ _ { s1 with heap := _ }
  rw [show ({ s1 with heap := sortedHeap (s1.heap.push (seqObj "list" (L1.map fun p => Value.ref p.1).toArray 0)) s1.heap.objs.size (L1.map fun p => Value.ref p.1) (L2.map fun p => Value.ref p.1).toArray } : Shared) = { s with heap := sortedHeap (s1.heap.push (seqObj "list" (L1.map fun p => Value.ref p.1).toArray 0)) s1.heap.objs.size (L1.map fun p => Value.ref p.1) (L2.map fun p => Value.ref p.1).toArray, gens := s1.gens, drawn := s1.drawn, toks := s1.toks } by rw [← e]]
  exact J
/-- a set's place is no code object's -/
theorem tso_tbl {P : Program} {w : World} {a : Addr} {L : List Ent} (ps : Array Value) : TSO P w a L ≠ .tbl ps := fun e => by unfold TSO at e; cases e
theorem tso_code {P : Program} {w : World} {a : Addr} {L : List Ent} (c : Addr) (z : Str) : TSO P w a L ≠ LamX.CodeO c z := fun e => by
  unfold TSO LamX.CodeO at e
  injection e with e
  have key : ∀ h : Heap, T0 P w h a L ↔ ∃ (oc : Obj) (vs : Array Value) (t : Tok), h.get? c = some oc ∧ oc.data = .fields vs ∧ vs[1]? = some (.str z t) := fun h => by rw [show T0 P w h a L = _ from congrFun e h]
  have all : ∀ (o : Obj) (n b : Nat), o.data ≠ .freed → ∀ u, ({ objs := Array.replicate n o } : Heap).get? b = some u → u = o := fun o n b ho u hu => by
    unfold Heap.get? at hu
    by_cases hb : b < n
    · have e2 : (Array.replicate n o)[b]? = some o := by simp [hb]
      rw [show ({ objs := Array.replicate n o } : Heap).objs[b]? = some o from e2] at hu
      split at hu
      · cases hu
      · exact (Option.some.inj hu).symm
    · have e2 : (Array.replicate n o)[b]? = none := by simp [hb]
      rw [show ({ objs := Array.replicate n o } : Heap).objs[b]? = none from e2] at hu
      cases hu
  have one : ∀ (o : Obj) (n b : Nat), o.data ≠ .freed → b < n → ({ objs := Array.replicate n o } : Heap).get? b = some o := fun o n b ho hb => by
    unfold Heap.get?
    have e2 : (Array.replicate n o)[b]? = some o := by simp [hb]
    rw [show ({ objs := Array.replicate n o } : Heap).objs[b]? = some o from e2]
    split
    · rename_i q
      cases q
      exact absurd rfl ho
    · rfl
  by_cases hx : ∃ h, T0 P w h a L
  · obtain ⟨h, hh⟩ := hx
    obtain ⟨es, ep, t, ⟨o, ho, hex, hd⟩, r⟩ := hh.ex
    have nf : o.data ≠ .freed := by rw [hd]; intro z; cases z
    obtain ⟨oc, vs, tk, g1, g2, _⟩ := (key { objs := Array.replicate (a + 1) o }).mp ⟨es, ep, t, ⟨o, one o _ _ nf (Nat.lt_succ_self a), hex, hd⟩, r⟩
    rw [all o _ _ nf oc g1, hd] at g2
    cases g2
  · exact hx ⟨_, (key { objs := Array.replicate (c + 1) { cls := .none, data := .fields #[.none, .str z default] } }).mpr ⟨_, _, default, one _ _ _ (by intro z; cases z) (Nat.lt_succ_self c), rfl, rfl⟩⟩
end Ws.Sx
/-! WS, part V: sorted({..}) of tuples of ints. -/
namespace Ws
open PySem PyProof.Rows PySem.Spec L2
/-! ### a set at D, owned by no one, while its comprehension runs -/
section
variable {K : PySem.W.Frag} {T : TabL} {F : Hp} {μ : Mu} {R H : Hp} {D : Addr} {o o' : HO}
theorem set_kept (hs : Hs K T F μ (upd R D o) H) (hT : T.rb D = none) (h1 : ∀ ps, o ≠ .tbl ps) (h2 : ∀ c q, o ≠ LamX.CodeO c q) (h3 : ∀ ps, o' ≠ .tbl ps) (h4 : ∀ c q, o' ≠ LamX.CodeO c q) : Hs K T F μ (upd R D o') (upd H D o') := by
  have hD := hs.r D o upd_same
  have nF : F D = none := (hs.fr D).elim id fun z => by rw [upd_same] at z; cases z
  have nM : μ D = none := (hs.mr D).elim id fun z => by rw [upd_same] at z; cases z
  have neF : ∀ b u, F b = some u → b ≠ D := fun b u e z => by rw [z, nF] at e; cases e
  have neM : ∀ b u, μ b = some u → b ≠ D := fun b u e z => by rw [z, nM] at e; cases e
  have neT : ∀ b u, T.rb b = some u → b ≠ D := fun b u e z => by rw [z, hT] at e; cases e
  refine ⟨fun b u e => by rw [upd_ne (neF b u e)]; exact hs.f b u e, fun b u e => by rw [upd_ne (neM b u e)]; exact hs.m b u e, fun b u e => ?_, hs.fm, fun b => ?_, fun b => ?_, tabs_upd hs.tb hD h1 h2, hs.ntF, fun b u e => ?_, hs.lb, fun b u e => by have z := hs.rb b u e; rw [upd_ne (neT b u e)] at z ⊢; exact z⟩
  all_goals by_cases c : b = D
  · subst c; rw [upd_same] at e ⊢; exact e
  · rw [upd_ne c] at e ⊢; exact hs.r b u (by rw [upd_ne c]; exact e)
  · subst c; exact .inl nF
  · have z := hs.fr b; rw [upd_ne c] at z ⊢; exact z
  · subst c; exact .inl nM
  · have z := hs.mr b; rw [upd_ne c] at z ⊢; exact z
  · subst c; rw [upd_same] at e; cases e; exact ⟨h3, h4⟩
  · rw [upd_ne c] at e; exact hs.ntR b u (by rw [upd_ne c]; exact e)
theorem set_gone (hs : Hs K T F μ (upd R D o) H) (hR : R D = none) (hT : T.rb D = none) : Hs K T F μ R H := by
  have ne : ∀ b u, R b = some u → b ≠ D := fun b u e z => by rw [z, hR] at e; cases e
  refine ⟨hs.f, hs.m, fun b u e => hs.r b u (by rw [upd_ne (ne b u e)]; exact e), hs.fm, fun b => ?_, fun b => ?_, hs.tb, hs.ntF, fun b u e => hs.ntR b u (by rw [upd_ne (ne b u e)]; exact e), hs.lb, fun b u e => ?_⟩
  · by_cases c : b = D
    · rw [c]; exact .inr hR
    · have z := hs.fr b; rw [upd_ne c] at z; exact z
  · by_cases c : b = D
    · rw [c]; exact .inr hR
    · have z := hs.mr b; rw [upd_ne c] at z; exact z
  · have c : b ≠ D := fun z => by rw [z, hT] at e; cases e
    have z := hs.rb b u e
    rw [upd_ne c] at z; exact z
end
/-- the tuples are told as data -/
theorem rep_tup {K : PySem.W.Frag} {F : Hp} {t : List Int} {v : V} (r : Rep K F (tupI t) v) : ∃ b, v = .ref b ∧ SqT K F b (t.map V.int) := by
  unfold tupI at r
  cases r with
  | tup hq rr => exact ⟨_, rfl, by rw [← rr.ints]; exact hq⟩
theorem tup_rep {K : PySem.W.Frag} {F : Hp} {t : List Int} {b : Addr} (h : SqT K F b (t.map V.int)) : Rep K F (tupI t) (.ref b) := .tup h (Reps.ofInts t)
theorem reps_ents {K : PySem.W.Frag} {F : Hp} : ∀ {L : List Sx.Ent}, (∀ p ∈ L, Rep K F (tupI p.2) (.ref p.1)) → Reps K F (L.map fun p => tupI p.2) (L.map fun p => V.ref p.1)
  | [], _ => .nil
  | p :: L, h => .cons (h p List.mem_cons_self) (reps_ents fun q hq => h q (List.mem_cons_of_mem _ hq))
theorem nil_few : ∀ {l : List (List Int)}, l.Nodup → (∀ t ∈ l, t.length = 0) → l.length < 2
  | [], _, _ => Nat.zero_lt_two
  | [_], _, _ => Nat.one_lt_two
  | a :: b :: l, nd, h => by
    have e1 := List.eq_nil_of_length_eq_zero (h a List.mem_cons_self)
    have e2 := List.eq_nil_of_length_eq_zero (h b (List.mem_cons_of_mem _ List.mem_cons_self))
    exact absurd (by rw [e1, e2]; exact List.mem_cons_self) (List.nodup_cons.mp nd).1
section
variable {X : Cx} {T : TabL} {G : GE} {μ : Mu} {pos pos2 p tpos : Pos} {elt iter : Expr} {Q : D → Mu → Prop}
/-- what the comprehension owes -/
def ScOk' (X : Cx) (T : TabL) (G : GE) (scope : Scope) (elt : Expr) (i n : Nat) (Q : D → Mu → Prop) (ds : List D) (μ1 : Mu) : Prop := ∃ ts : List (List Int), ts.length = ds.length ∧ (∀ t ∈ ts, t.length = n) ∧ (∀ l : List (List Int), l.Nodup → (∀ t ∈ l, t ∈ ts) → l.length ≤ 81) ∧
  (∀ (j : Nat) (d : D) (t : List Int), ds[j]? = some d → ts[j]? = some t → ∀ (s : Shared) (H : Hp) (C : Addr) (cl : List (Str × Addr)) (fp : List Addr), WE (X.blk s H scope (compEnvC scope cl C X.env) fp) T (G.set i (some d)) μ1 elt fun z μ2 => z = tupI t ∧ μ2 = μ1) ∧
  ∀ ys : List (List Int), ys.Pairwise (fun a b => ltL a b = true) → (∀ t, t ∈ ys ↔ t ∈ ts) → Q (.lst (ys.map tupI)) μ1
theorem sc_read {tg : Expr} {scope : Scope} {i n : Nat} (h : WI X T G μ tg iter (ScOk' X T G scope elt i n Q)) {F R H : Hp} {σ : L2.St} (hi : i < σ.length) (hs : Hs X.K T F μ R H) (he : EnvR X.K F G σ) :
    Sx.tTup X (wI X tg iter) (gName i) (tElt X scope elt) [i] σ H fun v H' => Sx.rSortTS X.K X.prog X.w [v] H' (Fin X.K T F R Q) := by
  refine wI_mono (h F R H σ hs he) fun J H1 ⟨F1, μ1, ds, hs1, s1, it, hz, ts, hlen, hn, hfew, step, done⟩ => ?_
  intro D hD
  have nR : R D = none := hs1.noR hD
  have nT : T.rb D = none := hs1.rb.free nR
  refine ⟨fun j m H => m = ds.length - j ∧ j ≤ ds.length ∧ ∃ F' L, Hs X.K T F' μ1 (upd R D (Sx.TSO X.prog X.w D L)) H ∧ Same F1 F' ∧ (∀ p ∈ L, Rep X.K F' (tupI p.2) (.ref p.1)) ∧ (L.map (·.2)).Nodup ∧ ∀ t, t ∈ L.map (·.2) ↔ t ∈ ts.take j,
    ⟨_, rfl, Nat.zero_le _, F1, [], frame_new hs1 hD (fun ps => Sx.tso_tbl ps) (fun c z => Sx.tso_code c z), Same.refl _, (fun _ h => nomatch h), .nil, fun t => Iff.rfl⟩, ?_⟩
  rintro j m H3 ⟨rfl, hj, F', L, hs3, s3, hL, nd, mem⟩
  obtain ⟨go, stop, yld⟩ := it F' μ1 _ H3 s3 hs3
  have inTs : ∀ {k t}, t ∈ ts.take k → t ∈ ts := fun h => List.mem_of_mem_take h
  by_cases hlt : j < ds.length
  · have ed : ds[j]? = some ds[j] := List.getElem?_eq_getElem hlt
    have jt : j < ts.length := by rw [hlen]; exact hlt
    have et : ts[j]? = some ts[j] := List.getElem?_eq_getElem jt
    have tk : ts.take (j + 1) = ts.take j ++ [ts[j]] := by rw [List.take_add_one, et]; rfl
    refine .inr ⟨go j hlt, fun H' => ∃ F'' L', Hs X.K T F'' μ1 (upd R D (Sx.TSO X.prog X.w D L')) H' ∧ Same F1 F'' ∧ (∀ p ∈ L', Rep X.K F'' (tupI p.2) (.ref p.1)) ∧ (L'.map (·.2)).Nodup ∧ ∀ t, t ∈ L'.map (·.2) ↔ t ∈ ts.take (j + 1), fun H' ⟨F'', L', a, b, c, d, e⟩ => ⟨ds.length - (j + 1), by omega, rfl, hlt, F'', L', a, b, c, d, e⟩, fun x H4 y => ?_⟩
    obtain ⟨F4, hs4, s4, r4⟩ := yld j _ x H4 ed y
    have e1 : (wipe σ [i]).set i (some x) = σ.set i (some x) := List.set_set ..
    have he4 : EnvR X.K F4 (G.set i (some ds[j])) ((wipe σ [i]).set i (some x)) := by rw [e1]; exact (he.mono ((s1.trans s3).trans s4)).set hi r4
    refine ⟨by show ((wipe σ [i]).set i (some x)).set i none = σ.set i none; rw [e1, List.set_set], fun s0 H0 C cl fp => ?_⟩
    refine wE_mono (step j _ _ ed et s0 H0 C cl fp F4 _ H4 _ hs4 he4) fun z H6 ⟨F6, d6, μ6, hs6, s6, r6, q1, q2⟩ => ?_
    subst q1 q2
    obtain ⟨b, rfl, hb⟩ := rep_tup r6
    have sF := s4.trans s6
    have hL6 : ∀ p ∈ L, Rep X.K F6 (tupI p.2) (.ref p.1) := fun p hp => (hL p hp).mono sF
    have sq : ∀ p : Sx.Ent, Rep X.K F6 (tupI p.2) (.ref p.1) → SqT X.K H6 p.1 (p.2.map V.int) := fun p r => by
      obtain ⟨c, e, q⟩ := rep_tup r
      cases e
      exact hs6.tupF q
    refine ⟨b, ts[j], L, rfl, hs6.tupF hb, hs6.r D _ upd_same, fun p hp => sq p (hL6 p hp), fun out => ?_, fun L' c1 c2 => ?_⟩
    · have := hfew (ts[j] :: L.map (·.2)) (List.nodup_cons.mpr ⟨out, nd⟩) fun t ht => (List.mem_cons.mp ht).elim (fun e => by rw [e]; exact List.getElem_mem jt) fun ht => inTs ((mem t).mp ht)
      rw [List.length_cons, List.length_map] at this; exact this
    · refine ⟨F6, L', set_kept hs6 nT (fun ps => Sx.tso_tbl ps) (fun c z => Sx.tso_code c z) (fun ps => Sx.tso_tbl ps) (fun c z => Sx.tso_code c z), (s3.trans s4).trans s6, ?_⟩
      by_cases c : ts[j] ∈ L.map (·.2)
      · rw [c1 c]
        refine ⟨hL6, nd, fun t => ?_⟩
        rw [tk, List.mem_append, List.mem_singleton, mem t]
        exact ⟨.inl, fun o => o.elim id fun e => by rw [e]; exact (mem _).mp c⟩
      · have pm := c2 c
        refine ⟨fun p hp => (List.mem_cons.mp (pm.mem_iff.mp hp)).elim (fun e => by rw [e]; exact r6) (hL6 p), (pm.map (·.2)).nodup_iff.mpr (List.nodup_cons.mpr ⟨c, nd⟩), fun t => ?_⟩
        rw [tk, List.mem_append, List.mem_singleton, (pm.map (·.2)).mem_iff, List.map_cons, List.mem_cons, mem t]
        exact Or.comm
  · have e : j = ds.length := by omega
    subst e
    have full : ts.take ds.length = ts := by rw [← hlen, List.take_length]
    rw [full] at mem
    have sq : ∀ p ∈ L, SqT X.K H3 p.1 (p.2.map V.int) := fun p hp => by
      obtain ⟨c, e, q⟩ := rep_tup (hL p hp)
      cases e
      exact hs3.tupF q
    have l81 := hfew (L.map (·.2)) nd fun t ht => (mem t).mp ht
    rw [List.length_map] at l81
    refine .inl ⟨stop, D, L, rfl, hs3.r D _ upd_same, sq, l81, ?_, fun L' q pm pw hq => ?_⟩
    · by_cases n0 : n = 0
      · have := nil_few nd fun t ht => by rw [hn t ((mem t).mp ht), n0]
        rw [List.length_map] at this
        exact .inr this
      · exact .inl fun p hp e => n0 (by rw [← hn p.2 ((mem _).mp (List.mem_map.mpr ⟨p, hp, rfl⟩)), e]; rfl)
    · have q2 := done (L'.map (·.2)) (List.pairwise_map.mpr pw) fun t => (pm.map (·.2)).mem_iff.trans (mem t)
      rw [List.map_map] at q2
      exact (fin_lst (set_gone hs3 nR nT) hq (reps_ents fun p hp => hL p (pm.mem_iff.mp hp)) q2).back (s1.trans s3)
theorem we_sortedSC {x y : Str} {scope : Scope} (i n : Nat) (hx : x = "sorted") (hm : X.mg "sorted" = none) (hc : X.calm = true) (hN : X.N.Nodup) (hu : X.A.units + 64 < cLine) (ok : BlkOk X.N X.env.scope scope [(y, i)])
    (h : WI X T G μ (.Name y tpos) iter fun ds μ1 => ∃ ts : List (List Int), ts.length = ds.length ∧ (∀ t ∈ ts, t.length = n) ∧ (∀ l : List (List Int), l.Nodup → (∀ t ∈ l, t ∈ ts) → l.length ≤ 81) ∧
      (∀ (j : Nat) (d : D) (t : List Int), ds[j]? = some d → ts[j]? = some t → ∀ (s : Shared) (H : Hp) (C : Addr) (cl : List (Str × Addr)) (fp : List Addr), WE (X.blk s H scope (compEnvC scope cl C X.env) fp) T (G.set i (some d)) μ1 elt fun z μ2 => z = tupI t ∧ μ2 = μ1) ∧
      ∀ ys : List (List Int), ys.Pairwise (fun a b => ltL a b = true) → (∀ t, t ∈ ys ↔ t ∈ ts) → Q (.lst (ys.map tupI)) μ1)
    (hg : Gl X "sorted" := by rfl) (hi : X.N[i]? = some y := by rfl)
    (hy : ∀ (C : Addr) (cl : List (Str × Addr)), Loc (compEnvC scope cl C X.env).scope y := by intro _ _; first | exact Or.inl rfl | exact Or.inr rfl) (hf : ∀ (C : Addr) (cl : List (Str × Addr)), (scope.names.lookup y == some .cell) = true ∨ (compEnvC scope cl C X.env).scope.names.lookup y = some .local := by intro _ _; first | exact .inr rfl | exact .inl rfl)
    (hs : ∀ x, foldedSetIterable iter X.env x = pure x := by intro _; rfl)
    (he : starEach [.SetComp elt [⟨.Name y tpos, iter, [], 0⟩] scope pos2] X.env = (false, eval (.SetComp elt [⟨.Name y tpos, iter, [], 0⟩] scope pos2) X.env) :: starEach [] X.env := by rfl) :
    WE X T G μ (.Call (.Name x p) [.SetComp elt [⟨.Name y tpos, iter, [], 0⟩] scope pos2] [] pos) Q := by
  subst hx
  intro F R H σ hs' he'
  refine ⟨fun pins s I => ?_⟩
  have hl : i < σ.length := by rw [I.len]; exact getEl_lt hi
  exact (wE_of (pe_callB (Sx.cr_sortTS hc hu) hg hm (by decide +kernel) (pa_cons (Sx.pe_tup (own := [(y, i)]) (g := gName i) hc hu hN (piW _ iter) ok (fun s H C cl fp => pg_name (i := i) hN hi (hy C cl) (hf C cl)) peI hs) pa_nil he) (by decide) (by decide) he (by rfl)) (sc_read (n := n) h hl hs' he')).run pins s I
end
end Ws
/-! WS, part W: sorted(xs, key=lambda one: one[0]). -/
namespace Ws
open PySem PySem.Spec PyProof.Rows L2 NdefX
section
variable {prog : Program} {w : World} {A : Around} {s : Shared}
theorem lam_key0 {f c t : Addr} {qual : Str} {od : Option Addr} {sl : Array (Option Value)} {params : Arguments} {scope : Scope} {cl : List (Str × Addr)} {pm ctv : Value} {p1 p2 pos : Pos} {j : Nat} {its : Array Value} {k : Int} {tk : Tok}
    (hd : A.depth < recursionLimit) (lim : s.heap.NoLimit) (ho : s.heap.get? f = some (⟨.type "function", od, .func (PySem.W.kla_fn "<lambda>" qual params (.Subscript (.Name "one" p1) (.Constant (.int 0) j p2) pos) scope cl pm (.ref c) ctv), sl⟩ : Obj))
    (hrec : s.heap.CodeRec (.ref c) qual) (S : NScope ["one"] ["one"] [] scope) (hb : ∀ v : Value, bindArgs (PySem.W.kla_fn "<lambda>" qual params (.Subscript (.Name "one" p1) (.Constant (.int 0) j p2) pos) scope cl pm (.ref c) ctv) ⟨[v], []⟩ = pure [(("one" : Str), v)])
    (hT : IsTup s.heap t its) (hz : its.size ≤ 1000) (hk : its[0]? = some (.int k tk)) : wpAny (model prog w) A (call (.ref f) [.ref t]) (PySem.W.KeyPure (.int k) s) (fun _ _ => False) s := by
  refine wpAny_call (PySem.W.kla_callFunE hd ho rfl S.co S.gen rfl hrec ?_)
  rw [hb]
  refine wpAny_pure (wpAny_newFunctionEnv S.nocell (fun x hx => ?_) (fun h₁ hns hsb => ⟨lim.fresh _ hsb, ?_⟩) S.kind)
  · rw [List.mem_singleton.mp hx]; exact S.par _ List.mem_cons_self
  have kp : ∀ b o, s.heap.get? b = some o → h₁.get? b = some o := fun b o e => hsb.extBut b o (Nat.ne_of_lt (Heap.lt_size e)) (Heap.get?_push_of_some _ e)
  refine PySem.W.kla_codeExpr (Subscript_Constant ?_)
  refine wpAny_Name (wpAny_loadName_local S.kind (S.par _ List.mem_cons_self) hns (by rfl) ?_) (by decide)
  refine wpAny_Constant_int ?_
  refine ⟨"tuple", _, slot_tuple_getitem.lookup, ?_, ?_⟩
  · obtain ⟨o, e1, e2, _⟩ := hT
    exact ⟨o, kp _ _ e1, e2⟩
  · have hT2 : IsTup h₁ t its := by
      obtain ⟨o, e1, e2, e3⟩ := hT
      exact ⟨o, kp _ _ e1, e2, e3⟩
    have h0 : 0 < its.size := (Array.getElem?_eq_some_iff.mp hk).1
    have hln : (its.size : Int) < 2 ^ 63 := by omega
    refine PyProof.Rows.getItem_tuple (j := 0) hT2 (by decide) (by decide) ?_ hk ?_
    · unfold seqIndex?
      simp [h0]
    · exact ⟨h₁, _, rfl, kp, .int _ _⟩
end

/-! ### the rule -/
/-- xs: the list's items, each a tuple whose first is its key -/
def rSortKey (K : PySem.W.Frag) : List V → List V → Hp → VK → Prop := fun vs zs H Q => ∃ (a f : Addr) (L : LamI) (xs : List (Int × V)) (p1 p2 pos : Pos) (j : Nat), vs = [.ref a] ∧ zs = [.ref f] ∧ SqL K H a (xs.map (·.2)) ∧ H f = some (LamO f L) ∧ H L.c = some (LamX.CodeO L.c L.qual) ∧
  L.body = .Subscript (.Name "one" p1) (.Constant (.int 0) j p2) pos ∧ NScope ["one"] ["one"] [] L.scope ∧ (∀ (pm ctv v : Value), bindArgs (PySem.W.kla_fn "<lambda>" L.qual L.params L.body L.scope L.cl pm (.ref L.c) ctv) ⟨[v], []⟩ = pure [(("one" : Str), v)]) ∧
  (∀ x ∈ xs, ∃ t ys, x.2 = .ref t ∧ SqT K H t (.int x.1 :: ys) ∧ ys.length ≤ 900) ∧ ∀ (ys : List (Int × V)) (p : Addr), ys.Perm xs → ys.Pairwise (fun a b => a.1 ≤ b.1) → H p = none → Q (.ref p) (upd H p (.lst (ys.map (·.2))))
theorem each_of {K : PySem.W.Frag} {P : V → Value → Prop} : ∀ {xs : List (Int × V)} {us : List Value}, Vals (xs.map (·.2)) us → PySem.W.EachIs (fun v (b : Int × V) => RelV b.2 v) us xs
  | [], _, r => by cases r; exact .nil
  | x :: xs, _, r => by cases r with | cons h t => exact .cons h (each_of (K := K) (P := P) t)
theorem vals_each : ∀ {xs : List (Int × V)} {us : List Value}, PySem.W.EachIs (fun v (b : Int × V) => RelV b.2 v) us xs → Vals (xs.map (·.2)) us
  | _, _, .nil => .nil
  | _, _, .cons h t => .cons h (vals_each t)
theorem cr_sortKey {X : Cx} (hd : X.A.depth + 5 < recursionLimit) (hu : X.A.units + 64 < cLine) : CallRK X (.builtin "sorted") ["key"] (rSortKey X.K) := by
  intro pins s σ H vs zs us ws Q I r rz h
  obtain ⟨a, f, L, xs, p1, p2, pos, j, rfl, rfl, hs, hf, hc, hb, S, hba, hx, q⟩ := h
  obtain rfl := Vals.ref1 r
  obtain rfl := Vals.ref1 rz
  obtain ⟨its, rv, hl, hz⟩ := I.list hs
  obtain ⟨⟨od, sl, pm, ctv, ho⟩, _⟩ := I.hok f _ hf
  obtain ⟨⟨oc, vsc, t, hoc, hdc, hvc⟩, _, _⟩ := I.hok L.c _ hc
  have e := each_of (K := X.K) (P := fun _ _ => True) rv
  show wpAny _ _ (call (.builtin "sorted") [.ref a] [((Str.ofString "key"), Value.ref f)]) _ _ _
  refine PySem.W.sorted_key_data (b := false) (fun x : Int × V => PyData.int x.1) hl.isList e (PySem.W.AllAlike.of fun _ _ => by simp [PySem.W.alike]) (PySem.W.Sortable.others fun _ => ⟨by simp, by simp⟩) (by rw [List.length_map] at hz; exact hz)
    (fun x _ => by simp only [PyData.depth]; omega) (ksk_s1 _ _) (fun _ => ksk_l1 _ _) (fun _ => ksk_t1 _ _) (fun v x hR hxm h tk kp => ?_) fun out c h' tk kp hn hD hlen eo => ?_
  · obtain ⟨t', ys, ex, hT, hys⟩ := hx x hxm
    rw [ex] at hR
    obtain rfl : v = Value.ref t' := hR
    obtain ⟨its2, rv2, ht2, hz2⟩ := I.tuple hT
    cases rv2 with
    | @cons _ u0 _ us0 r0 rr0 =>
      obtain ⟨tk0, rfl⟩ := r0
      have lim : s.heap.NoLimit := I.nolimit
      have ho' := kp _ _ ho
      rw [hb] at ho'
      have hba' := hba pm ctv
      rw [hb] at hba'
      obtain ⟨o2, g1, g2, g3⟩ := ht2
      refine lam_key0 (s := { s with heap := h, toks := tk }) ?_ (lim.keeps kp) ho' ⟨L.c, oc, vsc, t, rfl, kp _ _ hoc, hdc, hvc⟩ S hba' (its := (Value.int x.1 tk0 :: us0).toArray) ⟨o2, kp _ _ g1, g2, g3⟩ ?_ (tk := tk0) (by rfl)
      · show X.A.depth < recursionLimit; omega
      · have := rr0.length
        simp only [List.size_toArray, List.length_cons]; omega
  · rw [PySem.W.dataLe_int (β := Int × V) (fun x => x.1)] at eo
    have pm1 := List.mergeSort_perm xs (fun a b : Int × V => decide (a.1 ≤ b.1))
    have so := List.pairwise_mergeSort (le := fun a b : Int × V => decide (a.1 ≤ b.1)) (fun a b c h1 h2 => decide_eq_true (Int.le_trans (of_decide_eq_true h1) (of_decide_eq_true h2))) (fun a b => by rw [Bool.or_eq_true, decide_eq_true_eq, decide_eq_true_eq]; exact Int.le_total _ _) xs
    have hl2 : ((xs.mergeSort fun a b : Int × V => decide (a.1 ≤ b.1)).map (·.2)).length ≤ sizeLine := by rw [List.length_map, pm1.length_eq]; rw [List.length_map] at hz; exact hz
    exact ⟨.ref _, upd H (s.heap.objs.size + 1) (.lst ((xs.mergeSort fun a b : Int × V => decide (a.1 ≤ b.1)).map (·.2))), I.laidN (t' := tk) kp hn (I.hok.gone hn) ⟨hl2, out, c, vals_each eo, hD⟩, rfl, q _ _ pm1 (so.imp fun h => by simpa using h) (I.hok.gone hn)⟩
section
variable {X : Cx} {T : TabL} {G : GE} {μ : Mu} {pos lpos kpos p : Pos} {e : Expr} {Q : D → Mu → Prop}
/-- items with keys -/
def keyed (xs : List (Int × List D)) : List D := xs.map fun x => .tup (.int x.1 :: x.2)
theorem keyed_reps {K : PySem.W.Frag} {F : Hp} : ∀ {xs : List (Int × List D)} {vs : List V}, Reps K F (keyed xs) vs → ∃ bs : List ((Int × List D) × V), bs.map (·.1) = xs ∧ bs.map (·.2) = vs ∧ ∀ b ∈ bs, Rep K F (.tup (.int b.1.1 :: b.1.2)) b.2
  | [], _, r => by cases r; exact ⟨[], rfl, rfl, fun b h => by cases h⟩
  | x :: xs, _, r => by
    cases r with
    | cons h t =>
      obtain ⟨bs, e1, e2, e3⟩ := keyed_reps (xs := xs) t
      exact ⟨(x, _) :: bs, by rw [List.map_cons, e1], by rw [List.map_cons, e2], fun b hb => (List.mem_cons.mp hb).elim (fun z => by rw [z]; exact h) (e3 b)⟩
theorem reps_keyed {K : PySem.W.Frag} {F : Hp} : ∀ {bs : List ((Int × List D) × V)}, (∀ b ∈ bs, Rep K F (.tup (.int b.1.1 :: b.1.2)) b.2) → Reps K F (keyed (bs.map (·.1))) (bs.map (·.2))
  | [], _ => .nil
  | b :: bs, h => .cons (h b List.mem_cons_self) (reps_keyed fun c hc => h c (List.mem_cons_of_mem _ hc))
theorem perm_map_back {α β : Type} (g : α → β) : ∀ {ys zs : List β}, ys.Perm zs → ∀ bs : List α, zs = bs.map g → ∃ cs : List α, cs.Perm bs ∧ ys = cs.map g := by
  intro ys zs h
  induction h with
  | nil => intro bs e; exact ⟨bs, List.Perm.refl _, e⟩
  | cons x _ ih =>
    intro bs e
    cases bs with
    | nil => cases e
    | cons b bs =>
      rw [List.map_cons] at e
      obtain ⟨e1, e2⟩ := List.cons.inj e
      obtain ⟨cs, h1, h2⟩ := ih bs e2
      exact ⟨b :: cs, h1.cons b, by rw [List.map_cons, e1, h2]⟩
  | swap x y l =>
    intro bs e
    match bs, e with
    | b :: c :: bs, e =>
      rw [List.map_cons, List.map_cons] at e
      obtain ⟨e1, e2⟩ := List.cons.inj e
      obtain ⟨e3, e4⟩ := List.cons.inj e2
      exact ⟨c :: b :: bs, List.Perm.swap _ _ _, by rw [List.map_cons, List.map_cons, e1, e3, e4]⟩
    | [_], e => simp at e
    | [], e => cases e
  | trans _ _ ih1 ih2 =>
    intro bs e
    obtain ⟨cs, h1, h2⟩ := ih2 bs e
    obtain ⟨ds, h3, h4⟩ := ih1 cs h2
    exact ⟨ds, h3.trans h1, h4⟩
/-- sorted(xs, key=lambda one: one[0]) -/
theorem we_sortedKey {x : Str} {params : Arguments} {body : Expr} {scope : Scope} {p1 p2 bpos : Pos} {j : Nat} (hx : x = "sorted") (hm : X.mg "sorted" = none) (hd : X.A.depth + 5 < recursionLimit) (hu : X.A.units + 64 < cLine) (hb : body = .Subscript (.Name "one" p1) (.Constant (.int 0) j p2) bpos) (S : NScope ["one"] ["one"] [] scope)
    (hba : ∀ (q : Str) (cl : List (Str × Addr)) (pm cc ctv v : Value), bindArgs (PySem.W.kla_fn "<lambda>" q params body scope cl pm cc ctv) ⟨[v], []⟩ = pure [(("one" : Str), v)])
    (h : WE X T G μ e fun d μ1 => ∃ xs : List (Int × List D), SqLi μ1 d (keyed xs) ∧ (∀ x ∈ xs, x.2.length ≤ 900) ∧ WE X T G μ1 (.Lambda params body scope lpos) fun d2 μ2 => ∃ cl q c, d2 = .lam ⟨params, body, scope, cl, q, c⟩ ∧ SqLi μ2 d (keyed xs) ∧ ∀ ys : List (Int × List D), ys.Perm xs → ys.Pairwise (fun a b => a.1 ≤ b.1) → Q (.lst (keyed ys)) μ2)
    (hg : Gl X "sorted" := by rfl)
    (he : backTo pos (starEach [e] X.env) = (false, eval e X.env) :: backTo pos (starEach [] X.env) := by rfl) (hpl : (backTo pos (starEach [e] X.env)).any (·.1) = false := by rfl) (he' : starEach [e] X.env = (false, eval e X.env) :: starEach [] X.env := by rfl)
    (hall : (backToKw pos (keywordEach [⟨some "key", .Lambda params body scope lpos, kpos⟩] X.env)).all (·.1.isSome) = true := by rfl) (hnone : (backToKw pos (keywordEach [⟨some "key", .Lambda params body scope lpos, kpos⟩] X.env)).any (·.1.isNone) = false := by rfl) (hks : (backToKw pos (keywordEach [⟨some "key", .Lambda params body scope lpos, kpos⟩] X.env)).filterMap (·.1) = ([("key" : Str)] : List Str) := by rfl) :
    WE X T G μ (.Call (.Name x p) [e] [⟨some "key", .Lambda params body scope lpos, kpos⟩] pos) Q := by
  subst hx
  refine WE.of (pe_callBK (cr_sortKey hd hu) hg hm (by decide +kernel) (pa_cons (peW e) pa_nil he') (pk_cons (peW _) pk_nil) (by decide) (by decide) he hpl hall hnone hks) fun F R H σ hs hv => ?_
  refine wE_mono (h F R H σ hs hv) fun v H1 ⟨F1, d, μ1, hs1, s1, r1, xs, sq, hlen, h1⟩ => wE_mono (h1 F1 R H1 σ hs1 (hv.mono s1)) fun v2 H2 ⟨F2, d2, μ2, hs2, s2, r2, cl, q, c, e2, sq2, hq⟩ => ?_
  subst e2
  cases r2 with
  | @lam f _ hf hc =>
    obtain ⟨a, vs, rfl, hH, rr⟩ := sq2.at hs2 (r1.mono s2)
    obtain ⟨bs, b1, b2, b3⟩ := keyed_reps rr
    refine ⟨a, f, _, bs.map (fun b => (b.1.1, b.2)), p1, p2, bpos, j, rfl, rfl, ?_, hs2.f _ _ hf, hs2.f _ _ hc, hb, S, fun pm ctv v => hba _ _ pm _ ctv v, fun x hx => ?_, fun ys p hp hs n => ?_⟩
    · rw [List.map_map]
      have : (fun b : (Int × List D) × V => b.2) = (fun x : Int × V => x.2) ∘ fun b : (Int × List D) × V => (b.1.1, b.2) := rfl
      rw [← this, b2]; exact .of hH
    · obtain ⟨b, hbm, rfl⟩ := List.mem_map.mp hx
      have rb := b3 b hbm
      generalize b.2 = vb at rb ⊢
      cases rb with
      | tup ht rt =>
        cases rt with
        | cons r0 rt =>
          cases r0
          refine ⟨_, _, rfl, hs2.tupF ht, ?_⟩
          rw [← rt.length]
          exact hlen b.1 (by rw [← b1]; exact List.mem_map.mpr ⟨b, hbm, rfl⟩)
    · obtain ⟨cs, c1, rfl⟩ := perm_map_back (fun b : (Int × List D) × V => (b.1.1, b.2)) hp bs rfl
      have e1 : (cs.map fun b => (b.1.1, b.2)).map (·.2) = cs.map (·.2) := by rw [List.map_map]; rfl
      rw [e1]
      refine ((fin_lst hs2 n (reps_keyed fun b hbm => b3 b (c1.mem_iff.mp hbm)) (hq (cs.map (·.1)) (by rw [← b1]; exact c1.map _) ?_)).back s2).back s1
      rw [List.pairwise_map] at hs ⊢
      exact hs
end
end Ws
/-! WS, part X: dict comprehensions. -/
namespace Ws
open PySem PyProof.Rows PySem.Spec L2

section
variable {T : TabL} {μ : Mu}
theorem frame_setH {K : PySem.W.Frag} {F R H : Hp} {D : Addr} {o o' : HO} (hs : Hs K T F μ (upd R D o) H) (hT : T.rb D = none) (h1 : ∀ ps, o ≠ .tbl ps) (h2 : ∀ c q, o ≠ LamX.CodeO c q) (h1' : ∀ ps, o' ≠ .tbl ps) (h2' : ∀ c q, o' ≠ LamX.CodeO c q) : Hs K T F μ (upd R D o') (upd H D o') := by
  have nF : F D = none := (hs.fr D).resolve_right (by rw [upd_same]; simp)
  have nM : μ D = none := (hs.mr D).resolve_right (by rw [upd_same]; simp)
  have hD : H D = some o := hs.r D _ upd_same
  refine ⟨fun b u q => ?_, fun b u q => ?_, fun b u q => ?_, hs.fm, fun b => ?_, fun b => ?_, tabs_upd hs.tb hD h1 h2, hs.ntF, fun b u q => (by
    by_cases hb : b = D
    · subst hb; rw [upd_same] at q; cases q; exact ⟨h1', h2'⟩
    · rw [upd_ne hb] at q; exact hs.ntR b u (by rw [upd_ne hb]; exact q)), hs.lb, fun b u q => (by
    have hb : b ≠ D := by rintro rfl; rw [hT] at q; cases q
    have z := hs.rb b u q
    rw [upd_ne hb] at z ⊢; exact z)⟩
  · rw [upd_ne (by rintro rfl; rw [nF] at q; cases q)]; exact hs.f b u q
  · obtain ⟨z, e, r⟩ := hs.m b u q
    exact ⟨z, by rw [upd_ne (by rintro rfl; rw [nM] at q; cases q)]; exact e, r⟩
  · by_cases hb : b = D
    · subst hb; rw [upd_same] at q ⊢; exact q
    · rw [upd_ne hb] at q ⊢; exact hs.r b u (by rw [upd_ne hb]; exact q)
  · by_cases hb : b = D
    · subst hb; exact .inl nF
    · have := hs.fr b; rw [upd_ne hb] at this ⊢; exact this
  · by_cases hb : b = D
    · subst hb; exact .inl nM
    · have := hs.mr b; rw [upd_ne hb] at this ⊢; exact this
end
/-- a comprehension's target, in whichever block -/
def gTgt (X : Cx) (scope : Scope) (tg : Expr) : TG := fun v σ H Q => ∀ (s0 : Shared) (H0 : Hp) (C : Addr) (cl : List (Str × Addr)) (fp : List Addr), wG (X.blk s0 H0 scope (compEnvC scope cl C X.env) fp) tg v σ H Q
theorem pgI {X : Cx} {scope : Scope} {tg : Expr} (s0 : Shared) (H0 : Hp) (C : Addr) (cl : List (Str × Addr)) (fp : List Addr) : PG (X.blk s0 H0 scope (compEnvC scope cl C X.env) fp) tg (gTgt X scope tg) := ⟨fun pins s σ H v u Q I r h => (h s0 H0 C cl fp).run pins s u I r⟩
theorem wipe_same {vs : List Nat} {σ σ' : L2.St} (h : SameOff vs σ σ') : wipe σ' vs = wipe σ vs := by
  have key : ∀ (vs : List Nat) (σ : L2.St) (j : Nat), (wipe σ vs)[j]? = if j ∈ vs then (if j < σ.length then some none else none) else σ[j]? := by
    intro vs
    induction vs with
    | nil => intro σ j; simp [wipe]
    | cons v vs ih =>
      intro σ j
      show ((wipe σ vs).set v none)[j]? = _
      by_cases e : v = j
      · subst e
        by_cases hl : v < σ.length
        · rw [List.getElem?_set_self (by rw [wipe_length]; exact hl), if_pos List.mem_cons_self, if_pos hl]
        · rw [List.getElem?_eq_none (by rw [List.length_set, wipe_length]; omega), if_pos List.mem_cons_self, if_neg hl]
      · rw [List.getElem?_set_ne e, ih]
        have : (j ∈ v :: vs) ↔ j ∈ vs := ⟨fun z => (List.mem_cons.mp z).resolve_left fun q => e q.symm, List.mem_cons_of_mem _⟩
        by_cases hm : j ∈ vs
        · rw [if_pos hm, if_pos (this.mpr hm)]
        · rw [if_neg hm, if_neg (fun z => hm (this.mp z))]
  refine List.ext_getElem? fun j => ?_
  rw [key, key, h.1]
  split
  · rfl
  · rename_i hm; exact h.2 j hm
theorem wipe_wipe (vs : List Nat) (σ : L2.St) : wipe (wipe σ vs) vs = wipe σ vs := wipe_same ⟨wipe_length σ vs, fun j h => wipe_out h⟩
/-- what a dict comprehension owes -/
def DcOk (X : Cx) (T : TabL) (G : GE) (scope : Scope) (tg kx vx : Expr) (ks : List Nat) (Q : List (Key × D) → Mu → Prop) (ds : List D) (μ1 : Mu) : Prop :=
  ∃ P : Nat → List (Key × D) → Mu → Prop, P 0 [] μ1 ∧
    (∀ (j : Nat) (d : D) (acc : List (Key × D)) (μ' : Mu), ds[j]? = some d → P j acc μ' → acc.length ≤ j → ∀ (s : Shared) (H : Hp) (C : Addr) (cl : List (Str × Addr)) (fp : List Addr),
      WG (X.blk s H scope (compEnvC scope cl C X.env) fp) T G μ' tg ks d fun G2 μ2 => ∀ (s : Shared) (H : Hp) (C : Addr) (cl : List (Str × Addr)) (fp : List Addr), WE (X.blk s H scope (compEnvC scope cl C X.env) fp) T G2 μ2 kx fun kd μ3 => ∃ k, kd = kD k ∧
        ∀ (s : Shared) (H : Hp) (C : Addr) (cl : List (Str × Addr)) (fp : List Addr), WE (X.blk s H scope (compEnvC scope cl C X.env) fp) T G2 μ3 vx fun vd μ4 => P (j + 1) (putD acc k vd) μ4 ∧ (putD acc k vd).length ≤ j + 1) ∧
    ∀ acc μ', P ds.length acc μ' → Q acc μ'
section
variable {X : Cx} {T : TabL} {G : GE} {μ : Mu} {pos : Pos} {tg kx vx iter : Expr} {Q : D → Mu → Prop} {scope : Scope} {own : List (Str × Nat)}
theorem dK_tbl {ps : List (Key × V)} (qs : Array Value) : HO.dK ps ≠ .tbl qs := fun z => by cases z
theorem dK_code {ps : List (Key × V)} (c : Addr) (q : Str) : HO.dK ps ≠ LamX.CodeO c q := fun z => by unfold LamX.CodeO at z; cases z
theorem we_dcM (hN : X.N.Nodup) (hc : X.calm = true) (ok : BlkOk X.N X.env.scope scope own) (hG : ∀ i ∈ own.map (·.2), ∀ d, G[i]? ≠ some (some d))
    (h : WI X T G μ tg iter (DcOk X T G scope tg kx vx (own.map (·.2)) fun kvs μ1 => ∀ l, μ1 l = none → Q (.ref l) (mset μ1 l (.md kvs))))
    (hs : ∀ x, foldedSetIterable iter X.env x = pure x := by intro _; rfl) : WE X T G μ (.DictComp kx vx [⟨tg, iter, [], 0⟩] scope pos) Q := by
  intro F R H σ hs' he
  refine wE_of (pe_dc (g := gTgt X scope tg) (tt := fun σ H Q => Q true H) hc hN (piW tg iter) ok pgI (fun _ _ _ _ _ => pts_nil) peI peI hs) (wI_mono (h F R H σ hs' he) fun J H1 ⟨F1, μ1, ds, hs1, s1, it, hz, PP, p0, step, done⟩ => ?_)
  intro D hD
  have nR : R D = none := hs1.noR hD
  have nT : T.rb D = none := hs1.rb.free nR
  have heW : EnvR X.K F1 G (wipe σ (own.map (·.2))) := fun i d e => by
    have hi : i ∉ own.map (·.2) := fun z => hG i z d e
    obtain ⟨v, e1, e2⟩ := (he.mono s1) i d e
    exact ⟨v, by rw [wipe_out hi]; exact e1, e2⟩
  refine ⟨fun j m H => m = ds.length - j ∧ j ≤ ds.length ∧ ∃ F' μ' acc ps, Hs X.K T F' μ' (upd R D (.dK ps)) H ∧ Same F1 F' ∧ RepK X.K F' acc ps ∧ acc.length ≤ j ∧ PP j acc μ', ⟨_, rfl, Nat.zero_le _, F1, μ1, [], [], frame_new hs1 hD, Same.refl _, .nil, Nat.le_refl _, p0⟩, ?_⟩
  rintro j m H3 ⟨rfl, hj, F', μ', acc, ps, hs3, s3, r3, hlen, hP⟩
  obtain ⟨go, stop, yld⟩ := it F' μ' _ H3 s3 hs3
  by_cases hlt : j < ds.length
  · refine .inr ⟨go j hlt, fun H' => ∃ F'' μ'' acc' ps', Hs X.K T F'' μ'' (upd R D (.dK ps')) H' ∧ Same F1 F'' ∧ RepK X.K F'' acc' ps' ∧ acc'.length ≤ j + 1 ∧ PP (j + 1) acc' μ'', fun H' ⟨F'', μ'', acc', ps', a, b, c, d, e⟩ => ⟨ds.length - (j + 1), by omega, rfl, hlt, F'', μ'', acc', ps', a, b, c, d, e⟩, fun x H4 y => ?_⟩
    have ed : ds[j]? = some ds[j] := by simp [hlt]
    obtain ⟨F4, hs4, s4, r4⟩ := yld j _ x H4 ed y
    intro s0 H0 C cl fp
    have q := step j _ acc μ' ed hP hlen s0 H0 C cl fp F4 (upd R D (.dK ps)) H4 (wipe σ (own.map (·.2))) x hs4 (heW.mono (s3.trans s4)) r4
    refine wG_mono q fun σ2 H2 ⟨so, F5, G5, μ5, hs5, s5, he5, q5⟩ => ?_
    refine ⟨by rw [wipe_same so, wipe_wipe], ?_⟩
    show (if true = true then _ else _)
    rw [if_pos rfl]
    intro s0 H0 C cl fp
    refine wE_mono (q5 s0 H0 C cl fp F5 _ H2 σ2 hs5 he5) fun ky H6 ⟨F6, d6, μ6, hs6, s6, r6, k, ek, q6⟩ => ?_
    subst ek
    have ekv := rep_key r6
    intro s0 H0 C cl fp
    refine wE_mono (q6 s0 H0 C cl fp F6 _ H6 σ2 hs6 (he5.mono s6)) fun z H7 ⟨F7, d7, μ7, hs7, s7, r7, q7, hl7⟩ => ?_
    refine ⟨ps, k, ekv, hs7.r D _ upd_same, by rw [← r3.length]; omega, F7, μ7, putD acc k d7, putK ps k z, frame_setH hs7 nT dK_tbl dK_code dK_tbl dK_code, ((((s3.trans s4).trans s5).trans s6).trans s7), (r3.mono (((s4.trans s5).trans s6).trans s7)).put r7 k, hl7, q7⟩
  · have e : j = ds.length := by omega
    subst e
    have nM : μ' D = none := (hs3.mr D).resolve_right (by rw [upd_same]; simp)
    refine .inl ⟨stop, F', .ref D, _, ?_, s1.trans s3, .ref D, done acc μ' hP D nM⟩
    have := frame_md hs3 nR nT (MRep.md r3) dK_tbl dK_code
    have eu : upd H3 D (.dK ps) = H3 := by
      funext b
      by_cases hb : b = D
      · subst hb; rw [upd_same, hs3.r _ _ upd_same]
      · rw [upd_ne hb]
    rw [eu] at this; exact this
end
end Ws
/-! WS, part Y: fields written, things made, what changed within a thing fixed. -/
namespace Ws
open PySem PyProof.Rows PySem.Spec L2

def putFr (f : Str) (v : D) : List (Str × D) → List (Str × D)
  | [] => [(f, v)]
  | (g, x) :: r => if g = f then (g, v) :: r else (g, x) :: putFr f v r
theorem RepF.put {K : PySem.W.Frag} {F : Hp} {f : Str} {d : D} {v : V} (r : Rep K F d v) : ∀ {ds : List (Str × D)} {vs : List (Str × V)}, RepF K F ds vs → RepF K F (putFr f d ds) (putF f v vs)
  | _, _, .nil => .cons r .nil
  | (k, e) :: ds, _, .cons h t => by
    unfold putFr putF
    by_cases z : k = f
    · rw [if_pos z, if_pos z]; exact .cons r t
    · rw [if_neg z, if_neg z]; exact .cons h (RepF.put r t)
theorem RepF.length {K : PySem.W.Frag} {F : Hp} : ∀ {ds : List (Str × D)} {vs : List (Str × V)}, RepF K F ds vs → ds.length = vs.length
  | _, _, .nil => rfl
  | _, _, .cons _ t => congrArg Nat.succ (RepF.length t)
section
variable {X : Cx} {T : TabL} {G : GE} {μ : Mu} {pos pos' : Pos} {o value : Expr} {E : DE}
/-- o.f = value -/
theorem ws_fld {f : Str} (h : WE X T G μ value fun d μ1 => WE X T G μ1 o fun d0 μ2 => ∃ a C dx fs, d0 = .ref a ∧ μ2 a = some (.mi C dx fs) ∧ Cls X.K C ∧ NoAttr X.K C f ∧ fs.length < 1000 ∧ E.nx G (mset μ2 a (.mi C dx (putFr f d fs))))
    (hs : swapsWith value (some (.Attribute o f pos')) pos.line X.env = pure false := by rfl) : WS X T G μ (.Assign [.Attribute o f pos'] value pos) E :=
  WS.of (ps_fld (peW o) (peW value) hs) fun F R H σ hs he => wE_mono (h F R H σ hs he) fun v H1 ⟨F1, d, μ1, hs1, s1, r1, h1⟩ => wE_mono (h1 F1 R H1 σ hs1 (he.mono s1)) fun v2 H2 ⟨F2, d0, μ2, hs2, s2, r2, a, C, dx, fs, e0, em, hc, hn, hl, q⟩ => by
    subst e0; cases r2
    obtain ⟨gs, eh, rr⟩ := hs2.mi em
    exact ⟨a, C, dx, gs, rfl, eh, hc, hn, by rw [← rr.length]; exact hl, F2, G, _, hs2.write em (.mi (rr.put (r1.mono s2))), s1.trans s2, he.mono (s1.trans s2), q⟩
variable {sts : List Stmt}
theorem putK_same : ∀ {ps : List (Key × V)} {k : Key} {v : V}, (ps.map (·.1)).Nodup → valV ps k = some v → (ps.map fun kv => if kv.1 = k then (kv.1, v) else kv) = ps ∧ (ps.any fun kv => decide (kv.1 = k)) = true
  | [], _, _, _, h => by unfold valV at h; simp at h
  | p :: ps, k, v, hn, h => by
    rw [List.map_cons] at hn
    have nd := List.nodup_cons.mp hn
    unfold valV at h
    rw [List.find?_cons] at h
    by_cases e : p.1 = k
    · have e' : decide (p.1 = k) = true := decide_eq_true e
      rw [e'] at h
      have hv : p.2 = v := Option.some.inj h
      refine ⟨?_, by rw [List.any_cons, e']; rfl⟩
      rw [List.map_cons, if_pos e]
      have : (ps.map fun kv => if kv.1 = k then (kv.1, v) else kv) = ps := by
        conv => rhs; rw [← List.map_id ps]
        refine List.map_congr_left fun q hq => ?_
        rw [if_neg (fun z => nd.1 (by rw [e, ← z]; exact List.mem_map.mpr ⟨q, hq, rfl⟩))]; rfl
      rw [this, ← hv]
    · have e' : decide (p.1 = k) = false := decide_eq_false e
      rw [e'] at h
      obtain ⟨h1, h2⟩ := putK_same (ps := ps) (k := k) (v := v) nd.2 h
      exact ⟨by rw [List.map_cons, if_neg e, h1], by rw [List.any_cons, h2]; simp⟩
/-- a list that changed, held by a dict that changes, is fixed from here on -/
theorem wss_fixV {l D0 : Addr} {k : Key} {xs : List D} {kvs : List (Key × D)} (em : μ D0 = some (.md kvs)) (el : μ l = some (.ml xs)) (hk : valD kvs k = some (.ref l)) (hnd : (kvs.map (·.1)).Nodup) (h : WSs X T G (mdel (mset μ D0 (.md (putD kvs k (.lst xs)))) l) sts E) : WSs X T G μ sts E := fun F R H σ hs he => by
  have hne : D0 ≠ l := by rintro rfl; rw [em] at el; cases el
  obtain ⟨o, e1, mr, nF, hs2⟩ := hs.freeze el
  cases mr with
  | @ml _ vs rr =>
    have sm := same_upd (o := HO.lst vs) nF
    obtain ⟨ps, eh, rk⟩ := hs.md em
    have em2 : mdel μ l D0 = some (.md kvs) := by rw [mdel_ne hne]; exact em
    obtain ⟨ps', eh', rk'⟩ := hs2.md em2
    rw [eh] at eh'; cases eh'
    have rk2 : RepK X.K (upd F l (.lst vs)) (putD kvs k (.lst xs)) ps := by
      rcases rk'.val k with ⟨z, _⟩ | ⟨d, v, z1, z2, z3⟩
      · rw [z] at hk; cases hk
      · rw [z1] at hk; cases hk
        cases z3
        have := rk'.put (d := .lst xs) (v := .ref l) (.lst upd_same (rr.mono sm)) k
        have ep : putK ps k (.ref l) = ps := by
          obtain ⟨a1, a2⟩ := putK_same (by rw [rk.keys]; exact hnd) z2
          unfold putK
          rw [if_pos a2, a1]
        rw [ep] at this; exact this
    have hs3 := hs2.write (o' := .dK ps) em2 (.md rk2)
    have eu : upd H D0 (.dK ps) = H := by
      funext b
      by_cases hb : b = D0
      · subst hb; rw [upd_same, eh]
      · rw [upd_ne hb]
    rw [eu] at hs3
    have emu : mset (mdel μ l) D0 (.md (putD kvs k (.lst xs))) = mdel (mset μ D0 (.md (putD kvs k (.lst xs)))) l := by
      funext b
      unfold mset mdel
      by_cases hb : b = D0
      · subst hb; simp [hne]
      · simp [hb]
    rw [emu] at hs3
    exact wSs_mono (h _ R H σ hs3 (he.mono sm)) (endsD.back sm)
/-- a dict that changed, a field of a thing, is fixed from here on -/
theorem RepF.fixF {K : PySem.W.Frag} {F : Hp} {l : Addr} {d : D} (r : Rep K F d (.ref l)) (x : Str) : ∀ {ds : List (Str × D)} {vs : List (Str × V)}, RepF K F ds vs → ds.lookup x = some (.ref l) → RepF K F (putFr x d ds) vs
  | _, _, .nil, h => by cases h
  | (k, e) :: ds, _, .cons rr t, h => by
    unfold putFr
    by_cases z : k = x
    · rw [if_pos z]
      have : e = .ref l := by subst z; simpa [List.lookup] using h
      subst this
      cases rr
      exact .cons r t
    · rw [if_neg z]
      have hx : (x == k) = false := by simpa using fun q => z q.symm
      exact .cons rr (RepF.fixF r x t (by simpa [List.lookup, hx] using h))
theorem wss_fixF {l A0 C dx : Addr} {x : Str} {kvs : List (Key × D)} {fs : List (Str × D)} (em : μ A0 = some (.mi C dx fs)) (el : μ l = some (.md kvs)) (hx : fs.lookup x = some (.ref l)) (h : WSs X T G (mdel (mset μ A0 (.mi C dx (putFr x (.dic kvs) fs))) l) sts E) : WSs X T G μ sts E := fun F R H σ hs he => wSs.mk fun pins s I => by
  have hne : A0 ≠ l := by rintro rfl; rw [em] at el; cases el
  obtain ⟨ps, e1, rr⟩ := hs.md el
  obtain ⟨od, J2⟩ := I.lock e1 trivial
  obtain ⟨nF, hs2⟩ := hs.freezeD (od := od) el e1 rr
  have sm := same_upd (o := HO.frz od (.dK ps)) nF
  have em2 : mdel μ l A0 = some (.mi C dx fs) := by rw [mdel_ne hne]; exact em
  obtain ⟨gs, eh, rf⟩ := hs2.mi em2
  have hs3 := hs2.write (o' := .ins C dx gs) em2 (.mi (rf.fixF (.dic upd_same (rr.mono sm)) x hx))
  have eu : ∀ (H : Hp), H A0 = some (.ins C dx gs) → upd H A0 (.ins C dx gs) = H := fun H eh => by
    funext b
    by_cases hb : b = A0
    · subst hb; rw [upd_same, eh]
    · rw [upd_ne hb]
  rw [eu _ eh] at hs3
  have emu : mset (mdel μ l) A0 (.mi C dx (putFr x (.dic kvs) fs)) = mdel (mset μ A0 (.mi C dx (putFr x (.dic kvs) fs))) l := by
    funext b
    unfold mset mdel
    by_cases hb : b = A0
    · subst hb; simp [hne]
    · simp [hb]
  rw [emu] at hs3
  exact (wSs_mono (h _ R _ σ hs3 (he.mono sm)) (endsD.back sm)).run pins s J2
end
end Ws
/-! D11: answer, answer_by. -/
namespace Ws
open PySem PyProof.Rows PySem.Spec L2
section
variable {P : Program} {w : World} {K : PySem.W.Frag} {mg : Str → Option Value} {base : Heap} {T : TabS} {f C NP : Addr} {fd : FuncData}
/-- the sorted answers whose members are ts -/
def AnsOf (ts : List (List Int)) (ys : List (List Int)) : Prop := ys.Pairwise (fun a b => ltL a b = true) ∧ ∀ t, t ∈ ys ↔ t ∈ ts
theorem sc31 : FnScope ["web", "question", "at"] ["web", "question"] (defScope (top 31)) := ⟨rfl, rfl, rfl, by decide +kernel, rfl, by decide +kernel, by decide +kernel⟩
def S_answer (C : Addr) : DSp := fun ds μ Q => ∃ d W shown rs ys0, ds = [d, dQ shown rs] ∧ WebAt C μ d W ∧ WbOk W ∧ QOk shown rs ∧ FewK W rs ∧ ys0.Perm (varsIn (outer rs)) ∧ ∀ ys, AnsOf ((allB W rs ys0).map (shownOf shown)) ys → Q (.lst (ys.map tupI)) μ
theorem allB_any {W : Wb} {rs : List Row} {ys zs : List Str} (h1 : ys.Perm (varsIn (outer rs))) (h2 : zs.Perm (varsIn (outer rs))) (shown : List Str) (t : List Int) : t ∈ (allB W rs ys).map (shownOf shown) ↔ t ∈ (allB W rs zs).map (shownOf shown) := by
  have key : ∀ {ys zs : List Str}, ys.Perm (varsIn (outer rs)) → zs.Perm (varsIn (outer rs)) → t ∈ (allB W rs ys).map (shownOf shown) → t ∈ (allB W rs zs).map (shownOf shown) := by
    intro ys zs h1 h2 h
    obtain ⟨b, hb, rfl⟩ := List.mem_map.mp h
    obtain ⟨k1, k2, k3⟩ := (allB_iff h1 b).mp hb
    obtain ⟨c, c1, c2, c3⟩ := reorder k2 (V := zs) fun x => by rw [k1, h1.mem_iff, h2.mem_iff]
    refine List.mem_map.mpr ⟨c, (allB_iff h2 c).mpr ⟨c1, c2, fun r hr => (holdsR_agree fun x _ => c3 x).trans (k3 r hr)⟩, ?_⟩
    unfold shownOf
    refine List.map_congr_left fun x _ => ?_
    unfold valB; rw [c3 x]
  exact ⟨key h1 h2, key h2 h1⟩
theorem allB_few {W : Wb} {rs : List Row} {shown : List Str} (qok : QOk shown rs) (fk : FewK W rs) {ys : List Str} (hy : ys.Perm (varsIn (outer rs))) {l : List (List Int)} (hn : l.Nodup) (hl : ∀ t ∈ l, t ∈ (allB W rs ys).map (shownOf shown)) : l.length ≤ 81 :=
  Nat.le_trans (shown_few (V := varsIn (outer rs)) qok.sub (fun t ht => by
    obtain ⟨b, hb, rfl⟩ := List.mem_map.mp ht
    obtain ⟨h1, h2, _⟩ := (allB_iff hy b).mp hb
    exact ⟨b, h2, fun x hx => has_mem.mpr (by rw [h1]; exact hy.mem_iff.mpr hx), rfl⟩) hn hl) fk
theorem d_answer (fr : Free mg) (hA : DefAt P w K mg base T 13 "all_bindings" (S_allB C)) (hSh : DefAt P w K mg base T 1 "shown_of" S_shown) (F : FnP K "answer" (top 31) f fd) (g : mg "answer" = some (.ref f)) : DefAt P w K mg base T 14 "answer" (S_answer C) := by
  refine defAt_of F g (ps := ["web", "question"]) (fun _ _ _ _ _ _ us hl => match us, hl with | [_, _], _ => rfl) (fn_okD F sc31 (fun ds μ Q ⟨_, _, _, _, _, h, _⟩ => by rw [h]; rfl) fun cdv A outer0 s H E ds μ Q hr ⟨d, W, sh, rs, ys0, e, ⟨a, dx, ed, em⟩, ok, qok, fk, hy0, q⟩ => ?_)
  subst e ed
  refine wss_one (ws_ret (we_sortedSC 2 sh.length rfl fr.sorted rfl sc31.nd hr.units (blkOk_by (by kernel_rfl)) (wi_seq (we_call hA hr (wa_cons (we_var 0 rfl (wa_two (we_var 1 rfl (we_dict0 ⟨_, W, sh, rs, rfl, ⟨a, dx, rfl, em⟩, ok, qok, fun ys hy => ⟨_, .lst, fun hz => ?_⟩⟩)))))))))
  refine ⟨(allB W rs ys).map (shownOf sh), by rw [List.length_map, List.length_map], fun t ht => ?_, fun l hn hl => allB_few qok fk hy hn hl, fun j d t ed et s H C cl fp => ?_, fun zs h1 h2 => q zs ⟨h1, fun t => (h2 t).trans (allB_any hy hy0 sh t)⟩⟩
  · obtain ⟨b, _, rfl⟩ := List.mem_map.mp ht
    unfold shownOf; rw [List.length_map]
  · rw [List.getElem?_map] at ed et
    cases eb : (allB W rs ys)[j]? with
    | none => rw [eb] at ed; cases ed
    | some b =>
      rw [eb] at ed et; cases ed; cases et
      obtain ⟨h1, h2, _⟩ := (allB_iff hy b).mp (List.mem_of_getElem? eb)
      exact we_call hSh hr (wa_two (we_var 1 rfl (we_var 2 rfl ⟨sh, rs, b, rfl, fun x hx => has_mem.mpr (by rw [h1]; exact hy.mem_iff.mpr (qok.sub x hx)), rfl, rfl⟩)))
/-! ### answer_by -/
def stepsV (gK gT gL : Addr) (k : Str) : Option D :=
  if k = "knot" then some (.ref gK) else if k = "any" then some (.ref gK) else if k = "tie" then some (.ref gT) else if k = "way" then some (.ref gT) else
  if k = "holds" then some (.ref gL) else if k = "unlike" then some (.ref gL) else if k = "no" then some (.ref gL) else none
/-- a step of the row r, whichever def it is -/
def S_stepR (C : Addr) (r : Row) : DSp := fun ds μ Q => ∃ d W b, ds = [d, dRow r, dB b] ∧ StepOk C μ d W r b ∧ b.length ≤ 600 ∧ (r.isB = false → ∀ p, r = .p p → ∀ x ∈ p.vs, hasV b x = true) ∧ Q (.lst ((stepR W r b).map dB)) μ
def pT : Bind → Str → Bool := fun _ _ => true
theorem held_imp {k j : Nat} {g : Addr} {S S' : DSp} (h : Held P w K mg base k g (SpD K T S)) (hk : k ≤ j) (m : ∀ ds μ Q, S' ds μ Q → S ds μ Q) : Held P w K mg base j g (SpD K T S') :=
  let ⟨fd, ps, F, a, b⟩ := h.ex
  ⟨fd, ps, (F.imp fun vs H Q E ⟨F, μ, R, ds, P, h1, h2, h3, h4⟩ => ⟨F, μ, R, ds, P, h1, h2, m _ _ _ h3, h4⟩).mono hk, a, b⟩
theorem step_held {gK gT gL : Addr} (eK : mg "by_knots" = some (.ref gK)) (eT : mg "by_ties" = some (.ref gT)) (eL : mg "by_looks" = some (.ref gL)) (hK : DefAt P w K mg base T 13 "by_knots" (S_byK C)) (hT : DefAt P w K mg base T 15 "by_ties" (S_byT C pT 650)) (hL : DefAt P w K mg base T 13 "by_looks" (S_looks C)) (r : Row) (hr : r.fine) :
    ∃ g, stepsV gK gT gL r.kd = some (.ref g) ∧ Held P w K mg base 15 g (SpD K T (S_stepR C r)) := by
  obtain ⟨g1, a1, b1⟩ := hK.held
  obtain ⟨g2, a2, b2⟩ := hT.held
  obtain ⟨g3, a3, b3⟩ := hL.held
  rw [eK] at a1; cases a1
  rw [eT] at a2; cases a2
  rw [eL] at a3; cases a3
  cases r with
  | no rs => exact ⟨gL, rfl, held_imp b3 (by decide) fun ds μ Q ⟨d, W, b, h1, h2, h3, h4, h5⟩ => ⟨d, W, _, b, h1, h2, fun p e => (by cases e), h5⟩⟩
  | p r =>
    cases r with
    | knot v k => exact ⟨gK, rfl, held_imp b1 (by decide) fun ds μ Q ⟨d, W, b, h1, h2, h3, h4, h5⟩ => ⟨d, W, .knot v k, v, b, h1, h2, rfl, h5⟩⟩
    | any v => exact ⟨gK, rfl, held_imp b1 (by decide) fun ds μ Q ⟨d, W, b, h1, h2, h3, h4, h5⟩ => ⟨d, W, .any v, v, b, h1, h2, rfl, h5⟩⟩
    | holds v n w' o => exact ⟨gL, rfl, held_imp b3 (by decide) fun ds μ Q ⟨d, W, b, h1, h2, h3, h4, h5⟩ => ⟨d, W, _, b, h1, h2, h4 rfl, h5⟩⟩
    | unlike v u => exact ⟨gL, rfl, held_imp b3 (by decide) fun ds μ Q ⟨d, W, b, h1, h2, h3, h4, h5⟩ => ⟨d, W, _, b, h1, h2, h4 rfl, h5⟩⟩
    | tie v k u => exact ⟨gT, rfl, held_imp b2 (by decide) fun ds μ Q ⟨d, W, b, h1, h2, h3, h4, h5⟩ => ⟨d, W, .tie v k u, v, k, u, 1, b, h1, h2, .tie v k u, by omega, rfl, h5⟩⟩
    | way v k u m =>
      have hm : 0 ≤ m ∧ m ≤ 4 := hr
      obtain ⟨n, rfl⟩ : ∃ n : Nat, m = n := ⟨m.toNat, by omega⟩
      exact ⟨gT, rfl, held_imp b2 (by decide) fun ds μ Q ⟨d, W, b, h1, h2, h3, h4, h5⟩ => ⟨d, W, .way v k u n, v, k, u, n, b, h1, h2, .way v k u n (by omega), by omega, rfl, h5⟩⟩
theorem sc45 : FnScope ["web", "question", "order", "found", "at", "row", "step", "here", "more"] ["web", "question", "order"] (defScope (top 45)) := ⟨rfl, rfl, rfl, by decide +kernel, rfl, by decide +kernel, by decide +kernel⟩
def S_ansBy (C : Addr) : DSpX := fun ds μ Q PE => ∃ d W shown rs od ys0, ds = [d, dQ shown rs, od] ∧ WebAt C μ d W ∧ WbOk W ∧ QOk shown rs ∧ FewK W rs ∧ AllBound rs ∧ OrdTold od ∧ ys0.Perm (varsIn (outer rs)) ∧
  (OrdOk rs od → ∀ ys, AnsOf ((allB W rs ys0).map (shownOf shown)) ys → Q (.lst (ys.map tupI)) μ) ∧ (¬ OrdOk rs od → PE μ)
theorem d_ansBy (fr : Free mg) {gK gT gL : Addr} (eK : mg "by_knots" = some (.ref gK)) (eT : mg "by_ties" = some (.ref gT)) (eL : mg "by_looks" = some (.ref gL)) (hK : DefAt P w K mg base T 13 "by_knots" (S_byK C)) (hT : DefAt P w K mg base T 15 "by_ties" (S_byT C pT 650)) (hL : DefAt P w K mg base T 13 "by_looks" (S_looks C))
    (hS : TabAt K w mg "STEPS" (stepsV gK gT gL)) (hN : DefAtX P w K mg base T 7 "need_order" NP S_need) (hSh : DefAt P w K mg base T 1 "shown_of" S_shown) (F : FnP K "answer_by" (top 45) f fd) (g : mg "answer_by" = some (.ref f)) : DefAtX P w K mg base T 16 "answer_by" NP (S_ansBy C) := by
  refine defAtX_of F g (ps := ["web", "question", "order"]) (fun _ _ _ _ _ _ us hl => match us, hl with | [_, _, _], _ => rfl) (fn_okDX F sc45 (fun ds μ Q PE ⟨_, _, _, _, _, _, h, _⟩ => by rw [h]; rfl) fun cdv A outer0 s H E ds μ Q PE lb rb hr ⟨d, W, sh, rs, od, ys0, e, ⟨a, dx, ed, em⟩, ok, qok, fk, ab, ot, hy0, hyes, hno⟩ tk => ?_)
  subst e ed
  refine wss_cons (ws_expr (we_callX hN hr (tk _) (wa_two (we_var 1 rfl (we_var 2 rfl ⟨sh, rs, od, rfl, qok.rows, ot, fun ho => ?_, hno⟩)))))
  obtain ⟨ns, hf, hp, hgo⟩ := ho
  have hq := hyes ⟨ns, hf, hp, hgo⟩
  have hlt : ∀ n ∈ ns, n < rs.length := fun n hn => List.mem_range.mp (hp.mem_iff.mp hn)
  have inv : ∀ j, RunInv W rs (ns.take j) := fun j => run_inv ok qok.rows ab _ (by
    have h := hgo
    rw [← List.take_append_drop j ns, goFrom_app, Bool.and_eq_true] at h
    exact h.1)
  have dlen : ∀ j, (domAll rs (ns.take j)).length ≤ 4 := fun j => by
    refine Nat.le_trans (nodup_sub_len _ (varsIn (outer rs)) (inv j).nd fun x hx => ?_) qok.outer_vars
    rw [(inv j).dm, bAfter_mem] at hx
    rcases hx with h | ⟨n, hn, r, er, hB, hx⟩
    · cases h
    · exact (vin_mem _ x).mpr ⟨r, List.mem_filter.mpr ⟨List.mem_of_getElem? er, isB_isP hB⟩, hx⟩
  have flen : ∀ j, (runAll W rs (ns.take j)).length ≤ 256 := fun j => by
    have h1 := binds_few (inv j).un fun b hb => ⟨(((inv j).ex b).mp hb).1, (((inv j).ex b).mp hb).2.1⟩
    have h2 : W.knots.length ^ (domAll rs (ns.take j)).length ≤ 4 ^ (domAll rs (ns.take j)).length := Nat.pow_le_pow_left ok.few _
    have h3 : 4 ^ (domAll rs (ns.take j)).length ≤ 4 ^ 4 := Nat.pow_le_pow_right (by decide) (dlen j)
    omega
  have vars_of : ∀ j n, ns[j]? = some n → ∀ r, rs[n]? = some r → r.isB = false → ∀ p, r = .p p → ∀ x ∈ p.vs, x ∈ domAll rs (ns.take j) := fun j n ej r er hB p ep x hx => by
    have hx' : x ∈ r.vars := by rw [ep]; exact (prVars_mem p x).mpr hx
    have hout := ab r (List.mem_of_getElem? er) (by rw [ep]; rfl) x hx'
    have h1 := (inv (j + 1)).ob n (by rw [List.take_add_one, ej]; exact List.mem_append_right _ (List.mem_singleton.mpr rfl)) r er x hx' hout
    rw [List.take_add_one, ej] at h1
    have h2 : x ∈ domAll rs (ns.take j ++ [n]) := h1
    rw [domAll_snoc] at h2
    unfold domN at h2
    rw [er] at h2
    rcases List.mem_append.mp h2 with h | h
    · exact h
    · rw [(newV_mem.mp h).1] at hB; cases hB
  refine wss_cons (ws_set 3 sc45.nd (we_lst (wa_one (we_dict0 ⟨Nat.le_refl 1 |> fun _ => by decide, ?_⟩))))
  refine wss_cons (ws_for (ks := [4]) rfl (wi_seq (we_var 2 rfl ⟨_, hf, fun hz2 => ⟨fun j G' μ' => (∃ o4 o5 o6, G' = [some (.ref a), some (dQ sh rs), some od, some (.lst ((runAll W rs (ns.take j)).map dB)), o4, o5, o6, none, none]) ∧ μ' = μ, ⟨⟨_, _, _, rfl⟩, rfl⟩, ?_, ?_⟩⟩)) (passes_of rfl))
  · rintro j d1 _ _ ed ⟨⟨o4, o5, o6, rfl⟩, rfl⟩
    unfold natsD at ed
    rw [List.getElem?_map] at ed
    cases ex : ns[j]? with
    | none => rw [ex] at ed; cases ed
    | some n =>
      rw [ex] at ed; cases ed
      have hn : n ∈ ns := List.mem_of_getElem? ex
      have hnr := hlt n hn
      have er : rs[n]? = some rs[n] := List.getElem?_eq_getElem hnr
      have hrm : rs[n] ∈ rs := List.getElem_mem hnr
      have hfine := qok.rows.2 _ hrm
      obtain ⟨gs, hgs, hheld⟩ := step_held eK eT eL hK hT hL rs[n] hfine
      have erun : runAll W rs (ns.take (j + 1)) = (runAll W rs (ns.take j)).flatMap (stepR W rs[n]) := by
        rw [List.take_add_one, ex]
        show runAll W rs (ns.take j ++ [n]) = _
        rw [runAll_snoc]; unfold stepN; rw [er]
      refine wg_name 4 sc45.nd (wss_cons (ws_set 5 sc45.nd (we_ix (we_ix (we_var 1 rfl (we_int ⟨_, _, _, .tup, rfl, rfl, we_var 4 rfl ⟨_, _, _, .tup, rfl, by rw [atI_nat, List.getElem?_map, er]; rfl, ?_⟩⟩))))))
      refine wss_cons (ws_set 6 sc45.nd (we_tab hS (we_ix (we_var 5 rfl (we_int ⟨_, _, _, .tup, rfl, atI_zero, _, _, rfl, hgs, ?_⟩)))))
      refine wss_one (ws_lc2 3 7 8 sc45.nd rfl (blkOk_by (by kernel_rfl)) (fun d h => nomatch h) (wi_seq (we_var 3 rfl ⟨_, .lst, fun hz => ?_⟩)))
      refine lc2_fm (runAll W rs (ns.take j)) dB (fun b => (stepR W rs[n] b).map dB) ?_ ⟨⟨_, _, _, by rw [erun, List.map_flatMap]; rfl⟩, rfl⟩ fun b hb s H C cl fp => ?_
      · rw [← List.map_flatMap, ← erun, List.length_map, sizeLine_eq]
        have := flen (j + 1)
        omega
      obtain ⟨b1, b2, _⟩ := ((inv j).ex b).mp hb
      have bl : b.length ≤ 4 := by
        have := dlen j
        rw [← b1, List.length_map] at this; exact this
      refine wi_seq (we_callL (i := 6) rfl hheld hr (wa_cons (we_var 0 rfl (wa_two (we_var 5 rfl (we_var 7 rfl ⟨_, W, b, rfl, ⟨⟨a, dx, rfl, em⟩, ok, hfine, b2, by omega, qok.row_vars hrm⟩, by omega, fun hB p ep x hx => has_mem.mpr (by rw [b1]; exact vars_of j n ex _ er hB p ep x hx), _, .lst, fun hz3 => ⟨rfl, rfl, fun d1 hd s H C cl fp => we_var 8 rfl ⟨rfl, rfl⟩⟩⟩))))))
  · rintro _ _ ⟨⟨o4, o5, o6, rfl⟩, rfl⟩
    have hl : (natsD ns).length = ns.length := by unfold natsD; rw [List.length_map]
    rw [hl, List.take_length]
    have I := run_inv ok qok.rows ab ns hgo
    have hsame := fun t => same_shown ok qok.rows ab hp hgo hy0 sh t
    refine wss_one (ws_ret (we_sortedSC 4 sh.length rfl fr.sorted rfl sc45.nd hr.units (blkOk_by (by kernel_rfl)) (wi_seq (we_var 3 rfl ⟨_, .lst, fun hz => ?_⟩))))
    refine ⟨(runAll W rs ns).map (shownOf sh), by rw [List.length_map, List.length_map], fun t ht => ?_, fun l hn hl => allB_few qok fk hy0 hn fun t ht => (hsame t).mp (hl t ht), fun j d t ed et s H C cl fp => ?_, fun zs h1 h2 => hq zs ⟨h1, fun t => (h2 t).trans (hsame t)⟩⟩
    · obtain ⟨b, _, rfl⟩ := List.mem_map.mp ht
      unfold shownOf; rw [List.length_map]
    · rw [List.getElem?_map] at ed et
      cases eb : (runAll W rs ns)[j]? with
      | none => rw [eb] at ed; cases ed
      | some b =>
        rw [eb] at ed et; cases ed; cases et
        obtain ⟨h1, h2, _⟩ := (run_iff I hp b).mp (List.mem_of_getElem? eb)
        exact we_call hSh hr (wa_two (we_var 1 rfl (we_var 4 rfl ⟨sh, rs, b, rfl, fun x hx => has_mem.mpr (by rw [h1]; exact (dom_all ab I hp x).mpr (qok.sub x hx)), rfl, rfl⟩)))
end
end Ws
/-! D12: Web.__init__, Web(..). -/
namespace Ws
open PySem PyProof.Rows PySem.Spec L2

/-! ### what is given -/
def knIn (W : Wb) : List (Int × List D) := W.knots.map fun p => (p.1, [.str p.2.1, wsD p.2.2])
def tiIn (W : Wb) : List (Int × List D) := W.ties.map fun t => (t.1, [.str t.2.1, .int t.2.2.1, .int t.2.2.2.1, .int t.2.2.2.2])
structure WIn (W : Wb) : Prop where
  few : W.knots.length ≤ 4
  kn : (W.knots.map (·.1)).Nodup
  ties : W.ties.length ≤ 10
  tn : (W.ties.map (·.1)).Nodup
  ends : ∀ t ∈ W.ties, t.2.2.1 ∈ W.knots.map (·.1) ∧ t.2.2.2.1 ∈ W.knots.map (·.1)
  wo : ∀ p ∈ W.knots, ∀ q ∈ p.2.2, IsWo q.2
theorem WIn.perm {W V : Wb} (h : WIn W) (hk : V.knots.Perm W.knots) (ht : V.ties.Perm W.ties) : WIn V where
  few := by rw [hk.length_eq]; exact h.few
  kn := (hk.map _).nodup_iff.mpr h.kn
  ties := by rw [ht.length_eq]; exact h.ties
  tn := (ht.map _).nodup_iff.mpr h.tn
  ends := fun t m => by
    obtain ⟨a, b⟩ := h.ends t (ht.mem_iff.mp m)
    exact ⟨(hk.map _).mem_iff.mpr a, (hk.map _).mem_iff.mpr b⟩
  wo := fun p m => h.wo p (hk.mem_iff.mp m)
/-- adjacency, one put in -/
def addAdj (xs : List (Int × List Int)) (k n : Int) : List (Int × List Int) := if (xs.any fun p => decide (p.1 = k)) = true then xs.map fun p => if p.1 = k then (p.1, p.2 ++ [n]) else p else xs ++ [(k, [n])]
def adjOf (ts : List (Int × Str × Int × Int × Int)) (side : Str × Int × Int × Int → Int) : List (Int × List Int) := ts.foldl (fun acc t => addAdj acc (side t.2) t.1) []
theorem look_map {α β : Type} (g : Int → α → β) (j : Int) : ∀ xs : List (Int × α), look j (xs.map fun p => (p.1, g p.1 p.2)) = (look j xs).map (g j)
  | [] => rfl
  | p :: ps => by
    have ih := look_map g j ps
    unfold look at ih ⊢
    rw [List.map_cons, List.find?_cons, List.find?_cons]
    by_cases h : p.1 = j
    · subst h; simp
    · simp only [decide_eq_false h]
      exact ih
theorem look_snoc {α : Type} (j k : Int) (a : α) (xs : List (Int × α)) : look j (xs ++ [(k, a)]) = (look j xs).or (if k = j then some a else none) := by
  unfold look
  rw [List.find?_append]
  cases h : xs.find? fun p => decide (p.1 = j) with
  | some p => simp
  | none =>
    by_cases e : k = j
    · simp [e]
    · simp [e]
theorem look_any {α : Type} (j : Int) (xs : List (Int × α)) : (xs.any fun p => decide (p.1 = j)) = (look j xs).isSome := by
  unfold look
  rw [Option.isSome_map]
  induction xs with
  | nil => rfl
  | cons p ps ih =>
    rw [List.any_cons, List.find?_cons, ih]
    cases decide (p.1 = j) <;> rfl
theorem adj_add (xs : List (Int × List Int)) (k n j : Int) : adj (addAdj xs k n) j = adj xs j ++ (if j = k then [n] else []) := by
  unfold addAdj
  rw [look_any]
  by_cases h : (look k xs).isSome = true
  · rw [if_pos h]
    have e : (xs.map fun p => if p.1 = k then (p.1, p.2 ++ [n]) else p) = xs.map fun p => (p.1, (fun (i : Int) (l : List Int) => if i = k then l ++ [n] else l) p.1 p.2) := by
      refine List.map_congr_left fun p _ => ?_
      by_cases z : p.1 = k <;> simp [z]
    rw [e]
    unfold adj
    rw [look_map (fun (i : Int) (l : List Int) => if i = k then l ++ [n] else l) j xs]
    by_cases z : j = k
    · subst z
      obtain ⟨l, hl⟩ := Option.isSome_iff_exists.mp h
      rw [hl]; simp
    · cases look j xs <;> simp [z]
  · rw [if_neg h]
    unfold adj
    rw [look_snoc]
    have hn : look k xs = none := by simpa using h
    by_cases z : j = k
    · subst z; rw [hn]; simp
    · have z' : ¬ k = j := fun q => z q.symm
      rw [if_neg z', if_neg z]; cases look j xs <;> simp
theorem adj_of (side : Str × Int × Int × Int → Int) (j : Int) : ∀ ts : List (Int × Str × Int × Int × Int), adj (adjOf ts side) j = (ts.filter fun t => decide (side t.2 = j)).map (·.1) := fun ts => by
  refine snoc_ind (p := fun ts => adj (adjOf ts side) j = (ts.filter fun t => decide (side t.2 = j)).map (·.1)) rfl (fun xs x ih => ?_) ts
  have e : adjOf (xs ++ [x]) side = addAdj (adjOf xs side) (side x.2) x.1 := by unfold adjOf; rw [List.foldl_append]; rfl
  rw [e, adj_add, ih, List.filter_append, List.map_append]
  by_cases z : j = side x.2
  · rw [if_pos z]; simp [z]
  · rw [if_neg z]
    have z' : ¬ side x.2 = j := fun q => z q.symm
    simp [z']
theorem look_nd {α : Type} : ∀ {xs : List (Int × α)} {n : Int} {a : α}, (xs.map (·.1)).Nodup → (n, a) ∈ xs → look n xs = some a
  | [], _, _, _, h => by cases h
  | p :: ps, n, a, hn, h => by
    rw [List.map_cons] at hn
    have nd := List.nodup_cons.mp hn
    rcases List.mem_cons.mp h with e | e
    · subst e; unfold look; simp
    · have hne : p.1 ≠ n := fun z => nd.1 (by rw [z]; exact List.mem_map.mpr ⟨_, e, rfl⟩)
      have := look_nd nd.2 e
      unfold look at this ⊢
      rw [List.find?_cons]
      simp only [decide_eq_false hne]
      exact this
/-- the web that __init__ makes is well formed -/
def fstE (t : Str × Int × Int × Int) : Int := t.2.1
def sndE (t : Str × Int × Int × Int) : Int := t.2.2.1
def mkWb (kn : List (Int × Str × List (Str × D))) (ts : List (Int × Str × Int × Int × Int)) : Wb := ⟨kn, ts, adjOf ts fstE, adjOf ts sndE⟩
theorem mkWb_ok {W : Wb} (h : WIn W) : WbOk (mkWb W.knots W.ties) where
  few := h.few
  kn := h.kn
  ties := h.ties
  outs := fun k n hn => by
    have hn : n ∈ adj (adjOf W.ties fstE) k := hn
    rw [adj_of] at hn
    obtain ⟨t, ht, rfl⟩ := List.mem_map.mp hn
    have := List.mem_filter.mp ht
    exact ⟨t.2, look_nd h.tn this.1, of_decide_eq_true this.2⟩
  ins := fun k n hn => by
    have hn : n ∈ adj (adjOf W.ties sndE) k := hn
    rw [adj_of] at hn
    obtain ⟨t, ht, rfl⟩ := List.mem_map.mp hn
    have := List.mem_filter.mp ht
    exact ⟨t.2, look_nd h.tn this.1, of_decide_eq_true this.2⟩
  all := fun n t ht => by
    have hm := look_mem ht
    constructor
    · show n ∈ adj (adjOf W.ties fstE) t.2.1
      rw [adj_of]
      exact List.mem_map.mpr ⟨_, List.mem_filter.mpr ⟨hm, decide_eq_true rfl⟩, rfl⟩
    · show n ∈ adj (adjOf W.ties sndE) t.2.2.1
      rw [adj_of]
      exact List.mem_map.mpr ⟨_, List.mem_filter.mpr ⟨hm, decide_eq_true rfl⟩, rfl⟩
  ends := fun n t ht => by
    obtain ⟨a, b⟩ := h.ends _ (look_mem ht)
    exact ⟨isK_iff.mp a, isK_iff.mp b⟩
  olen := fun k => by
    show (adj (adjOf W.ties fstE) k).length ≤ 10
    rw [adj_of, List.length_map]
    exact Nat.le_trans (List.length_filter_le _ _) h.ties
  ilen := fun k => by
    show (adj (adjOf W.ties sndE) k).length ≤ 10
    rw [adj_of, List.length_map]
    exact Nat.le_trans (List.length_filter_le _ _) h.ties
  wo := h.wo
section
variable {P : Program} {w : World} {K : PySem.W.Frag} {mg : Str → Option Value} {base : Heap} {T : TabS} {f C : Addr} {fd : FuncData}
theorem sm0 : FnScope ["self", "knots", "ties", "number", "kind", "first", "second", "weight", "worths", "rest"] ["self", "knots", "ties"] (defScope (meth 0)) := ⟨rfl, rfl, rfl, by decide +kernel, rfl, by decide +kernel, by decide +kernel⟩
def S_init (C : Addr) : DSp := fun ds μ Q => ∃ x dx W0, ds = [.ref x, .lst (keyed (knIn W0)), .lst (keyed (tiIn W0))] ∧ μ x = some (.mi C dx []) ∧ WIn W0 ∧ ∀ kn ts, kn.Perm W0.knots → ts.Perm W0.ties → Q .non (mset μ x (.mi C dx (webF (mkWb kn ts))))
theorem WG.mono' {X : Cx} {T : TabL} {G : GE} {μ : Mu} {tg : Expr} {vs : List Nat} {d : D} {Q Q' : GE → Mu → Prop} (h : WG X T G μ tg vs d Q) (m : ∀ G2 μ2, Q G2 μ2 → Q' G2 μ2) : WG X T G μ tg vs d Q' := fun F R H σ v a b c => wG_mono (h F R H σ v a b c) fun σ' H' ⟨so, z⟩ => ⟨so, z.mono m⟩
theorem putD_new {kvs : List (Key × D)} {k : Key} {d : D} (h : k ∉ kvs.map (·.1)) : putD kvs k d = kvs ++ [(k, d)] := by
  unfold putD
  rw [if_neg]
  intro z
  obtain ⟨p, hp, e⟩ := List.any_eq_true.mp z
  exact h (List.mem_map.mpr ⟨p, hp, of_decide_eq_true e⟩)
theorem dc_fm {X : Cx} {T : TabL} {G : GE} {μ : Mu} {scope : Scope} {tg kx vx : Expr} {ks : List Nat} {Q : List (Key × D) → Mu → Prop} {α : Type} (xs : List α) (dx : α → D) (k : α → Key) (v : α → D) (hnd : (xs.map k).Nodup) (q : Q (xs.map fun x => (k x, v x)) μ)
    (h : ∀ x ∈ xs, ∀ (s : Shared) (H : Hp) (C : Addr) (cl : List (Str × Addr)) (fp : List Addr), WG (X.blk s H scope (compEnvC scope cl C X.env) fp) T G μ tg ks (dx x) fun G2 μ2 => ∀ (s : Shared) (H : Hp) (C : Addr) (cl : List (Str × Addr)) (fp : List Addr), WE (X.blk s H scope (compEnvC scope cl C X.env) fp) T G2 μ2 kx fun kd μ3 => kd = kD (k x) ∧
      ∀ (s : Shared) (H : Hp) (C : Addr) (cl : List (Str × Addr)) (fp : List Addr), WE (X.blk s H scope (compEnvC scope cl C X.env) fp) T G2 μ3 vx fun vd μ4 => vd = v x ∧ μ4 = μ) : DcOk X T G scope tg kx vx ks Q (xs.map dx) μ := by
  refine ⟨fun j acc μ' => acc = (xs.take j).map (fun x => (k x, v x)) ∧ μ' = μ, ⟨rfl, rfl⟩, ?_, ?_⟩
  · rintro j d acc μ' ed ⟨rfl, rfl⟩ hl s H C cl fp
    rw [List.getElem?_map] at ed
    cases ex : xs[j]? with
    | none => rw [ex] at ed; cases ed
    | some x =>
      rw [ex] at ed; cases ed
      refine (h x (List.mem_of_getElem? ex) s H C cl fp).mono' fun G2 μ2 hh s H C cl fp => (hh s H C cl fp).mono fun kd μ3 ⟨e1, hv⟩ => ⟨k x, e1, fun s H C cl fp => (hv s H C cl fp).mono fun vd μ4 ⟨e2, e3⟩ => ?_⟩
      subst e2 e3
      have hf : k x ∉ ((xs.take j).map fun x => (k x, v x)).map (·.1) := by
        rw [List.map_map]
        have hnd2 := hnd
        rw [← List.take_append_drop j xs, List.map_append, List.nodup_append] at hnd2
        intro hm
        refine hnd2.2.2 (k x) hm (k x) ?_ rfl
        rw [List.drop_eq_getElem?_toList_append, ex]
        simp
      rw [putD_new hf]
      have et : xs.take (j + 1) = xs.take j ++ [x] := by rw [List.take_add_one, ex]; rfl
      refine ⟨⟨by rw [et, List.map_append]; rfl, rfl⟩, ?_⟩
      rw [List.length_append, List.length_map, List.length_take]; simp; omega
  · rintro acc μ' ⟨rfl, rfl⟩
    rw [List.length_map, List.take_length]; exact q
theorem k_ns (sc : Scope) (h : NdefX.nscB ["one"] ["one"] [] sc = true) : NdefX.NScope ["one"] ["one"] [] sc := NdefX.nscope_by h
end
end Ws
/-! D13: NoPlan.__init__. -/
namespace Ws
open PySem PyProof.Rows PySem.Spec L2
theorem scNp : FnScope ["self"] ["self"] (defScope npI) := ⟨rfl, rfl, rfl, by decide +kernel, rfl, by decide +kernel, by decide +kernel⟩
theorem d_npInit {P : Program} {w : World} {K : PySem.W.Frag} {mg : Str → Option Value} {base : Heap} {f C : Addr} {fd : FuncData} (hA : mg "ArithmeticError" = none) (vV : PySem.W.findCls K (.type "ArithmeticError") (.type "type") "__init__" = some (.val (.builtin "ArithmeticError.__init__")))
    (F : FunD K "__init__" "NoPlan.__init__" (defArgs npI) (defBody npI) (defScope npI) [] [] f fd) : FnOk P w K mg base CX0 1 f fd ["self"] (SpI K C) := by
  refine F.ok scNp (fun vs H Q E ⟨a, h, _⟩ => by rw [h]; rfl) (fun cdv A outer s H vs Q E hr ⟨a, ev, ha, T, q⟩ => ?_)
  subst ev
  refine ⟨_, pss_one (ps_expr (pe_aeinit rfl hA vV (pa_cons (pe_var (i := 0) rfl (Or.inl rfl)) (pa_cons pe_str pa_nil rfl) rfl)) rfl), ?_⟩
  exact ⟨.ref a, rfl, a, C, [.str _], rfl, by simp, T, ha, q⟩
end Ws
namespace Ws
open PySem PyProof.Rows PySem.Spec L2
/-- a dict of lists that change: entries gs (key, the list's place, what it holds) -/
structure Adj (μ : Mu) (l : Addr) (gs : List (Int × Addr × List Int)) : Prop where
  md : μ l = some (.md (gs.map fun g => (.inl g.1, .ref g.2.1)))
  ml : ∀ g ∈ gs, μ g.2.1 = some (.ml (g.2.2.map .int))
  kn : (gs.map (·.1)).Nodup
  an : (gs.map (·.2.1)).Nodup
  ne : ∀ g ∈ gs, g.2.1 ≠ l
/-- what is elsewhere is of no matter -/
theorem Adj.off {μ ν : Mu} {l : Addr} {gs : List (Int × Addr × List Int)} (h : Adj μ l gs) (e1 : ν l = μ l) (e2 : ∀ g ∈ gs, ν g.2.1 = μ g.2.1) : Adj ν l gs :=
  ⟨by rw [e1]; exact h.md, fun g hg => by rw [e2 g hg]; exact h.ml g hg, h.kn, h.an, h.ne⟩
def gKeep (gs : List (Int × Addr × List Int)) : List (Int × List Int) := gs.map fun g => (g.1, g.2.2)
def gPut (gs : List (Int × Addr × List Int)) (k n : Int) : List (Int × Addr × List Int) := gs.map fun g => if g.1 = k then (g.1, g.2.1, g.2.2 ++ [n]) else g
theorem gPut_keep (gs : List (Int × Addr × List Int)) (k n : Int) (h : (gs.any fun g => decide (g.1 = k)) = true) : gKeep (gPut gs k n) = addAdj (gKeep gs) k n := by
  unfold addAdj
  have e : ((gKeep gs).any fun p => decide (p.1 = k)) = true := by unfold gKeep; rw [List.any_map]; exact h
  rw [if_pos e]
  unfold gKeep gPut
  rw [List.map_map, List.map_map]
  refine List.map_congr_left fun g _ => ?_
  by_cases z : g.1 = k <;> simp [z]
theorem valD_gs (gs : List (Int × Addr × List Int)) (k : Int) : valD (gs.map fun g => ((.inl g.1 : Key), D.ref g.2.1)) (.inl k) = (gs.find? fun g => decide (g.1 = k)).map fun g => .ref g.2.1 := by
  unfold valD
  induction gs with
  | nil => rfl
  | cons g gs ih =>
    rw [List.map_cons, List.find?_cons, List.find?_cons]
    by_cases h : g.1 = k
    · simp [h]
    · have e1 : decide ((Sum.inl g.1 : Key) = .inl k) = false := decide_eq_false fun z => h (Sum.inl.inj z)
      simp only [e1, decide_eq_false h]
      exact ih
theorem mem_of_findg {gs : List (Int × Addr × List Int)} {k : Int} {g : Int × Addr × List Int} (h : gs.find? (fun g => decide (g.1 = k)) = some g) : g ∈ gs ∧ g.1 = k := ⟨List.mem_of_find?_eq_some h, of_decide_eq_true (List.find?_some (p := fun g : Int × Addr × List Int => decide (g.1 = k)) h)⟩
theorem inj_of {α β : Type} {f : α → β} : ∀ {xs : List α} {a b : α}, (xs.map f).Nodup → a ∈ xs → b ∈ xs → f a = f b → a = b
  | [], _, _, _, h, _, _ => by cases h
  | x :: xs, a, b, hn, ha, hb, e => by
    rw [List.map_cons] at hn
    have nd := List.nodup_cons.mp hn
    rcases List.mem_cons.mp ha with h1 | h1 <;> rcases List.mem_cons.mp hb with h2 | h2
    · rw [h1, h2]
    · exact absurd (List.mem_map.mpr ⟨b, h2, by rw [← e, h1]⟩) nd.1
    · exact absurd (List.mem_map.mpr ⟨a, h1, by rw [e, h2]⟩) nd.1
    · exact inj_of nd.2 h1 h2 e
/-- the entry is there: its list grows -/
theorem Adj.grow {μ : Mu} {l : Addr} {gs : List (Int × Addr × List Int)} (h : Adj μ l gs) {g : Int × Addr × List Int} (hg : g ∈ gs) (n : Int) : Adj (mset μ g.2.1 (.ml ((g.2.2 ++ [n]).map .int))) l (gPut gs g.1 n) where
  md := by
    rw [mset_ne (Ne.symm (h.ne g hg)), h.md]
    unfold gPut
    rw [List.map_map]
    congr 2
    refine List.map_congr_left fun q _ => ?_
    by_cases z : q.1 = g.1 <;> simp [z]
  ml := fun q hq => by
    unfold gPut at hq
    obtain ⟨p, hp, rfl⟩ := List.mem_map.mp hq
    by_cases z : p.1 = g.1
    · have e : p = g := inj_of h.kn hp hg z
      subst e
      rw [if_pos rfl]; exact mset_same
    · rw [if_neg z, mset_ne]
      · exact h.ml p hp
      · intro e
        exact z (by rw [inj_of (f := fun q => q.2.1) h.an hp hg e])
  kn := by
    have : (gPut gs g.1 n).map (·.1) = gs.map (·.1) := by
      unfold gPut; rw [List.map_map]
      refine List.map_congr_left fun q _ => ?_
      by_cases z : q.1 = g.1 <;> simp [z]
    rw [this]; exact h.kn
  an := by
    have : (gPut gs g.1 n).map (·.2.1) = gs.map (·.2.1) := by
      unfold gPut; rw [List.map_map]
      refine List.map_congr_left fun q _ => ?_
      by_cases z : q.1 = g.1 <;> simp [z]
    rw [this]; exact h.an
  ne := fun q hq => by
    unfold gPut at hq
    obtain ⟨p, hp, rfl⟩ := List.mem_map.mp hq
    by_cases z : p.1 = g.1
    · rw [if_pos z]; exact h.ne p hp
    · rw [if_neg z]; exact h.ne p hp
end Ws
namespace Ws
open PySem PyProof.Rows PySem.Spec L2
theorem Adj.isR {μ : Mu} {l : Addr} {gs : List (Int × Addr × List Int)} (h : Adj μ l gs) {p : Addr} (np : μ p = none) : p ≠ l ∧ ∀ g ∈ gs, g.2.1 ≠ p := by
  constructor
  · rintro rfl; rw [h.md] at np; cases np
  · rintro g hg rfl; rw [h.ml g hg] at np; cases np
/-- an entry more -/
theorem Adj.more {μ : Mu} {l p : Addr} {gs : List (Int × Addr × List Int)} (h : Adj μ l gs) {k : Int} (hk : k ∉ gs.map (·.1)) (np : μ p = none) (n : Int) :
    Adj (mset (mset (mset μ p (.ml [])) l (.md (putD (gs.map fun g => (.inl g.1, .ref g.2.1)) (.inl k) (.ref p)))) p (.ml ([] ++ [.int n]))) l (gs ++ [(k, p, [n])]) := by
  obtain ⟨h1, h2⟩ := h.isR np
  have hk' : (Sum.inl k : Key) ∉ (gs.map fun g => ((.inl g.1 : Key), D.ref g.2.1)).map (·.1) := by
    rw [List.map_map]
    intro z
    obtain ⟨g, hg, e⟩ := List.mem_map.mp z
    exact hk (List.mem_map.mpr ⟨g, hg, Sum.inl.inj e⟩)
  refine ⟨?_, fun g hg => ?_, ?_, ?_, fun g hg => ?_⟩
  · rw [mset_ne (Ne.symm h1), mset_same, putD_new hk', List.map_append]; rfl
  · rcases List.mem_append.mp hg with hg | hg
    · rw [mset_ne (h2 g hg), mset_ne (h.ne g hg), mset_ne (h2 g hg)]; exact h.ml g hg
    · rw [List.mem_singleton.mp hg, mset_same]; rfl
  · rw [List.map_append, List.nodup_append]
    refine ⟨h.kn, by simp, fun a ha b hb e => ?_⟩
    subst e
    simp at hb; subst hb
    exact hk ha
  · rw [List.map_append, List.nodup_append]
    refine ⟨h.an, by simp, fun a ha b hb e => ?_⟩
    subst e
    simp at hb; subst hb
    obtain ⟨g, hg, e⟩ := List.mem_map.mp ha
    exact h2 g hg e
  · rcases List.mem_append.mp hg with hg | hg
    · exact h.ne g hg
    · rw [List.mem_singleton.mp hg]; exact h1
theorem gKeep_more (gs : List (Int × Addr × List Int)) (p : Addr) {k : Int} (hk : k ∉ gs.map (·.1)) (n : Int) : gKeep (gs ++ [(k, p, [n])]) = addAdj (gKeep gs) k n := by
  unfold addAdj
  rw [if_neg]
  · unfold gKeep; rw [List.map_append]; rfl
  · intro z
    unfold gKeep at z
    rw [List.any_map] at z
    obtain ⟨g, hg, e⟩ := List.any_eq_true.mp z
    exact hk (List.mem_map.mpr ⟨g, hg, of_decide_eq_true e⟩)
/-- two such dicts, fields of the thing x; of the rest nothing is lost -/
structure Two (μ0 μ : Mu) (x l l2 : Addr) (C dx : Addr) (fs : List (Str × D)) (gs cs : List (Int × Addr × List Int)) : Prop where
  g : Adj μ l gs
  c : Adj μ l2 cs
  xx : μ x = some (.mi C dx fs)
  off : ∀ a o, μ0 a = some o → a ≠ x → μ a = some o
  nl : μ0 l = none
  nl2 : μ0 l2 = none
  ng : ∀ q ∈ gs, μ0 q.2.1 = none
  nc : ∀ q ∈ cs, μ0 q.2.1 = none
  dis : ∀ p ∈ gs, ∀ q ∈ cs, p.2.1 ≠ q.2.1
  ll : l ≠ l2
variable {μ0 μ : Mu} {x l l2 C dx : Addr} {fs : List (Str × D)} {gs cs : List (Int × Addr × List Int)}
theorem Two.swap (h : Two μ0 μ x l l2 C dx fs gs cs) : Two μ0 μ x l2 l C dx fs cs gs := ⟨h.c, h.g, h.xx, h.off, h.nl2, h.nl, h.nc, h.ng, fun p hp q hq e => h.dis q hq p hp e.symm, Ne.symm h.ll⟩
theorem Two.xl (h : Two μ0 μ x l l2 C dx fs gs cs) : x ≠ l := by rintro rfl; have := h.xx; rw [h.g.md] at this; cases this
theorem Two.xg (h : Two μ0 μ x l l2 C dx fs gs cs) : ∀ g ∈ gs, g.2.1 ≠ x := by rintro g hg rfl; have := h.xx; rw [h.g.ml g hg] at this; cases this
theorem Two.lg (h : Two μ0 μ x l l2 C dx fs gs cs) : ∀ g ∈ gs, g.2.1 ≠ l2 := by rintro g hg rfl; have := h.c.md; rw [h.g.ml g hg] at this; cases this
theorem Two.lc (h : Two μ0 μ x l l2 C dx fs gs cs) : ∀ g ∈ cs, g.2.1 ≠ l := h.swap.lg
/-- a thing is new -/
theorem Two.fresh (h : Two μ0 μ x l l2 C dx fs gs cs) {p : Addr} (np : μ p = none) : μ0 p = none ∧ p ≠ x := by
  have hx : p ≠ x := by rintro rfl; rw [h.xx] at np; cases np
  refine ⟨?_, hx⟩
  cases e : μ0 p with
  | none => rfl
  | some o => rw [h.off p o e hx] at np; cases np
theorem Two.old (h : Two μ0 μ x l l2 C dx fs gs cs) {p : Addr} (np : μ p = none) {g : Int × Addr × List Int} (hg : g ∈ gs) (n : Int) : Two μ0 (mset (mset μ p (.ml [])) g.2.1 (.ml (g.2.2.map .int ++ [.int n]))) x l l2 C dx fs (gPut gs g.1 n) cs := by
  obtain ⟨p0, px⟩ := h.fresh np
  obtain ⟨pl, pg⟩ := h.g.isR np
  obtain ⟨pl2, pc⟩ := h.c.isR np
  have A1 : Adj (mset μ p (.ml [])) l gs := h.g.off (mset_ne (Ne.symm pl)) fun q hq => mset_ne (pg q hq)
  have e1 : (.ml (g.2.2.map .int ++ [.int n]) : MO) = .ml ((g.2.2 ++ [n]).map .int) := by rw [List.map_append]; rfl
  have addrs : ∀ q ∈ gPut gs g.1 n, ∃ q' ∈ gs, q.2.1 = q'.2.1 := fun q hq => by
    unfold gPut at hq
    obtain ⟨q', hq', rfl⟩ := List.mem_map.mp hq
    refine ⟨q', hq', ?_⟩
    by_cases z : q'.1 = g.1 <;> simp [z]
  refine ⟨by rw [e1]; exact A1.grow hg n, h.c.off ?_ fun q hq => ?_, ?_, fun a o e hne => ?_, h.nl, h.nl2, fun q hq => ?_, h.nc, fun q hq c hc => ?_, h.ll⟩
  · rw [mset_ne (Ne.symm (h.lg g hg)), mset_ne (Ne.symm pl2)]
  · rw [mset_ne (Ne.symm (h.dis g hg q hq)), mset_ne (pc q hq)]
  · rw [mset_ne (Ne.symm (h.xg g hg)), mset_ne (Ne.symm px)]; exact h.xx
  · have h1 : a ≠ g.2.1 := by rintro rfl; rw [h.ng g hg] at e; cases e
    have h2 : a ≠ p := by rintro rfl; rw [p0] at e; cases e
    rw [mset_ne h1, mset_ne h2]; exact h.off a o e hne
  · obtain ⟨q', hq', e⟩ := addrs q hq
    rw [e]; exact h.ng q' hq'
  · obtain ⟨q', hq', e⟩ := addrs q hq
    rw [e]; exact h.dis q' hq' c hc
theorem Two.add (h : Two μ0 μ x l l2 C dx fs gs cs) {p : Addr} (np : μ p = none) {k : Int} (hk : k ∉ gs.map (·.1)) (n : Int) :
    Two μ0 (mset (mset (mset μ p (.ml [])) l (.md (putD (gs.map fun g => (.inl g.1, .ref g.2.1)) (.inl k) (.ref p)))) p (.ml ([] ++ [.int n]))) x l l2 C dx fs (gs ++ [(k, p, [n])]) cs := by
  obtain ⟨p0, px⟩ := h.fresh np
  obtain ⟨pl, pg⟩ := h.g.isR np
  obtain ⟨pl2, pc⟩ := h.c.isR np
  refine ⟨h.g.more hk np n, h.c.off ?_ fun q hq => ?_, ?_, fun a o e hne => ?_, h.nl, h.nl2, fun q hq => ?_, h.nc, fun q hq c hc => ?_, h.ll⟩
  · rw [mset_ne (Ne.symm pl2), mset_ne (Ne.symm h.ll), mset_ne (Ne.symm pl2)]
  · rw [mset_ne (pc q hq), mset_ne (h.lc q hq), mset_ne (pc q hq)]
  · rw [mset_ne (Ne.symm px), mset_ne h.xl, mset_ne (Ne.symm px)]; exact h.xx
  · have h1 : a ≠ l := by rintro rfl; rw [h.nl] at e; cases e
    have h2 : a ≠ p := by rintro rfl; rw [p0] at e; cases e
    rw [mset_ne h2, mset_ne h1, mset_ne h2]; exact h.off a o e hne
  · rcases List.mem_append.mp hq with hq | hq
    · exact h.ng q hq
    · rw [List.mem_singleton.mp hq]; exact p0
  · rcases List.mem_append.mp hq with hq | hq
    · exact h.dis q hq c hc
    · rw [List.mem_singleton.mp hq]; exact Ne.symm (pc c hc)
/-- the lists of such a dict are fixed -/
theorem wss_fixAll {X : Cx} {T : TabL} {G : GE} {sts : List Stmt} {E : DE} : ∀ (rest : List (Int × Addr × List Int)) (pre : List (Int × List Int)) {μ : Mu}, μ l = some (.md (adjD pre ++ rest.map fun g => (.inl g.1, .ref g.2.1))) → (∀ g ∈ rest, μ g.2.1 = some (.ml (g.2.2.map .int))) →
    (pre.map (·.1) ++ rest.map (·.1)).Nodup → (rest.map (·.2.1)).Nodup → (∀ μ', μ' l = some (.md (adjD (pre ++ gKeep rest))) → (∀ a, a ≠ l → (∀ g ∈ rest, g.2.1 ≠ a) → μ' a = μ a) → WSs X T G μ' sts E) → WSs X T G μ sts E
  | [], pre, μ, hm, _, _, _, k => k μ (by rw [hm]; simp [gKeep]) fun _ _ _ => rfl
  | g :: rest, pre, μ, hm, hl, hn, ha, k => by
    have gl : g.2.1 ≠ l := by rintro e; have := hl g List.mem_cons_self; rw [e, hm] at this; cases this
    have hgp : g.1 ∉ pre.map (·.1) := fun z => by
      have := (List.nodup_append.mp hn).2.2 g.1 z g.1 (by simp)
      exact this rfl
    have hgr : g.1 ∉ rest.map (·.1) := by
      have := (List.nodup_append.mp hn).2.1
      rw [List.map_cons] at this
      exact (List.nodup_cons.mp this).1
    have hga : g.2.1 ∉ rest.map (·.2.1) := by
      rw [List.map_cons] at ha
      exact (List.nodup_cons.mp ha).1
    have keys : (adjD pre ++ (g :: rest).map fun g => ((.inl g.1 : Key), D.ref g.2.1)).map (·.1) = (pre.map (·.1) ++ (g :: rest).map (·.1)).map Sum.inl := by
      unfold adjD
      rw [List.map_append, List.map_append, List.map_map, List.map_map, List.map_map, List.map_map]; rfl
    have npre : ∀ kv ∈ adjD pre, ¬ kv.1 = .inl g.1 := fun kv h e => by
      unfold adjD at h
      obtain ⟨q, hq, rfl⟩ := List.mem_map.mp h
      exact hgp (List.mem_map.mpr ⟨q, hq, Sum.inl.inj e⟩)
    have hval : valD (adjD pre ++ (g :: rest).map fun g => ((.inl g.1 : Key), D.ref g.2.1)) (.inl g.1) = some (.ref g.2.1) := by
      unfold valD
      rw [List.find?_append, List.find?_eq_none.mpr fun kv h z => npre kv h (of_decide_eq_true z)]
      simp
    have hput : putD (adjD pre ++ (g :: rest).map fun g => ((.inl g.1 : Key), D.ref g.2.1)) (.inl g.1) (.lst (g.2.2.map .int)) = adjD (pre ++ [(g.1, g.2.2)]) ++ rest.map fun g => (.inl g.1, .ref g.2.1) := by
      unfold putD
      rw [if_pos (by rw [List.any_append]; simp), List.map_append, List.map_cons, List.map_cons, if_pos rfl]
      have e1 : ((adjD pre).map fun kv => if kv.1 = .inl g.1 then (kv.1, D.lst (g.2.2.map .int)) else kv) = adjD pre := by
        conv => rhs; rw [← List.map_id (adjD pre)]
        exact List.map_congr_left fun kv h => by rw [if_neg (npre kv h)]; rfl
      have e2 : ((rest.map fun g => ((.inl g.1 : Key), D.ref g.2.1)).map fun kv => if kv.1 = .inl g.1 then (kv.1, D.lst (g.2.2.map .int)) else kv) = rest.map fun g => (.inl g.1, .ref g.2.1) := by
        rw [List.map_map]
        refine List.map_congr_left fun q hq => ?_
        have : ¬ (Sum.inl q.1 : Key) = .inl g.1 := fun z => hgr (List.mem_map.mpr ⟨q, hq, Sum.inl.inj z⟩)
        show (if (Sum.inl q.1 : Key) = .inl g.1 then _ else _) = _
        rw [if_neg this]
      rw [e1, e2]
      unfold adjD
      rw [List.map_append, List.append_assoc]; rfl
    refine wss_fixV hm (hl g List.mem_cons_self) hval (by rw [keys]; exact List.pairwise_map.mpr (hn.imp fun h z => h (Sum.inl.inj z))) ?_
    rw [hput]
    refine wss_fixAll rest (pre ++ [(g.1, g.2.2)]) ?_ (fun q hq => ?_) ?_ (by rw [List.map_cons] at ha; exact (List.nodup_cons.mp ha).2) fun μ' h1 h2 => k μ' ?_ fun a ha1 ha2 => ?_
    · rw [mdel_ne (Ne.symm gl), mset_same]
    · have z1 : q.2.1 ≠ g.2.1 := fun z => hga (List.mem_map.mpr ⟨q, hq, z⟩)
      have z2 : q.2.1 ≠ l := by rintro e; have := hl q (List.mem_cons_of_mem _ hq); rw [e, hm] at this; cases this
      rw [mdel_ne z1, mset_ne z2]; exact hl q (List.mem_cons_of_mem _ hq)
    · rw [List.map_append, List.append_assoc]; exact hn
    · rw [h1]; unfold gKeep; rw [List.append_assoc]; rfl
    · rw [h2 a ha1 fun q hq => ha2 q (List.mem_cons_of_mem _ hq), mdel_ne (Ne.symm (ha2 g List.mem_cons_self)), mset_ne ha1]
end Ws
/-! D15: Web.__init__. -/
namespace Ws
open PySem PyProof.Rows PySem.Spec L2
theorem addAdj_len (xs : List (Int × List Int)) (k n : Int) : (addAdj xs k n).length ≤ xs.length + 1 := by
  unfold addAdj; split
  · rw [List.length_map]; omega
  · simp
theorem adjOf_len (side : Str × Int × Int × Int → Int) (ts : List (Int × Str × Int × Int × Int)) : (adjOf ts side).length ≤ ts.length := by
  refine snoc_ind (p := fun ts => (adjOf ts side).length ≤ ts.length) (by simp [adjOf]) (fun xs x ih => ?_) ts
  have e : adjOf (xs ++ [x]) side = addAdj (adjOf xs side) (side x.2) x.1 := by unfold adjOf; rw [List.foldl_append]; rfl
  rw [e, List.length_append]
  have := addAdj_len (adjOf xs side) (side x.2) x.1
  simp; omega
theorem adjOf_lens (side : Str × Int × Int × Int → Int) (ts : List (Int × Str × Int × Int × Int)) : ∀ p ∈ adjOf ts side, p.2.length ≤ ts.length := by
  refine snoc_ind (p := fun ts => ∀ p ∈ adjOf ts side, p.2.length ≤ ts.length) (by simp [adjOf]) (fun xs x ih => ?_) ts
  have e : adjOf (xs ++ [x]) side = addAdj (adjOf xs side) (side x.2) x.1 := by unfold adjOf; rw [List.foldl_append]; rfl
  rw [e, List.length_append]
  intro p hp
  unfold addAdj at hp
  split at hp
  · obtain ⟨q, hq, rfl⟩ := List.mem_map.mp hp
    have := ih q hq
    by_cases z : q.1 = side x.2 <;> simp [z] <;> omega
  · rcases List.mem_append.mp hp with hp | hp
    · have := ih p hp; simp; omega
    · rw [List.mem_singleton.mp hp]; simp
theorem adjOf_snoc (side : Str × Int × Int × Int → Int) (ts : List (Int × Str × Int × Int × Int)) {i : Nat} {t : Int × Str × Int × Int × Int} (h : ts[i]? = some t) : adjOf (ts.take (i + 1)) side = addAdj (adjOf (ts.take i) side) (side t.2) t.1 := by
  rw [List.take_add_one, h]; unfold adjOf; rw [List.foldl_append]; rfl
/-- d.setdefault(k, []).append(n), behind the evaluation of what is asked -/
theorem two_go {X : Cx} {T : TabL} {G : GE} {Q : Mu → Prop} {en : Expr} {μ0 μ : Mu} {x l l2 C dx : Addr} {fs : List (Str × D)} {gs cs : List (Int × Addr × List Int)} {k n : Int} (two : Two μ0 μ x l l2 C dx fs gs cs) (hs : ∀ g ∈ gs, g.2.2.length ≤ 1000)
    (hn : ∀ μ1, WE X T G μ1 en fun d μ2 => d = .int n ∧ μ2 = μ1) (q : ∀ μ2 gs', Two μ0 μ2 x l l2 C dx fs gs' cs → gKeep gs' = addAdj (gKeep gs) k n → Q μ2) {p : Addr} (np : μ p = none) :
    (∀ d, valD (gs.map fun g => ((.inl g.1 : Key), D.ref g.2.1)) (.inl k) = some d → ∃ l, d = .ref l ∧ (∃ ds, (mset μ p (.ml [])) l = some (.ml ds)) ∧ WE X T G (mset μ p (.ml [])) en fun d μ2 => ∃ ds, μ2 l = some (.ml ds) ∧ ds.length < sizeLine ∧ Q (mset μ2 l (.ml (ds ++ [d])))) ∧
    (valD (gs.map fun g => ((.inl g.1 : Key), D.ref g.2.1)) (.inl k) = none → ∃ l', D.ref p = .ref l' ∧ (∃ ds, (mset (mset μ p (.ml [])) l (.md (putD (gs.map fun g => (.inl g.1, .ref g.2.1)) (.inl k) (.ref p)))) l' = some (.ml ds)) ∧ WE X T G (mset (mset μ p (.ml [])) l (.md (putD (gs.map fun g => (.inl g.1, .ref g.2.1)) (.inl k) (.ref p)))) en fun d μ2 => ∃ ds, μ2 l' = some (.ml ds) ∧ ds.length < sizeLine ∧ Q (mset μ2 l' (.ml (ds ++ [d])))) := by
  obtain ⟨pl, pg⟩ := two.g.isR np
  constructor
  · intro d hd
    rw [valD_gs] at hd
    obtain ⟨g, hg, rfl⟩ := Option.map_eq_some_iff.mp hd
    obtain ⟨hg1, rfl⟩ := mem_of_findg hg
    have hl : mset μ p (.ml []) g.2.1 = some (.ml (g.2.2.map .int)) := by rw [mset_ne (pg g hg1)]; exact two.g.ml g hg1
    refine ⟨g.2.1, rfl, ⟨_, hl⟩, (hn _).mono fun d μ2 ⟨e1, e2⟩ => ?_⟩
    subst e1 e2
    refine ⟨_, hl, ?_, ?_⟩
    · have := hs g hg1
      rw [List.length_map, sizeLine_eq]; omega
    · refine q _ (gPut gs g.1 n) (two.old np hg1 n) (gPut_keep gs g.1 n (List.any_eq_true.mpr ⟨g, hg1, by simp⟩))
  · intro hd
    rw [valD_gs] at hd
    have hk : k ∉ gs.map (·.1) := by
      intro z
      obtain ⟨g, hg, e⟩ := List.mem_map.mp z
      have := List.find?_eq_none.mp (Option.map_eq_none_iff.mp hd) g hg
      exact this (decide_eq_true e)
    have hl : mset (mset μ p (.ml [])) l (.md (putD (gs.map fun g => (.inl g.1, .ref g.2.1)) (.inl k) (.ref p))) p = some (.ml []) := by rw [mset_ne pl, mset_same]
    refine ⟨p, rfl, ⟨_, hl⟩, (hn _).mono fun d μ2 ⟨e1, e2⟩ => ?_⟩
    subst e1 e2
    refine ⟨_, hl, ?_, ?_⟩
    · rw [sizeLine_eq]; simp
    · exact q _ _ (two.add np hk n) (gKeep_more gs p hk n)
section
variable {P : Program} {w : World} {K : PySem.W.Frag} {mg : Str → Option Value} {base : Heap} {T : TabS} {f C : Addr} {fd : FuncData}
theorem d_init (fr : Free mg) (wc : WebC K C) {c Pt : Addr} {dvs : List V} (hcd : fd.code = .ref c) (TB : LamX.TabB base mg c Pt) (hm : (Pt, ("Web.__init__.<locals>.<lambda>" : Str)) ∈ T) (hu : ∀ p ∈ T, p.1 = Pt → p.2 = "Web.__init__.<locals>.<lambda>")
    (F : FunD K "__init__" "Web.__init__" (defArgs (meth 0)) (defBody (meth 0)) (defScope (meth 0)) dvs [] f fd) : FnOk P w K mg base CX0 5 f fd ["self", "knots", "ties"] (SpD K T (S_init C)) := by
  refine fn_okDc F hcd sm0 (fun ds μ Q ⟨_, _, _, h, _⟩ => by rw [h]; rfl) fun A outer s H E ds μ Q hr ⟨x, dx, W0, e, em, win, q⟩ => ?_
  subst e
  refine wss_cons (ws_fld (we_freezeD (we_dcM (own := [("number", 3), ("kind", 4), ("worths", 8)]) sm0.nd rfl (blkOk_by (by kernel_rfl)) ?_ (wi_seq (we_sortedKey rfl fr.sorted ?_ hr.units rfl (k_ns _ (by kernel_rfl)) (fun _ _ _ _ _ _ => rfl) (we_var 1 rfl ⟨knIn W0, .lst, ?_, we_lambda TB rfl hm hu (NdefX.ndef_free (fr := []) (by kernel_rfl)) fun c' => ⟨_, _, _, rfl, .lst, fun ys hp hs => ⟨_, .lst, fun hz => ?_⟩⟩⟩))))))
  · intro i hi d
    simp at hi
    rcases hi with rfl | rfl | rfl <;> exact fun z => nomatch z
  · have := hr.dp
    show (A.deeper (envOfC "Web.__init__" (defScope (meth 0)) s.heap.objs.size f (.ref c))).depth + 5 < recursionLimit
    omega
  · intro y hy
    unfold knIn at hy
    obtain ⟨p, _, rfl⟩ := List.mem_map.mp hy
    simp
  obtain ⟨kn, hkn, rfl⟩ := perm_map_back (fun p : Int × Str × List (Str × D) => (p.1, [D.str p.2.1, wsD p.2.2])) hp W0.knots rfl
  have ek : keyed (kn.map fun p : Int × Str × List (Str × D) => (p.1, [D.str p.2.1, wsD p.2.2])) = kn.map fun p => .tup [.int p.1, .str p.2.1, wsD p.2.2] := by unfold keyed; rw [List.map_map]; rfl
  rw [ek]
  refine dc_fm kn (fun p => .tup [.int p.1, .str p.2.1, wsD p.2.2]) (fun p => .inl p.1) (fun p => ptD p.2) ?_ (fun l nl => ⟨l, _, rfl, mset_same, we_var 0 rfl ?_⟩) fun p hpm s H C cl fp => ?_
  · have := ((hkn.map (·.1)).nodup_iff.mpr win.kn)
    have e : (kn.map fun p => (Sum.inl p.1 : Key)) = (kn.map (·.1)).map Sum.inl := by rw [List.map_map]; rfl
    rw [e]
    exact List.pairwise_map.mpr (this.imp fun h z => h (Sum.inl.inj z))
  rotate_left
  · refine wg_tup rfl ⟨_, rfl, rfl, wgs_cons (wg_name 3 sm0.nd (wgs_cons (wg_name 4 sm0.nd (wgs_cons (wg_name 8 sm0.nd (wgs_nil fun s H C cl fp => we_var 3 rfl ⟨rfl, fun s H C cl fp => ?_⟩))))))⟩
    exact we_tup (wa_two (we_var 4 rfl (we_dictC rfl fr.dict (we_var 8 rfl ⟨_, .dic, by rw [sizeLine_eq]; simp, rfl, rfl⟩))))
  rw [mdel_mset nl]
  refine ⟨x, C, dx, [], rfl, em, wc.cls, wc.points, by decide, ?_⟩
  let f1 : List (Str × D) := [("points", .dic (kn.map fun p => (.inl p.1, ptD p.2)))]
  have ef1 : putFr "points" (.dic (kn.map fun p => (.inl p.1, ptD p.2))) [] = f1 := rfl
  rw [ef1]
  refine wss_cons (ws_fld (we_freezeD (we_dcM (own := [("number", 3), ("rest", 9)]) sm0.nd rfl (blkOk_by (by kernel_rfl)) ?_ (wi_seq (we_sortedKey rfl fr.sorted ?_ hr.units rfl (k_ns _ (by kernel_rfl)) (fun _ _ _ _ _ _ => rfl) (we_var 2 rfl ⟨tiIn W0, .lst, ?_, we_lambda TB rfl hm hu (NdefX.ndef_free (fr := []) (by kernel_rfl)) fun c' => ⟨_, _, _, rfl, .lst, fun ys hp hs => ⟨_, .lst, fun hz => ?_⟩⟩⟩))))))
  · intro i hi d
    simp at hi
    rcases hi with rfl | rfl <;> exact fun z => nomatch z
  · have := hr.dp
    show (A.deeper (envOfC "Web.__init__" (defScope (meth 0)) s.heap.objs.size f (.ref c))).depth + 5 < recursionLimit
    omega
  · intro y hy
    unfold tiIn at hy
    obtain ⟨p, _, rfl⟩ := List.mem_map.mp hy
    simp
  obtain ⟨ts, hts, rfl⟩ := perm_map_back (fun t : Int × Str × Int × Int × Int => (t.1, [D.str t.2.1, .int t.2.2.1, .int t.2.2.2.1, .int t.2.2.2.2])) hp W0.ties rfl
  have et : keyed (ts.map fun t : Int × Str × Int × Int × Int => (t.1, [D.str t.2.1, .int t.2.2.1, .int t.2.2.2.1, .int t.2.2.2.2])) = ts.map fun t => .tup [.int t.1, .str t.2.1, .int t.2.2.1, .int t.2.2.2.1, .int t.2.2.2.2] := by unfold keyed; rw [List.map_map]; rfl
  rw [et]
  refine dc_fm ts (fun t => .tup [.int t.1, .str t.2.1, .int t.2.2.1, .int t.2.2.2.1, .int t.2.2.2.2]) (fun t => .inl t.1) (fun t => tieD t.2) ?_ (fun l nl => ⟨l, _, rfl, mset_same, we_var 0 rfl ?_⟩) fun t htm s H C cl fp => ?_
  · have := ((hts.map (·.1)).nodup_iff.mpr win.tn)
    have e : (ts.map fun t => (Sum.inl t.1 : Key)) = (ts.map (·.1)).map Sum.inl := by rw [List.map_map]; rfl
    rw [e]
    exact List.pairwise_map.mpr (this.imp fun h z => h (Sum.inl.inj z))
  rotate_left
  · refine wg_star2 rfl ⟨_, _, .tup, wgs_cons (wg_name 3 sm0.nd (wgs_cons (wg_name 9 sm0.nd (wgs_nil fun s H C cl fp => we_var 3 rfl ⟨rfl, fun s H C cl fp => ?_⟩))))⟩
    exact we_tuple rfl fr.tuple (we_var 9 rfl ⟨_, .lst, rfl, rfl⟩)
  rw [mdel_mset nl]
  refine ⟨x, C, dx, f1, rfl, mset_same, wc.cls, wc.links, by simp [f1], ?_⟩
  rw [mset_mset]
  let f2 : List (Str × D) := [("points", .dic (kn.map fun p => (.inl p.1, ptD p.2))), ("links", .dic (ts.map fun t => (.inl t.1, tieD t.2)))]
  have ef2 : putFr "links" (.dic (ts.map fun t => (.inl t.1, tieD t.2))) f1 = f2 := rfl
  rw [ef2]
  refine wss_cons (ws_fld (we_dict0M fun lg ng => we_var 0 rfl ⟨x, C, dx, f2, rfl, ?_, wc.cls, wc.going, by simp [f2], ?_⟩))
  · rw [mset_ne (by rintro rfl; rw [mset_same] at ng; cases ng), mset_same]
  have xg : x ≠ lg := by rintro rfl; rw [mset_same] at ng; cases ng
  let f3 : List (Str × D) := [("points", .dic (kn.map fun p => (.inl p.1, ptD p.2))), ("links", .dic (ts.map fun t => (.inl t.1, tieD t.2))), ("going", .ref lg)]
  have ef3 : putFr "going" (.ref lg) f2 = f3 := rfl
  rw [ef3]
  refine wss_cons (ws_fld (we_dict0M fun lc nc => we_var 0 rfl ⟨x, C, dx, f3, rfl, ?_, wc.cls, wc.coming, by simp [f3], ?_⟩))
  · rw [mset_ne (by rintro rfl; rw [mset_same] at nc; cases nc), mset_same]
  have xc : x ≠ lc := by
    rintro rfl; rw [mset_same] at nc; cases nc
  have gc : lg ≠ lc := by rintro rfl; rw [mset_ne (Ne.symm xg), mset_same] at nc; cases nc
  have n0g : μ lg = none := by rw [mset_ne (Ne.symm xg)] at ng; exact ng
  have n0c : μ lc = none := by rw [mset_ne (Ne.symm xc), mset_ne (Ne.symm gc), mset_ne (Ne.symm xc)] at nc; exact nc
  let f4 : List (Str × D) := [("points", .dic (kn.map fun p => (.inl p.1, ptD p.2))), ("links", .dic (ts.map fun t => (.inl t.1, tieD t.2))), ("going", .ref lg), ("coming", .ref lc)]
  have ef4 : putFr "coming" (.ref lc) f3 = f4 := rfl
  rw [ef4]
  have tl : ts.length ≤ 10 := by rw [hts.length_eq]; exact win.ties
  have two0 : Two μ (mset (mset (mset (mset (mset μ x (.mi C dx f2)) lg (.md [])) x (.mi C dx f3)) lc (.md [])) x (.mi C dx f4)) x lg lc C dx f4 [] [] := by
    refine ⟨⟨?_, fun g h => (nomatch h), List.nodup_nil, List.nodup_nil, fun g h => (nomatch h)⟩, ⟨?_, fun g h => (nomatch h), List.nodup_nil, List.nodup_nil, fun g h => (nomatch h)⟩, mset_same, fun a o e hne => ?_, n0g, n0c, fun g h => (nomatch h), fun g h => (nomatch h), fun g h => (nomatch h), gc⟩
    · rw [mset_ne (Ne.symm xg), mset_ne gc, mset_ne (Ne.symm xg), mset_same]; rfl
    · rw [mset_ne (Ne.symm xc), mset_same]; rfl
    · have h1 : a ≠ lg := by rintro rfl; rw [n0g] at e; cases e
      have h2 : a ≠ lc := by rintro rfl; rw [n0c] at e; cases e
      rw [mset_ne hne, mset_ne h2, mset_ne hne, mset_ne h1, mset_ne hne]; exact e
  refine wss_cons (ws_for (ks := [3, 4, 5, 6, 7]) rfl (wi_items (we_fld (we_var 0 rfl ⟨x, C, dx, f4, _, rfl, mset_same, wc.cls, wc.links, rfl, _, rfl, by rw [List.length_map, sizeLine_eq]; omega,
    fun i G' μ' => (∃ o3 o4 o5 o6 o7, G' = [some (.ref x), some (.lst (keyed (knIn W0))), some (.lst (keyed (tiIn W0))), o3, o4, o5, o6, o7, none, none]) ∧ ∃ gs cs, Two μ μ' x lg lc C dx f4 gs cs ∧ gKeep gs = adjOf (ts.take i) fstE ∧ gKeep cs = adjOf (ts.take i) sndE,
    ⟨⟨_, _, _, _, _, rfl⟩, [], [], two0, rfl, rfl⟩, ?_, ?_⟩))))
  · rintro i d G' μ' ed ⟨⟨o3, o4, o5, o6, o7, rfl⟩, gs, cs, two, kg, kc⟩
    rw [List.getElem?_map, List.getElem?_map] at ed
    cases et : ts[i]? with
    | none => rw [et] at ed; cases ed
    | some t =>
      rw [et] at ed; cases ed
      have small : ∀ (side : Str × Int × Int × Int → Int) (gs : List (Int × Addr × List Int)), gKeep gs = adjOf (ts.take i) side → gs.length ≤ 10 ∧ ∀ g ∈ gs, g.2.2.length ≤ 1000 := fun side gs hk => by
        have h0 : (ts.take i).length ≤ 10 := by rw [List.length_take]; omega
        constructor
        · have := adjOf_len side (ts.take i)
          rw [← hk, gKeep, List.length_map] at this; omega
        · intro g hg
          have := adjOf_lens side (ts.take i) (g.1, g.2.2) (by rw [← hk]; exact List.mem_map.mpr ⟨g, hg, rfl⟩)
          have h1 : g.2.2.length ≤ (ts.take i).length := this
          omega
      refine wg_tup rfl ⟨_, rfl, rfl, wgs_cons (wg_name 3 sm0.nd (wgs_cons (wg_tup rfl ⟨_, rfl, rfl, wgs_cons (wg_name 4 sm0.nd (wgs_cons (wg_name 5 sm0.nd (wgs_cons (wg_name 6 sm0.nd (wgs_cons (wg_name 7 sm0.nd (wgs_nil (wgs_nil ?_)))))))))⟩)))⟩
      refine wss_cons (ws_expr (we_append (we_dsetd ⟨rfl, rfl, rfl, rfl⟩ (we_fld (we_var 0 rfl ⟨x, C, dx, f4, _, rfl, two.xx, wc.cls, wc.going, rfl, lg, rfl, ⟨_, two.g.md⟩, we_var 5 rfl (we_lstM (wa_nil ⟨Nat.zero_le _, fun p np => ⟨gs.map fun g => (.inl g.1, .ref g.2.1), .inl t.2.2.1, ?_, rfl, ?_, ?_⟩⟩))⟩)))))
      · rw [mset_ne (Ne.symm (two.g.isR np).1)]; exact two.g.md
      · rw [List.length_map, sizeLine_eq]; have := (small fstE gs kg).1; omega
      refine two_go (n := t.1) two (small fstE gs kg).2 ?_ (fun μ2 gs' two2 kg2 => ?_) np
      · exact fun μ1 => we_var 3 rfl ⟨rfl, rfl⟩
      rw [kg] at kg2
      refine wss_one (ws_expr (we_append (we_dsetd ⟨rfl, rfl, rfl, rfl⟩ (we_fld (we_var 0 rfl ⟨x, C, dx, f4, _, rfl, two2.xx, wc.cls, wc.coming, rfl, lc, rfl, ⟨_, two2.c.md⟩, we_var 6 rfl (we_lstM (wa_nil ⟨Nat.zero_le _, fun p np => ⟨cs.map fun g => (.inl g.1, .ref g.2.1), .inl t.2.2.2.1, ?_, rfl, ?_, ?_⟩⟩))⟩)))))
      · rw [mset_ne (Ne.symm (two2.c.isR np).1)]; exact two2.c.md
      · rw [List.length_map, sizeLine_eq]; have := (small sndE cs kc).1; omega
      refine two_go (n := t.1) two2.swap (small sndE cs kc).2 ?_ (fun μ3 cs' two3 kc2 => ?_) np
      · exact fun μ1 => we_var 3 rfl ⟨rfl, rfl⟩
      rw [kc] at kc2
      exact ⟨⟨_, _, _, _, _, rfl⟩, gs', cs', two3.swap, kg2.trans (adjOf_snoc fstE ts et).symm, kc2.trans (adjOf_snoc sndE ts et).symm⟩
  · rintro G' μ' ⟨⟨o3, o4, o5, o6, o7, rfl⟩, gs, cs, two, kg, kc⟩
    have hl : ((ts.map fun t => ((.inl t.1 : Key), tieD t.2)).map fun kv => D.tup [kD kv.1, kv.2]).length = ts.length := by rw [List.length_map, List.length_map]
    rw [hl, List.take_length] at kg kc
    refine wss_fixAll gs [] (l := lg) two.g.md two.g.ml two.g.kn two.g.an fun μ1 h1 h2 => ?_
    rw [List.nil_append, kg] at h1
    have x1 : μ1 x = some (.mi C dx f4) := by rw [h2 x two.xl two.xg]; exact two.xx
    refine wss_fixF (x := "going") x1 h1 rfl ?_
    have lcl : lc ≠ lg := Ne.symm gc
    refine wss_fixAll cs [] (l := lc) ?_ ?_ two.c.kn two.c.an fun μ2 h3 h4 => ?_
    · rw [mdel_ne lcl, mset_ne (Ne.symm xc), h2 lc lcl two.lg]; exact two.c.md
    · intro g hg
      rw [mdel_ne (two.lc g hg), mset_ne (two.swap.xg g hg), h2 _ (two.lc g hg) fun q hq => two.dis q hq g hg]; exact two.c.ml g hg
    rw [List.nil_append, kc] at h3
    have x2 : μ2 x = some (.mi C dx (putFr "going" (.dic (adjD (adjOf ts fstE))) f4)) := by rw [h4 x xc two.swap.xg, mdel_ne xg, mset_same]
    refine wss_fixF (x := "coming") x2 h3 rfl ?_
    refine WSs.weak (ν := mset μ x (.mi C dx (webF (mkWb kn ts)))) (wss_nil (q kn ts hkn hts)) fun a o e => ?_
    by_cases hx : a = x
    · subst hx
      rw [mset_same] at e; cases e
      rw [mdel_ne xc, mset_same]; rfl
    · rw [mset_ne hx] at e
      have a1 : a ≠ lg := by rintro rfl; rw [n0g] at e; cases e
      have a2 : a ≠ lc := by rintro rfl; rw [n0c] at e; cases e
      have a3 : ∀ g ∈ gs, g.2.1 ≠ a := by rintro g hg rfl; rw [two.ng g hg] at e; cases e
      have a4 : ∀ g ∈ cs, g.2.1 ≠ a := by rintro g hg rfl; rw [two.nc g hg] at e; cases e
      rw [mdel_ne a2, mset_ne hx, h4 a a2 a4, mdel_ne a1, mset_ne hx, h2 a a1 a3]
      exact two.off a o e hx
end
end Ws
/-! Hd: the head. -/
namespace Ws
open PySem PyProof.Rows PySem.Spec L2
/-- defs of the module, by name and place -/
theorem tupAt_ok {K : PySem.W.Frag} {a : Addr} {vs : List V} (h : tupAt K a vs = true) (H : Hp) : SqT K H a vs := by
  unfold tupAt at h
  split at h
  · rename_i c od its n osl q
    obtain ⟨h1, h2⟩ := He.ba h
    obtain ⟨h3, h4⟩ := He.ba h2
    exact .inr ⟨_, its, n, q, congrArg Value.type (of_decide_eq_true h1), rfl, of_decide_eq_true h3, He.relAll_ok h4⟩
  · cases h
theorem aeB_ok {K : PySem.W.Frag} {C : Addr} (h : aeB K C = true) : ∃ nm q N bs sn sub ab col dd k0 k1 k2 k3 k5, K.lookup C = some (excClassObj nm q C N bs aeMro true sn sub ab col dd k0 k1 k2 k3 k5 "ArithmeticError.__new__") := by
  unfold aeB at h
  split at h
  · rename_i T dd cd sl ho
    obtain ⟨h1, h2⟩ := He.ba h
    split at h2
    · rename_i k0 k1 k2 k3 n k5 hs
      obtain ⟨h3, h4⟩ := He.ba h2
      obtain ⟨h5, h6⟩ := He.ba h4
      obtain ⟨h7, h8⟩ := He.ba h6
      have eT := of_decide_eq_true h1
      have en := of_decide_eq_true h3
      have em := of_decide_eq_true h5
      subst eT en
      obtain ⟨nm, bs, mro, ns, qn, hd, sn, sub, ab, col, del⟩ := cd
      dsimp only at em h7 h8
      subst em h7
      cases del with
      | true => cases h8
      | false =>
        obtain ⟨l⟩ := sl
        simp only at hs
        subst hs
        exact ⟨nm, qn, ns, bs, sn, sub, ab, col, dd, k0, k1, k2, k3, k5, ho⟩
    · cases h2
  · cases h
theorem excB_ok {K : PySem.W.Frag} {D : Addr} (h : excB K D = true) : ExcC K D := by
  obtain ⟨h1, h⟩ := He.ba h
  obtain ⟨h2, h⟩ := He.ba h
  obtain ⟨h3, h⟩ := He.ba h
  obtain ⟨h4, h⟩ := He.ba h
  obtain ⟨h5, h⟩ := He.ba h
  obtain ⟨h6, h⟩ := He.ba h
  obtain ⟨h7, h8⟩ := He.ba h
  exact ⟨of_decide_eq_true h1, of_decide_eq_true h2, of_decide_eq_true h3, h4, of_decide_eq_true h5, of_decide_eq_true h6, of_decide_eq_true h7, of_decide_eq_true h8⟩
theorem aiB_ok {K : PySem.W.Frag} (h : aiB K = true) : PySem.W.findCls K (.type "ArithmeticError") (.type "type") "__init__" = some (.val (.builtin "ArithmeticError.__init__")) := by
  unfold aiB at h
  split at h
  · rename_i n e
    rw [e, of_decide_eq_true h]
  · cases h
end Ws
/-! Hd2: the program's promises, from what the head tells. -/
namespace Ws
open PySem PyProof.Rows PySem.Spec L2
/-! ### C(..) -/
section
variable {X : Cx} {T : TabL} {G : GE} {μ : Mu} {p pos : Pos} {e : Expr} {es : List Expr} {Q : D → Mu → Prop} {C f : Addr} {fd : FuncData} {ps : List Str}
theorem we_make {k j : Nat} {x : Str} {S : DSp} (M : Mk X.K C f) (F : FnOk X.prog X.w X.K X.mg X.base CX0 k f fd ps (SpD X.K T.l S)) (hr : Room j X.A) (hb : Binds X.K fd ps []) (hm : X.mg x = some (.ref C))
    (h : WA X T G μ (e :: es) fun ds μ1 => ∀ a dx, μ1 a = none → S (.ref a :: ds) (mset μ1 a (.mi C dx [])) fun d μ2 => d = .non ∧ Q (.ref a) μ2) (hk : k + 1 ≤ j := by decide) (hg : Gl X x := by rfl) (hdb : (x == ("__debug__" : Str)) = false := by decide)
    (he : starEach (e :: es) X.env = (false, eval e X.env) :: starEach es X.env := by rfl) (hpl : (backTo pos (starEach es X.env)).any (·.1) = false := by rfl) : WE X T G μ (.Call (.Name x p) (e :: es) [] pos) Q := by
  refine WE.of (pe_make (E := E0) M F (hr.mono hk) hg hm hb .nil pass0 (paW (e :: es)) hdb he hpl) fun F0 R H σ hs hv => wA_mono (h F0 R H σ hs hv) fun vs H1 ⟨F1, ds, μ1, hs1, s1, r, q⟩ a dx na nd hne => ?_
  have na1 : upd H1 dx (.own a) a = none := by rw [upd_ne (Ne.symm hne)]; exact na
  refine ⟨F1, mset μ1 a (.mi C dx []), R, .ref a :: ds, fun d μ2 => d = .non ∧ Q (.ref a) μ2, (hs1.base.more (same_upd nd)).newM na1 (.mi .nil), .cons (.ref a) (by rw [List.append_nil]; exact r), q a dx (hs1.noM na), ?_⟩
  rintro v H2 ⟨F2, d, μ2, hs2, s2, rd, rfl, q2⟩
  cases rd
  exact ⟨rfl, F2, .ref a, μ2, hs2.up (hs1.lb.trans s2) hs1.rb, s1.trans s2, .ref a, q2⟩
end
structure MkWeb (P : Program) (w : World) (K : PySem.W.Frag) (mg : Str → Option Value) (base : Heap) (T : TabS) (C : Addr) : Prop where
  ex : ∃ f fd ps, Mk K C f ∧ Binds K fd ps [] ∧ FnOk P w K mg base CX0 5 f fd ps (SpD K T (S_init C)) ∧ mg "Web" = some (.ref C)
theorem we_web {X : Cx} {T : TabL} {G : GE} {μ : Mu} {p pos : Pos} {e : Expr} {es : List Expr} {Q : D → Mu → Prop} {C : Addr} {j : Nat} (mk : MkWeb X.prog X.w X.K X.mg X.base T.l C) (hr : Room j X.A)
    (h : WA X T G μ (e :: es) fun ds μ1 => ∃ W0, ds = [.lst (keyed (knIn W0)), .lst (keyed (tiIn W0))] ∧ WIn W0 ∧ ∀ a dx kn ts, μ1 a = none → kn.Perm W0.knots → ts.Perm W0.ties → Q (.ref a) (mset μ1 a (.mi C dx (webF (mkWb kn ts))))) (hk : 6 ≤ j := by decide) (hg : Gl X "Web" := by rfl)
    (he : starEach (e :: es) X.env = (false, eval e X.env) :: starEach es X.env := by rfl) (hpl : (backTo pos (starEach es X.env)).any (·.1) = false := by rfl) : WE X T G μ (.Call (.Name "Web" p) (e :: es) [] pos) Q := by
  obtain ⟨f, fd, ps, M, hb, F, hm⟩ := mk.ex
  refine we_make M F hr hb hm (fun F R H σ hs hv => wA_mono (h F R H σ hs hv) ?_) hk hg (by decide) he hpl
  rintro vs H1 ⟨F1, ds, μ1, hs1, s1, r, W0, rfl, win, q⟩
  exact ⟨F1, _, μ1, hs1, s1, r, fun a dx na => ⟨a, dx, W0, rfl, mset_same, win, fun kn ts h1 h2 => ⟨rfl, by rw [mset_mset]; exact q a dx kn ts na h1 h2⟩⟩⟩
/-! ### from the head -/
theorem code_cT {K : PySem.W.Frag} {x qual : Str} {params : Arguments} {body : List Stmt} {scope : Scope} {dvs : List V} {kws : List (Str × V)} {p : He.Defn} {fd : FuncData} (F : FunD K x qual params body scope dvs kws (He.fAd K p) fd) : fd.code = .ref (He.cT K p).1 := by
  obtain ⟨oc, od, dV, kV, doc, pm, an, cdv, ct, osl, rfl, lk, hcd, _, _⟩ := F.ex
  obtain ⟨c, rfl⟩ := He.codeIn_ref hcd
  show Value.ref c = Value.ref (He.codeOf K p)
  rw [He.codeOf_eq lk rfl]
/-- the lambdas' tables -/
def tabS (K : PySem.W.Frag) : TabS := [((He.cT K ("Web", some "__init__")).2, "Web.__init__.<locals>.<lambda>"), ((He.cT K ("step_of", none)).2, "step_of.<locals>.<lambda>")]
def Ca (K : PySem.W.Frag) : Addr := He.ga K "Web"
/-- what the law's walk leans on -/
structure Prg (P : Program) (w : World) (K : PySem.W.Frag) (mg : Str → Option Value) (base : Heap) (T : TabS) (C NP : Addr) : Prop where
  fr : Free mg
  ans : DefAt P w K mg base T 14 "answer" (S_answer C)
  plan : DefAt P w K mg base T 12 "plan" S_plan
  ansBy : DefAtX P w K mg base T 16 "answer_by" NP (S_ansBy C)
  web : MkWeb P w K mg base T C
  np : mg "NoPlan" = some (.ref NP)
  exm : PySem.W.exmOne K (.ref NP) (.ref NP) = some true
  exc : ExcC K NP
  kit : PySem.W.kitOne K (.ref NP) (.type "ArithmeticError") = some true
  ae : mg "ArithmeticError" = none
section
variable {P : Program} {w : World} {K : PySem.W.Frag} {mg : Str → Option Value} {base h : Heap}
theorem places_val {k : Str} {d : D} (e : placesV k = some d) : ∃ p ∈ placesL, p.1 = k ∧ d = .tup (p.2.map .int) := by
  unfold placesV at e
  by_cases h : k = "knot"
  · rw [if_pos h] at e; cases e; exact ⟨("knot", [1]), by unfold placesL; simp, h.symm, rfl⟩
  rw [if_neg h] at e; clear h
  by_cases h : k = "any"
  · rw [if_pos h] at e; cases e; exact ⟨("any", [1]), by unfold placesL; simp, h.symm, rfl⟩
  rw [if_neg h] at e; clear h
  by_cases h : k = "holds"
  · rw [if_pos h] at e; cases e; exact ⟨("holds", [1]), by unfold placesL; simp, h.symm, rfl⟩
  rw [if_neg h] at e; clear h
  by_cases h : k = "tie"
  · rw [if_pos h] at e; cases e; exact ⟨("tie", [1, 3]), by unfold placesL; simp, h.symm, rfl⟩
  rw [if_neg h] at e; clear h
  by_cases h : k = "way"
  · rw [if_pos h] at e; cases e; exact ⟨("way", [1, 3]), by unfold placesL; simp, h.symm, rfl⟩
  rw [if_neg h] at e; clear h
  by_cases h : k = "unlike"
  · rw [if_pos h] at e; cases e; exact ⟨("unlike", [1, 2]), by unfold placesL; simp, h.symm, rfl⟩
  rw [if_neg h] at e; clear h
  cases e
theorem steps_val {gK gT gL : Addr} {k : Str} {d : D} (e : stepsV gK gT gL k = some d) : ∃ p ∈ stepsL, p.1 = k ∧ d = .ref (if p.2 = "by_knots" then gK else if p.2 = "by_ties" then gT else gL) := by
  unfold stepsV at e
  by_cases h : k = "knot"
  · rw [if_pos h] at e; cases e; exact ⟨("knot", "by_knots"), by unfold stepsL; simp, h.symm, by rw [if_pos rfl]⟩
  rw [if_neg h] at e; clear h
  by_cases h : k = "any"
  · rw [if_pos h] at e; cases e; exact ⟨("any", "by_knots"), by unfold stepsL; simp, h.symm, by rw [if_pos rfl]⟩
  rw [if_neg h] at e; clear h
  by_cases h : k = "tie"
  · rw [if_pos h] at e; cases e; exact ⟨("tie", "by_ties"), by unfold stepsL; simp, h.symm, by rw [if_neg (by decide), if_pos rfl]⟩
  rw [if_neg h] at e; clear h
  by_cases h : k = "way"
  · rw [if_pos h] at e; cases e; exact ⟨("way", "by_ties"), by unfold stepsL; simp, h.symm, by rw [if_neg (by decide), if_pos rfl]⟩
  rw [if_neg h] at e; clear h
  by_cases h : k = "holds"
  · rw [if_pos h] at e; cases e; exact ⟨("holds", "by_looks"), by unfold stepsL; simp, h.symm, by rw [if_neg (by decide), if_neg (by decide)]⟩
  rw [if_neg h] at e; clear h
  by_cases h : k = "unlike"
  · rw [if_pos h] at e; cases e; exact ⟨("unlike", "by_looks"), by unfold stepsL; simp, h.symm, by rw [if_neg (by decide), if_neg (by decide)]⟩
  rw [if_neg h] at e; clear h
  by_cases h : k = "no"
  · rw [if_pos h] at e; cases e; exact ⟨("no", "by_looks"), by unfold stepsL; simp, h.symm, by rw [if_neg (by decide), if_neg (by decide)]⟩
  rw [if_neg h] at e; clear h
  cases e
theorem tups_rep {K : PySem.W.Frag} {F : Hp} {a : Addr} {ns : List Int} (h : ∀ H : Hp, SqT K H a (ns.map V.int)) : Rep K F (.tup (ns.map .int)) (.ref a) := .tup (h F) (Reps.ofInts ns)
theorem tups_repS {K : PySem.W.Frag} {F : Hp} {a : Addr} {ns : List Str} (h : ∀ H : Hp, SqT K H a (ns.map V.str)) : Rep K F (.tup (ns.map .str)) (.ref a) := .tup (h F) (Reps.ofStrs ns)
theorem fine_sub : ∀ {rs : List Row}, (∀ r ∈ rs, r.fine) → ∃ rs' : List {r : Row // r.fine}, rs = rs'.map (·.1)
  | [], _ => ⟨[], rfl⟩
  | r :: rs, h => by
    obtain ⟨rs', e⟩ := fine_sub (rs := rs) fun x hx => h x (List.mem_cons_of_mem _ hx)
    exact ⟨⟨r, h r List.mem_cons_self⟩ :: rs', by rw [List.map_cons, ← e]⟩
/-- THE PROGRAM'S PROMISES -/
theorem prg_of (KX : K.In h) (G : h.Ns mainGlobals mg) (c : He.SaysX fa defs tabs tf ex w h K) (TB : ∀ p ∈ tf.map (He.cT K), LamX.TabB base mg p.1 p.2) : Prg P w K mg base (tabS K) (Ca K) (NPa K) := by
  have cd := c.t.d
  have ft : ∀ {f : He.Fa}, f ∈ fa → f.ok K = true := fun hf => cd.facts hf
  have fre : ∀ x : Str, He.Fa.free x ∈ fa → mg x = none := fun x hf => He.free_ok KX G (ft hf)
  have glo : ∀ x : Str, He.Fa.glo x ∈ fa → mg x = some (.ref (He.ga K x)) := fun x hf => He.glo_ok KX G (ft hf)
  have fr : Free mg := ⟨fre _ (by simp [fa, facts0]), fre _ (by simp [fa, facts0]), fre _ (by simp [fa, facts0]), fre _ (by simp [fa, facts0]), fre _ (by simp [fa, facts0]), fre _ (by simp [fa, facts0]), fre _ (by simp [fa, facts0]), fre _ (by simp [fa, facts0]), fre _ (by simp [fa, facts0]), fre _ (by simp [fa, facts0]), fre _ (by simp [fa, facts0]), fre _ (by simp [fa, facts0]), fre _ (by simp [fa, facts0]), fre _ (by simp [fa, facts0]), fre _ (by simp [fa, facts0])⟩
  have gl : ∀ (n : Nat) (d : He.DefD), defs[n]? = some d → d.at_.2.isNone = true → He.Fa.glo d.at_.1 ∈ fa := fun n d hd hn => List.mem_append_right _ (List.mem_map.mpr ⟨d, List.mem_filter.mpr ⟨List.mem_of_getElem? hd, hn⟩, rfl⟩)
  obtain ⟨fd5, F5⟩ := cd.def_ 0 (d := dF "is_whole" 5) rfl
  have F5 : FnP K "is_whole" (top 5) (He.ga K "is_whole") fd5 := F5
  have g5 := glo "is_whole" (gl 0 _ rfl rfl)
  obtain ⟨fd9, F9⟩ := cd.def_ 1 (d := dF "unlike_ones" 9) rfl
  have F9 : FnP K "unlike_ones" (top 9) (He.ga K "unlike_ones") fd9 := F9
  have g9 := glo "unlike_ones" (gl 1 _ rfl rfl)
  obtain ⟨fd10, F10⟩ := cd.def_ 2 (d := dF "variables_of" 10) rfl
  have F10 : FnP K "variables_of" (top 10) (He.ga K "variables_of") fd10 := F10
  have g10 := glo "variables_of" (gl 2 _ rfl rfl)
  obtain ⟨fd11, F11⟩ := cd.def_ 3 (d := dF "variables_in" 11) rfl
  have F11 : FnP K "variables_in" (top 11) (He.ga K "variables_in") fd11 := F11
  have g11 := glo "variables_in" (gl 3 _ rfl rfl)
  obtain ⟨fd12, F12⟩ := cd.def_ 4 (d := dF "outer_rows" 12) rfl
  have F12 : FnP K "outer_rows" (top 12) (He.ga K "outer_rows") fd12 := F12
  have g12 := glo "outer_rows" (gl 4 _ rfl rfl)
  obtain ⟨fd13, F13⟩ := cd.def_ 5 (d := dF "outer_variables" 13) rfl
  have F13 : FnP K "outer_variables" (top 13) (He.ga K "outer_variables") fd13 := F13
  have g13 := glo "outer_variables" (gl 5 _ rfl rfl)
  obtain ⟨fd14, F14⟩ := cd.def_ 6 (d := dF "bound_in" 14) rfl
  have F14 : FnP K "bound_in" (top 14) (He.ga K "bound_in") fd14 := F14
  have g14 := glo "bound_in" (gl 6 _ rfl rfl)
  obtain ⟨fd15, F15⟩ := cd.def_ 7 (d := dF "alone_in" 15) rfl
  have F15 : FnP K "alone_in" (top 15) (He.ga K "alone_in") fd15 := F15
  have g15 := glo "alone_in" (gl 7 _ rfl rfl)
  obtain ⟨fd19, F19⟩ := cd.def_ 8 (d := dF "far_by_ties" 19) rfl
  have F19 : FnP K "far_by_ties" (top 19) (He.ga K "far_by_ties") fd19 := F19
  have g19 := glo "far_by_ties" (gl 8 _ rfl rfl)
  obtain ⟨fd20, F20⟩ := cd.def_ 9 (d := dF "near_by_ties" 20) rfl
  have F20 : FnP K "near_by_ties" (top 20) (He.ga K "near_by_ties") fd20 := F20
  have g20 := glo "near_by_ties" (gl 9 _ rfl rfl)
  obtain ⟨fd21, F21⟩ := cd.def_ 10 (d := dF "far_by_way" 21) rfl
  have F21 : FnP K "far_by_way" (top 21) (He.ga K "far_by_way") fd21 := F21
  have g21 := glo "far_by_way" (gl 10 _ rfl rfl)
  obtain ⟨fd22, F22⟩ := cd.def_ 11 (d := dF "near_by_way" 22) rfl
  have F22 : FnP K "near_by_way" (top 22) (He.ga K "near_by_way") fd22 := F22
  have g22 := glo "near_by_way" (gl 11 _ rfl rfl)
  obtain ⟨fd23, F23⟩ := cd.def_ 12 (d := dF "is_worth_so" 23) rfl
  have F23 : FnP K "is_worth_so" (top 23) (He.ga K "is_worth_so") fd23 := F23
  have g23 := glo "is_worth_so" (gl 12 _ rfl rfl)
  obtain ⟨fd24, F24⟩ := cd.def_ 13 (d := dF "holds_plain" 24) rfl
  have F24 : FnP K "holds_plain" (top 24) (He.ga K "holds_plain") fd24 := F24
  have g24 := glo "holds_plain" (gl 13 _ rfl rfl)
  obtain ⟨fd25, F25⟩ := cd.def_ 14 (d := dF "holds_row" 25) rfl
  have F25 : FnP K "holds_row" (top 25) (He.ga K "holds_row") fd25 := F25
  have g25 := glo "holds_row" (gl 14 _ rfl rfl)
  obtain ⟨fd26, F26⟩ := cd.def_ 15 (d := dF "waiting_on" 26) rfl
  have F26 : FnP K "waiting_on" (top 26) (He.ga K "waiting_on") fd26 := F26
  have g26 := glo "waiting_on" (gl 15 _ rfl rfl)
  obtain ⟨fd27, F27⟩ := cd.def_ 16 (d := dF "with_knot" 27) rfl
  have F27 : FnP K "with_knot" (top 27) (He.ga K "with_knot") fd27 := F27
  have g27 := glo "with_knot" (gl 16 _ rfl rfl)
  obtain ⟨fd28, F28⟩ := cd.def_ 17 (d := dF "bindings" 28) rfl
  have F28 : FnP K "bindings" (top 28) (He.ga K "bindings") fd28 := F28
  have g28 := glo "bindings" (gl 17 _ rfl rfl)
  obtain ⟨fd29, F29⟩ := cd.def_ 18 (d := dF "all_bindings" 29) rfl
  have F29 : FnP K "all_bindings" (top 29) (He.ga K "all_bindings") fd29 := F29
  have g29 := glo "all_bindings" (gl 18 _ rfl rfl)
  obtain ⟨fd30, F30⟩ := cd.def_ 19 (d := dF "shown_of" 30) rfl
  have F30 : FnP K "shown_of" (top 30) (He.ga K "shown_of") fd30 := F30
  have g30 := glo "shown_of" (gl 19 _ rfl rfl)
  obtain ⟨fd31, F31⟩ := cd.def_ 20 (d := dF "answer" 31) rfl
  have F31 : FnP K "answer" (top 31) (He.ga K "answer") fd31 := F31
  have g31 := glo "answer" (gl 20 _ rfl rfl)
  obtain ⟨fd33, F33⟩ := cd.def_ 21 (d := dF "wanted_by" 33) rfl
  have F33 : FnP K "wanted_by" (top 33) (He.ga K "wanted_by") fd33 := F33
  have g33 := glo "wanted_by" (gl 21 _ rfl rfl)
  obtain ⟨fd34, F34⟩ := cd.def_ 22 (d := dF "is_ready" 34) rfl
  have F34 : FnP K "is_ready" (top 34) (He.ga K "is_ready") fd34 := F34
  have g34 := glo "is_ready" (gl 22 _ rfl rfl)
  obtain ⟨fd35, F35⟩ := cd.def_ 23 (d := dF "first_of" 35) rfl
  have F35 : FnP K "first_of" (top 35) (He.ga K "first_of") fd35 := F35
  have g35 := glo "first_of" (gl 23 _ rfl rfl)
  obtain ⟨fd36, F36⟩ := cd.def_ 24 (d := dF "step_of" 36) rfl
  have F36 : FnP K "step_of" (top 36) (He.ga K "step_of") fd36 := F36
  have g36 := glo "step_of" (gl 24 _ rfl rfl)
  obtain ⟨fd37, F37⟩ := cd.def_ 25 (d := dF "plan_of" 37) rfl
  have F37 : FnP K "plan_of" (top 37) (He.ga K "plan_of") fd37 := F37
  have g37 := glo "plan_of" (gl 25 _ rfl rfl)
  obtain ⟨fd38, F38⟩ := cd.def_ 26 (d := dF "plan" 38) rfl
  have F38 : FnP K "plan" (top 38) (He.ga K "plan") fd38 := F38
  have g38 := glo "plan" (gl 26 _ rfl rfl)
  obtain ⟨fd39, F39⟩ := cd.def_ 27 (d := dF "need_order" 39) rfl
  have F39 : FnP K "need_order" (top 39) (He.ga K "need_order") fd39 := F39
  have g39 := glo "need_order" (gl 27 _ rfl rfl)
  obtain ⟨fd40, F40⟩ := cd.def_ 28 (d := dF "knots_of_kind" 40) rfl
  have F40 : FnP K "knots_of_kind" (top 40) (He.ga K "knots_of_kind") fd40 := F40
  have g40 := glo "knots_of_kind" (gl 28 _ rfl rfl)
  obtain ⟨fd41, F41⟩ := cd.def_ 29 (d := dF "by_knots" 41) rfl
  have F41 : FnP K "by_knots" (top 41) (He.ga K "by_knots") fd41 := F41
  have g41 := glo "by_knots" (gl 29 _ rfl rfl)
  obtain ⟨fd42, F42⟩ := cd.def_ 30 (d := dF "by_ties" 42) rfl
  have F42 : FnP K "by_ties" (top 42) (He.ga K "by_ties") fd42 := F42
  have g42 := glo "by_ties" (gl 30 _ rfl rfl)
  obtain ⟨fd43, F43⟩ := cd.def_ 31 (d := dF "by_looks" 43) rfl
  have F43 : FnP K "by_looks" (top 43) (He.ga K "by_looks") fd43 := F43
  have g43 := glo "by_looks" (gl 31 _ rfl rfl)
  obtain ⟨fd45, F45⟩ := cd.def_ 32 (d := dF "answer_by" 45) rfl
  have F45 : FnP K "answer_by" (top 45) (He.ga K "answer_by") fd45 := F45
  have g45 := glo "answer_by" (gl 32 _ rfl rfl)
  obtain ⟨fm3, M3⟩ := cd.def_ 55 (d := dM "knots" "Web.knots" 3) rfl
  have M3 : MfP K "knots" "Web.knots" (meth 3) (He.ma K (Ca K) "knots") fm3 := M3
  have e3 := He.meth_ok (ft (f := .meth "Web" "knots") (by simp [fa, facts0]))
  obtain ⟨fm5, M5⟩ := cd.def_ 56 (d := dM "point" "Web.point" 5) rfl
  have M5 : MfP K "point" "Web.point" (meth 5) (He.ma K (Ca K) "point") fm5 := M5
  have e5 := He.meth_ok (ft (f := .meth "Web" "point") (by simp [fa, facts0]))
  obtain ⟨fm6, M6⟩ := cd.def_ 57 (d := dM "kind" "Web.kind" 6) rfl
  have M6 : MfP K "kind" "Web.kind" (meth 6) (He.ma K (Ca K) "kind") fm6 := M6
  have e6 := He.meth_ok (ft (f := .meth "Web" "kind") (by simp [fa, facts0]))
  obtain ⟨fm7, M7⟩ := cd.def_ 58 (d := dM "worths" "Web.worths" 7) rfl
  have M7 : MfP K "worths" "Web.worths" (meth 7) (He.ma K (Ca K) "worths") fm7 := M7
  have e7 := He.meth_ok (ft (f := .meth "Web" "worths") (by simp [fa, facts0]))
  obtain ⟨fm8, M8⟩ := cd.def_ 59 (d := dM "outs" "Web.outs" 8) rfl
  have M8 : MfP K "outs" "Web.outs" (meth 8) (He.ma K (Ca K) "outs") fm8 := M8
  have e8 := He.meth_ok (ft (f := .meth "Web" "outs") (by simp [fa, facts0]))
  obtain ⟨fm9, M9⟩ := cd.def_ 60 (d := dM "ins" "Web.ins" 9) rfl
  have M9 : MfP K "ins" "Web.ins" (meth 9) (He.ma K (Ca K) "ins") fm9 := M9
  have e9 := He.meth_ok (ft (f := .meth "Web" "ins") (by simp [fa, facts0]))
  obtain ⟨fm10, M10⟩ := cd.def_ 61 (d := dM "tie" "Web.tie" 10) rfl
  have M10 : MfP K "tie" "Web.tie" (meth 10) (He.ma K (Ca K) "tie") fm10 := M10
  have e10 := He.meth_ok (ft (f := .meth "Web" "tie") (by simp [fa, facts0]))
  obtain ⟨fdI, FI⟩ := cd.def_ 54 rfl
  obtain ⟨fdN, FN⟩ := cd.def_ 62 rfl
  -- what else was looked at
  have hx := c.more
  unfold ex at hx
  obtain ⟨x1, hx⟩ := He.ba hx
  obtain ⟨x2, hx⟩ := He.ba hx
  obtain ⟨x3, hx⟩ := He.ba hx
  obtain ⟨x4, hx⟩ := He.ba hx
  obtain ⟨x5, hx⟩ := He.ba hx
  obtain ⟨x6, hx⟩ := He.ba hx
  obtain ⟨x7, hx⟩ := He.ba hx
  obtain ⟨x8, hx⟩ := He.ba hx
  obtain ⟨x9, hx⟩ := He.ba hx
  obtain ⟨x10, x11⟩ := He.ba hx
  have hne := of_decide_eq_true x11
  have gP := glo "PLACES" (by simp [fa, facts0])
  have gS := glo "STEPS" (by simp [fa, facts0])
  have gB := glo "BINDING" (by simp [fa, facts0])
  have gW := glo "Web" (by simp [fa, facts0])
  have gN := glo "NoPlan" (by simp [fa, facts0])
  have hPl : TabAt K w mg "PLACES" placesV := by
    obtain ⟨es, n, kd⟩ := c.t.tab 0 rfl
    refine ⟨_, gP, fun k d hd => ?_⟩
    obtain ⟨p, hp, rfl, rfl⟩ := places_val hd
    obtain ⟨u, hu, ru⟩ := He.valsB_ok x2 (q := (p.1, .adr (pAd p.1))) (List.mem_map.mpr ⟨p, hp, rfl⟩)
    exact ⟨_, ⟨es, n, u, kd.at_, kd.lit, hu, ru⟩, fun F => tups_rep fun H => tupAt_ok (List.all_eq_true.mp x3 p hp) H⟩
  have hSt : TabAt K w mg "STEPS" (stepsV (He.ga K "by_knots") (He.ga K "by_ties") (He.ga K "by_looks")) := by
    obtain ⟨es, n, kd⟩ := c.t.tab 1 rfl
    refine ⟨_, gS, fun k d hd => ?_⟩
    obtain ⟨p, hp, rfl, rfl⟩ := steps_val hd
    obtain ⟨u, hu, ru⟩ := He.valsB_ok x4 (q := (p.1, .glo p.2)) (List.mem_map.mpr ⟨p, hp, rfl⟩)
    refine ⟨_, ⟨es, n, u, kd.at_, kd.lit, hu, ru⟩, fun F => ?_⟩
    have e : (He.Dv.glo p.2).v K = .ref (if p.2 = "by_knots" then He.ga K "by_knots" else if p.2 = "by_ties" then He.ga K "by_ties" else He.ga K "by_looks") := by
      show V.ref (He.ga K p.2) = _
      simp only [stepsL, List.mem_cons, List.not_mem_nil, or_false] at hp
      rcases hp with rfl | rfl | rfl | rfl | rfl | rfl | rfl <;> first
        | (rw [if_neg (by decide), if_neg (by decide)])
        | (rw [if_neg (by decide), if_pos rfl])
        | (rw [if_pos rfl])
    rw [e]; exact .ref _
  have hB : GlobD K mg "BINDING" (.tup bindingD) := ⟨.ref (He.ga K "BINDING"), _, gB, rfl, fun F => tups_repS (ns := ["knot", "any", "tie", "way"]) fun H => He.tupB_ok x1 H⟩
  have wc : WebC K (Ca K) := ⟨He.cls_ok (ft (f := .cls "Web") (by simp [fa, facts0])), He.noat_ok (ft (f := .noat "Web" "points") (by simp [fa, facts0])), He.noat_ok (ft (f := .noat "Web" "links") (by simp [fa, facts0])), He.noat_ok (ft (f := .noat "Web" "going") (by simp [fa, facts0])), He.noat_ok (ft (f := .noat "Web" "coming") (by simp [fa, facts0]))⟩
  -- the defs
  have pU := d_unlike (P := P) (w := w) (base := base) (T := tabS K) fr F9 g9
  have pV1 := d_var1 pU hPl F10 g10
  have pVi1 := d_vin (by decide) pU pV1 F11 g11
  have pV : DefAt P w K mg base (tabS K) 4 "variables_of" S_var := d_var pU hPl pVi1 F10 g10
  have pVi : DefAt P w K mg base (tabS K) 5 "variables_in" S_vin := (d_vin (α := {r : Row // r.fine}) (dx := fun r => dRow r.1) (vs := fun r => r.1.vars) (by decide) pU (pV.imp fun ds μ Q ⟨r, h1, h2⟩ => ⟨r.1, h1, r.2, h2⟩) F11 g11).imp fun ds μ Q ⟨d, rs, h1, h2, h3, h4⟩ => by
    obtain ⟨rs', rfl⟩ := fine_sub h3.2
    refine ⟨d, rs', h1, by rw [List.map_map] at h2; exact h2, ?_, ?_⟩
    · have := h3.flat; rw [List.flatMap_map] at this; exact this
    · unfold varsIn at h4; rw [List.flatMap_map] at h4; exact h4
  have pO := d_outer (P := P) (w := w) (mg := mg) (base := base) (T := tabS K) F12 g12
  have pOv := d_ovars fr pVi pO F13 g13
  have pBd := d_bound pVi hB F14 g14
  have pAl := d_alone pV F15 g15
  have pWh := d_whole (P := P) (w := w) (base := base) (T := tabS K) fr F5 g5
  have mKn := m_knots (P := P) (w := w) (base := base) (T := tabS K) fr wc M3 e3
  have mPt := m_point fr wc pWh M5 e5
  have mKd := m_kind wc mPt M6 e6
  have mWo := m_worths fr wc mPt M7 e7
  have mOu := m_outs fr wc mPt M8 e8
  have mIn := m_ins fr wc mPt M9 e9
  have mTi := m_tie fr wc pWh M10 e10
  have pFT := d_farT fr mOu mTi F19 g19
  have pNT := d_nearT fr mIn mTi F20 g20
  have pFW := d_farW fr pFT F21 g21
  have pNW := d_nearW fr pNT F22 g22
  have pWs := d_worthSo (P := P) (w := w) (base := base) (T := tabS K) fr F23 g23
  have pHp := d_holdsP mKd mWo pWs pFW F24 g24
  have pWk := d_with (P := P) (w := w) (base := base) (T := tabS K) fr F27 g27
  have pWt := d_wait fr pV F26 g26
  have pBi := d_binds fr pHp pWk pWt mKn F28 g28 4 (by decide)
  have pHr := d_holdsR pHp pAl pBi F25 g25
  have pSh := d_shown (P := P) (w := w) (base := base) (T := tabS K) fr F30 g30
  have pAb := d_allB fr pOv pBi pHr F29 g29
  have pAn := d_answer fr pAb pSh F31 g31
  have pWd := d_wanted pV F33 g33
  have pRd := d_ready fr pWd F34 g34
  have tfI : (("Web", some "__init__") : He.Defn) ∈ tf := by unfold tf; simp
  have tfS : (("step_of", none) : He.Defn) ∈ tf := by unfold tf; simp
  have pSt := d_step pRd fr pV hB F35 g35 (code_cT (p := ("step_of", none)) F36) (TB _ (List.mem_map.mpr ⟨_, tfS, rfl⟩)) (by unfold tabS; simp) (fun p hp e => by
    unfold tabS at hp
    simp only [List.mem_cons, List.not_mem_nil, or_false] at hp
    rcases hp with rfl | rfl
    · exact absurd e hne
    · rfl) F36 g36
  have pPo := d_planOf fr pBd pO pSt pV hB F37 g37
  have pPl := d_plan pPo F38 g38
  have xA : ExA K (NPa K) := ⟨aeB_ok x5, (excB_ok x6).hs, of_decide_eq_true x7, x8⟩
  have eN := He.meth_ok (ft (f := .meth "NoPlan" "__init__") (by simp [fa, facts0]))
  have rC : RaiseC P w K mg base 1 "NoPlan" (NPa K) := ⟨_, fdN, ["self"], xA, eN.at_, beq_iff_eq.mp eN.fn, d_npInit (fre _ (by simp [fa, facts0])) (aiB_ok x9) FN, FunD.bindsN FN (fun _ _ _ _ _ _ us hl => match us, hl with | [_], _ => rfl), gN⟩
  have pNd := d_need fr rC pWh pBd pO pV pRd hB F39 g39
  have pKk := d_kok mKn mKd F40 g40
  have pBk := d_byK pHr pKk pWk F41 g41
  have pLk := d_looks pHr F43 g43
  have pT0 := d_byT (P := P) (w := w) (base := base) (T := tabS K) (lv := 13) (nb := 651) (p := hasV) (p' := hasV) (by decide) (by decide) (.inl fun b v h => h) fr pHr pFW pNW pWk mKn F42 g42
  have pBt := d_byT (P := P) (w := w) (base := base) (T := tabS K) (lv := 14) (nb := 650) (p := pT) (p' := hasV) (by decide) (by decide) (.inr ⟨pT0, fun b v h => h⟩) fr pHr pFW pNW pWk mKn F42 g42
  have pAy := d_ansBy fr g41 g42 g43 pBk pBt pLk hSt pNd pSh F45 g45
  have pIn := d_init (P := P) (w := w) (T := tabS K) fr wc (code_cT (p := ("Web", some "__init__")) FI) (TB _ (List.mem_map.mpr ⟨_, tfI, rfl⟩)) (by unfold tabS; simp) (fun p hp e => by
    unfold tabS at hp
    simp only [List.mem_cons, List.not_mem_nil, or_false] at hp
    rcases hp with rfl | rfl
    · rfl
    · exact absurd e.symm hne) FI
  have mW : MkWeb P w K mg base (tabS K) (Ca K) := by
    obtain ⟨ds, hv, hb⟩ := FI.binds1 (ps := ["self", "knots", "ties"]) 3 2 (by intro z; cases z) rfl fun T kV doc pm an cdv ct us its h1 h2 => match us, its, h1, h2 with | [_, _, _], [_, _], _, _ => ⟨_, rfl, rfl⟩
    cases hv
    exact ⟨_, _, _, He.mkr_ok (ft (f := .mkr "Web") (by simp [fa, facts0])), hb, pIn, gW⟩
  exact ⟨fr, pAn, pPl, pAy, mW, gN, He.exm_ok (ft (f := .exm "NoPlan" "NoPlan" true) (by simp [fa, facts0])), excB_ok x6, of_decide_eq_true x10, fre _ (by simp [fa, facts0])⟩
end
end Ws
/-! L0: rules that the law's defs want besides. -/
namespace Ws
open PySem PyProof.Rows PySem.Spec L2
section
variable {X : Cx} {T : TabL} {G : GE} {μ : Mu} {o i e value : Expr} {pos pos' : Pos} {ks : List Nat} {d : D} {Q : GE → Mu → Prop} {E : DE}
/-- o[i] = .., a list that changes -/
theorem wg_lput (h : WE X T G μ o fun d1 μ1 => WE X T G μ1 i fun d2 μ2 => ∃ l ds, ∃ k : Nat, d1 = .ref l ∧ d2 = .int k ∧ μ2 l = some (.ml ds) ∧ k < ds.length ∧ Q G (mset μ2 l (.ml (ds.set k d))))
    (ha : ∀ v, assign (.Subscript o i pos) X.env v = (do
      let ov ← holding [v] (eval o X.env)
      let iv ← holding [v, ov] (eval i X.env)
      standAt pos
      holding [v, ov, iv] (setItem ov iv v)
      release [v, ov, iv] []) := by intro _; rfl) : WG X T G μ (.Subscript o i pos) ks d Q := by
  intro F R H σ v hs he r; refine ⟨fun pins s u I ru => ?_⟩
  refine (pg_sub (peW o) (peW i) set_list ha).run pins s σ H v u _ I ru ?_
  refine wE_mono (h F R H σ hs he) fun x H1 ⟨F1, d1, μ1, hs1, s1, r1, h1⟩ => wE_mono (h1 F1 R H1 σ hs1 (he.mono s1)) fun y H2 ⟨F2, d2, μ2, hs2, s2, r2, l, ds, k, e1, e2, em, hk, q⟩ => ?_
  subst e1 e2
  cases r1
  cases r2
  obtain ⟨vs, eh, rr⟩ := hs2.ml em
  have hk' : k < vs.length := by rw [← rr.length]; exact hk
  refine ⟨l, vs, (k : Int), k, rfl, rfl, eh, ?_, SameOff.refl _ _, F2, G, _, hs2.write em (.ml (Reps.set (((r.mono s1).mono s2)) k rr)), s1.trans s2, (he.mono s1).mono s2, q⟩
  unfold ixN
  rw [if_pos (by omega), if_pos (by omega), Int.toNat_natCast]
/-! ### displays of constants -/
def constD : Expr → Option D
  | .Constant (.int i) _ _ => some (.int i)
  | .Constant (.str x) _ _ => some (.str x)
  | _ => none
def constDs : List Expr → Option (List D)
  | [] => some []
  | e :: es => match constD e, constDs es with
    | some d, some ds => some (d :: ds)
    | _, _ => none
theorem we_constD {e : Expr} {d : D} (h : constD e = some d) {Q : D → Mu → Prop} (q : Q d μ) : WE X T G μ e Q ∧ ∀ es, starEach (e :: es) X.env = (false, eval e X.env) :: starEach es X.env := by
  unfold constD at h
  split at h
  · cases h; exact ⟨we_int q, fun _ => rfl⟩
  · cases h; exact ⟨we_str q, fun _ => rfl⟩
  · cases h
theorem wa_consts : ∀ {es : List Expr} {ds : List D} {L : List D → Mu → Prop}, constDs es = some ds → L ds μ → WA X T G μ es L
  | [], _, _, h, q => by cases h; exact wa_nil q
  | e :: es, _, L, h, q => by
    unfold constDs at h
    split at h
    · rename_i d ds h1 h2
      cases h
      obtain ⟨_, hs⟩ := we_constD (X := X) (T := T) (G := G) (μ := μ) h1 (Q := fun _ _ => True) True.intro
      exact wa_cons (we_constD h1 (wa_consts h2 q)).1 (hs es)
    · cases h
/-- a list, a tuple of constants -/
theorem we_lstK {es : List Expr} (ds : List D) {Q : D → Mu → Prop} (q : Q (.lst ds) μ) (h : constDs es = some ds := by rfl) (hz : ds.length ≤ 100 := by decide) : WE X T G μ (.List es pos) Q :=
  we_lst (wa_consts h ⟨by rw [sizeLine_eq]; omega, q⟩)
theorem we_tupK {es : List Expr} (ds : List D) {k : Nat} {Q : D → Mu → Prop} (q : Q (.tup ds) μ) (h : constDs es = some ds := by rfl) (hz : ds.length ≤ 100 := by decide) : WE X T G μ (.Tuple es k pos) Q :=
  we_tup (wa_consts h ⟨by rw [sizeLine_eq]; omega, q⟩)
/-- by what the test tells -/
theorem ws_ifP {c : Expr} {body body2 : List Stmt} (P : Bool → Mu → Prop) (h : WT X T G μ c P) (m : ∀ k μ1, P k μ1 → if k = true then WSs X T G μ1 body E else WSs X T G μ1 body2 E) : WS X T G μ (.If c body body2 pos) E := ws_if (h.mono m)
/-- a statement, then the rest from whatever it leaves -/
theorem wss_mid {st : Stmt} {sts : List Stmt} (I : GE → Mu → Prop) (h1 : WS X T G μ st { E with nx := I }) (h2 : ∀ G' μ', I G' μ' → WSs X T G' μ' sts E) : WSs X T G μ (st :: sts) E :=
  wss_cons (h1.mono ⟨fun G' μ' z => h2 G' μ' z, fun _ _ z => z, fun _ _ z => z, fun _ _ z => z⟩)
end
theorem atI_lt {α : Type} {xs : List α} {n : Nat} (h : n < xs.length) : atI xs (n : Int) = some xs[n] := by
  unfold atI ixN
  rw [if_pos (by omega), if_pos (by omega), Int.toNat_natCast]
  exact List.getElem?_eq_getElem h
theorem atI_last {α : Type} {xs : List α} {x : α} : atI (xs ++ [x]) (-1) = some x := by
  have h : (-1 + ((xs ++ [x]).length : Int)).toNat = xs.length := by rw [List.length_append]; simp; omega
  unfold atI ixN
  rw [if_neg (by decide), if_pos (by rw [List.length_append]; simp; omega), h]
  simp
/-! ### displays of dicts -/
section
variable {X : Cx} {T : TabL} {G : GE} {μ : Mu} {k v : Expr} {ks : List (Option Expr)} {vs : List Expr} {Q : List (Key × D) → Mu → Prop}
theorem wps_nil (q : Q [] μ) : WPs X T G μ [] [] Q := q
theorem wps_cons (key : Key) (h : WE X T G μ k fun dk μ1 => dk = kD key ∧ WE X T G μ1 v fun dv μ2 => WPs X T G μ2 ks vs fun kvs μ3 => Q ((key, dv) :: kvs) μ3) : WPs X T G μ (some k :: ks) (v :: vs) Q :=
  h.mono fun _ _ ⟨e, z⟩ => ⟨key, e, z⟩
end
/-! ### parts of lists -/
def cutG {α : Type} (xs : List α) (lo hi : Option Int) : List α := (xs.drop (HT.sIx xs.length 0 lo)).take (HT.sIx xs.length xs.length hi - HT.sIx xs.length 0 lo)
theorem cutD_map {α : Type} (g : α → D) (xs : List α) (lo hi : Option Int) : cutD (xs.map g) lo hi = (cutG xs lo hi).map g := by
  unfold cutD cutG
  rw [List.map_take, List.map_drop, List.length_map]
theorem cut_to {α : Type} (xs : List α) (k : Nat) : cutG xs none (some (k : Int)) = xs.take k := by
  unfold cutG
  rw [HT.sIx_none, HT.sIx_nat, List.drop_zero, Nat.sub_zero]
  by_cases h : k ≤ xs.length
  · rw [Nat.min_eq_left h]
  · rw [Nat.min_eq_right (by omega), List.take_of_length_le (Nat.le_refl _), List.take_of_length_le (by omega)]
theorem cut_from {α : Type} (xs : List α) (k : Nat) : cutG xs (some (k : Int)) none = xs.drop k := by
  unfold cutG
  rw [HT.sIx_none, HT.sIx_nat]
  by_cases h : k ≤ xs.length
  · rw [Nat.min_eq_left h, List.take_of_length_le (by rw [List.length_drop]; exact Nat.le_refl _)]
  · rw [Nat.min_eq_right (by omega), List.drop_of_length_le (Nat.le_refl _), List.drop_of_length_le (by omega)]; simp
theorem cut_mid {α : Type} (xs : List α) (a b : Nat) : cutG xs (some (a : Int)) (some (b : Int)) = (xs.take b).drop a := by
  unfold cutG
  rw [HT.sIx_nat, HT.sIx_nat, List.drop_take]
  by_cases h : a ≤ xs.length
  · rw [Nat.min_eq_left h]
    by_cases h2 : b ≤ xs.length
    · rw [Nat.min_eq_left h2]
    · rw [Nat.min_eq_right (by omega), List.take_of_length_le (by rw [List.length_drop]; exact Nat.le_refl _), List.take_of_length_le (by rw [List.length_drop]; omega)]
  · rw [Nat.min_eq_right (show xs.length ≤ a by omega), List.drop_of_length_le (Nat.le_refl _), List.drop_of_length_le (show xs.length ≤ a by omega)]; simp
/-! ### what changes, put in order -/
theorem mset_over {μ : Mu} {a b : Addr} {o o' u : MO} (h : a ≠ b) : mset (mset (mset μ a o) b u) a o' = mset (mset μ a o') b u := by
  rw [mset_comm h, mset_mset, mset_comm (Ne.symm h)]
theorem mdel_under {μ : Mu} {a b : Addr} {o u : MO} (h : a ≠ b) (n : μ a = none) : mdel (mset (mset μ a o) b u) a = mset μ b u := by
  rw [mset_comm h, mdel_mset]
  rw [mset_ne h]; exact n
end Ws
/-! L1: the law's pen: draws, picks. -/
namespace Ws
open PySem PyProof.Rows PySem.Spec L2
/-! ### the pen -/
structure Pen where
  cells : List Int
  turn : Nat
  rest : Nat
def penM (p : Pen) : MO := .md [(.inr "cells", .lst (p.cells.map .int)), (.inr "turn", .int p.turn), (.inr "rest", .int p.rest)]
structure PenOk (p : Pen) : Prop where
  few : p.cells.length ≤ 63
  turn : p.turn ≤ 1000000000
/-- there is room for c draws more -/
structure PenR (p : Pen) (c : Nat) : Prop where
  few : p.cells.length ≤ 63
  turn : p.turn + c ≤ 1000000000
theorem PenR.ok {p : Pen} {c : Nat} (h : PenR p c) : PenOk p := ⟨h.few, by have := h.turn; omega⟩
theorem PenR.less {p : Pen} {c k : Nat} (h : PenR p c) (hk : k ≤ c) : PenR p k := ⟨h.few, by have := h.turn; omega⟩
/-- n draws later at most -/
structure Pen.to (p : Pen) (n : Nat) (p' : Pen) : Prop where
  cells : p'.cells = p.cells
  turn : p'.turn ≤ p.turn + n
theorem Pen.to.trans {p q r : Pen} {n m k : Nat} (a : p.to n q) (b : q.to m r) (h : n + m ≤ k := by omega) : p.to k r := ⟨b.cells.trans a.cells, by have := a.turn; have := b.turn; omega⟩
theorem PenR.to {p p' : Pen} {c n k : Nat} (h : PenR p c) (a : p.to n p') (hk : n + k ≤ c := by omega) : PenR p' k := ⟨by rw [a.cells]; exact h.few, by have := a.turn; have := h.turn; omega⟩
theorem Pen.to.refl (p : Pen) (n : Nat) : p.to n p := ⟨rfl, by omega⟩
theorem Pen.to.le {p q : Pen} {n k : Nat} (a : p.to n q) (h : n ≤ k) : p.to k q := ⟨a.cells, by have := a.turn; omega⟩
def kvP (p : Pen) : List (Key × D) := [(.inr "cells", .lst (p.cells.map .int)), (.inr "turn", .int p.turn), (.inr "rest", .int p.rest)]
theorem pen_cells (p : Pen) : valD (kvP p) (.inr "cells") = some (.lst (p.cells.map .int)) := rfl
theorem pen_turn (p : Pen) : valD (kvP p) (.inr "turn") = some (.int p.turn) := rfl
theorem pen_rest (p : Pen) : valD (kvP p) (.inr "rest") = some (.int p.rest) := rfl
theorem put_turn (p : Pen) (n : Nat) : putD (kvP p) (.inr "turn") (.int n) = kvP { p with turn := n } := rfl
theorem put_rest (p : Pen) (n : Nat) : putD (kvP p) (.inr "rest") (.int n) = kvP { p with rest := n } := rfl
theorem kv_len (p : Pen) : (kvP p).length < sizeLine := by rw [sizeLine_eq]; show 3 < _; decide
def primesD : List D := [.int 2147483647, .int 2147483629, .int 2147483587, .int 2147483579, .int 2147483563]
theorem primes_at (n : Nat) : ∃ pr : Int, atI primesD ((n : Int) % 5) = some (.int pr) ∧ 0 < pr ∧ pr < 2147483648 := by
  have h : (n : Int) % 5 = ((n % 5 : Nat) : Int) := by omega
  rw [h, atI_nat]
  have h5 : n % 5 < 5 := Nat.mod_lt _ (by decide)
  generalize n % 5 = k at h5
  match k, h5 with
  | 0, _ => exact ⟨_, rfl, by decide, by decide⟩
  | 1, _ => exact ⟨_, rfl, by decide, by decide⟩
  | 2, _ => exact ⟨_, rfl, by decide, by decide⟩
  | 3, _ => exact ⟨_, rfl, by decide, by decide⟩
  | 4, _ => exact ⟨_, rfl, by decide, by decide⟩
theorem nat_of_mod {i : Int} {m : Nat} (hm : 0 < m) : ∃ k : Nat, i % (m : Int) = (k : Int) ∧ k < m := by
  have h1 := Int.emod_nonneg i (show (m : Int) ≠ 0 by omega)
  have h2 := Int.emod_lt_of_pos i (show (0 : Int) < m by omega)
  exact ⟨(i % m).toNat, by omega, by omega⟩
section
variable {P : Program} {w : World} {K : PySem.W.Frag} {mg : Str → Option Value} {base : Heap} {T : TabS} {f : Addr} {fd : FuncData}
theorem sc48 : FnScope ["_law_pen_here", "_law_many", "_law_digit", "_law_turn", "_law_cell", "_law_primes", "_law_prime", "_law_mixed"] ["_law_pen_here", "_law_many"] (defScope (top 48)) := ⟨rfl, rfl, rfl, by decide +kernel, rfl, by decide +kernel, by decide +kernel⟩
/-- one of m -/
def S_draw : DSp := fun ds μ Q => ∃ pn p, ∃ m : Nat, ds = [.ref pn, .int m] ∧ μ pn = some (penM p) ∧ PenOk p ∧ 0 < m ∧ m ≤ 1000000 ∧ ∀ (k : Nat) p', k < m → p.to 1 p' → Q (.int k) (mset μ pn (penM p'))
theorem d_draw (fr : Free mg) (F : FnP K "_law_draw" (top 48) f fd) (g : mg "_law_draw" = some (.ref f)) : DefAt P w K mg base T 1 "_law_draw" S_draw := by
  refine defAt_of F g (ps := ["_law_pen_here", "_law_many"]) (fun _ _ _ _ _ _ us hl => match us, hl with | [_, _], _ => rfl) (fn_okD F sc48 (fun ds μ Q ⟨_, _, _, h, _⟩ => by rw [h]; rfl) fun cdv A outer0 s H E ds μ Q hr ⟨pn, p, m, e, em, ok, hm, hm2, q⟩ => ?_)
  subst e
  have hu := hr.u1
  have hmI : (0 : Int) < (m : Int) := by omega
  have hcd : ∀ i : Int, CDiv i (m : Int) := fun i => ⟨hmI, by omega⟩
  -- the rest of a great cell
  refine wss_cons (ws_if (wt_gt (we_dget hu (we_var 0 rfl (we_str ⟨kvP p, .inr "rest", _, .md em, rfl, pen_rest p, we_int ⟨_, _, rfl, rfl, ?_⟩⟩)))))
  by_cases hrest : (0 : Int) < (p.rest : Int)
  · rw [decide_eq_true hrest, if_pos rfl]
    refine wss_cons (ws_set 2 sc48.nd (we_mod (we_dget hu (we_var 0 rfl (we_str ⟨kvP p, .inr "rest", _, .md em, rfl, pen_rest p, we_var 1 rfl ⟨_, _, rfl, rfl, hmI, ?_⟩⟩)))))
    refine wss_cons (ws_dput hu (we_fdiv (we_dget hu (we_var 0 rfl (we_str ⟨kvP p, .inr "rest", _, .md em, rfl, pen_rest p, we_var 1 rfl ⟨_, _, rfl, rfl, hcd _, we_var 0 rfl (we_str ⟨pn, kvP p, .inr "rest", rfl, rfl, em, kv_len p, ?_⟩)⟩⟩)))))
    have e1 : (p.rest : Int) / (m : Int) = ((p.rest / m : Nat) : Int) := by simp
    rw [e1, put_rest]
    obtain ⟨k, e2, hk⟩ := nat_of_mod (i := (p.rest : Int)) hm
    refine wss_one (ws_ret (we_var 2 rfl ?_))
    rw [e2]
    exact q k { p with rest := p.rest / m } hk ⟨rfl, by simp⟩
  rw [decide_eq_false hrest, if_neg Bool.false_ne_true]
  refine wss_nil ?_
  refine wss_cons (ws_set 3 sc48.nd (we_dget hu (we_var 0 rfl (we_str ⟨kvP p, .inr "turn", _, .md em, rfl, pen_turn p, ?_⟩))))
  refine wss_cons (ws_dput hu (we_add (we_var 3 rfl (we_int ⟨_, _, rfl, rfl, we_var 0 rfl (we_str ⟨pn, kvP p, .inr "turn", rfl, rfl, em, kv_len p, ?_⟩)⟩))))
  have e1 : ((p.turn : Int) + 1) = ((p.turn + 1 : Nat) : Int) := by simp
  rw [e1, put_turn]
  have em1 : (mset μ pn (.md (kvP { p with turn := p.turn + 1 }))) pn = some (.md (kvP { p with turn := p.turn + 1 })) := mset_same
  have q1 : ∀ (k : Nat) (r : Nat), k < m → Q (.int k) (mset μ pn (.md (kvP { p with turn := p.turn + 1, rest := r }))) := fun k r hk => q k { p with turn := p.turn + 1, rest := r } hk ⟨rfl, by simp⟩
  refine wss_cons (ws_set 4 sc48.nd (we_add (we_mul (we_int (we_var 3 rfl ⟨_, _, rfl, rfl, .inl ⟨by decide, by decide⟩, we_int ⟨_, _, rfl, rfl, ?_⟩⟩)))))
  have e31 : (31 : Int) * (p.turn : Int) + 5 = (31 * p.turn + 5 : Int) := rfl
  refine wss_mid (fun G' μ' => ∃ c : Int, G' = [some (.ref pn), some (.int m), none, some (.int p.turn), some (.int c), none, none, none] ∧ μ' = mset μ pn (.md (kvP { p with turn := p.turn + 1 }))) (ws_if (wt_neNil hu (we_dget hu (we_var 0 rfl (we_str ⟨_, .inr "cells", _, .md em1, rfl, pen_cells _, _, .lst, ?_⟩))))) ?_
  · generalize hb : (List.map D.int ({ cells := p.cells, turn := p.turn + 1, rest := p.rest } : Pen).cells).isEmpty = b
    cases b with
    | true => exact wss_nil ⟨_, rfl, rfl⟩
    | false =>
      have hpos : 0 < p.cells.length := by
        cases hc : p.cells with
        | nil => rw [show ({ cells := p.cells, turn := p.turn + 1, rest := p.rest } : Pen).cells = p.cells from rfl, hc] at hb; cases hb
        | cons c cs => simp
      refine wss_one (ws_set 4 sc48.nd (we_ix (we_dget hu (we_var 0 rfl (we_str ⟨_, .inr "cells", _, .md em1, rfl, pen_cells _, we_mod (we_var 3 rfl (we_len rfl fr.len (we_dget hu (we_var 0 rfl (we_str ⟨_, .inr "cells", _, .md em1, rfl, pen_cells _, _, .lst, ?_⟩)))))⟩)))))
      have hlen : (({ p with turn := p.turn + 1 } : Pen).cells.map D.int).length = p.cells.length := by rw [List.length_map]
      rw [hlen]
      obtain ⟨k, e2, hk⟩ := nat_of_mod (i := (p.turn : Int)) hpos
      refine ⟨_, _, rfl, rfl, by omega, _, _, .int (p.cells[k]), .lst, rfl, ?_, _, rfl, rfl⟩
      rw [e2, atI_nat, List.getElem?_map, List.getElem?_eq_getElem hk]; rfl
  rintro _ _ ⟨c, rfl, rfl⟩
  -- a great cell
  have habs : ∀ i : Int, (if i < 0 then -i else i) = (i.natAbs : Int) := fun i => by split <;> omega
  have hpow : CPow 10 18 := ⟨by decide, by decide, by decide⟩
  refine wss_mid (fun G' μ' => G' = [some (.ref pn), some (.int m), none, some (.int p.turn), some (.int c), none, none, none] ∧ μ' = mset μ pn (.md (kvP { p with turn := p.turn + 1 }))) (ws_if (wt_w (wtw_and (wt_lt (we_var 3 rfl (we_len rfl fr.len (we_dget hu (we_var 0 rfl (we_str ⟨_, .inr "cells", _, .md em1, rfl, pen_cells _, _, .lst, _, _, rfl, rfl, ?_⟩))))))))) ?_
  · by_cases h1 : (p.turn : Int) < ((({ p with turn := p.turn + 1 } : Pen).cells.map D.int).length : Int)
    · rw [decide_eq_true h1, if_pos rfl]
      refine wtw_and1 (wt_ge (we_abs rfl fr.abs (we_var 4 rfl ⟨c, rfl, we_pow (we_int (we_int ⟨10, 18, rfl, rfl, hpow, _, _, rfl, rfl, ?_⟩))⟩)))
      rw [habs c]
      by_cases h2 : (10 : Int) ^ (18 : Int).toNat ≤ (c.natAbs : Int)
      · rw [decide_eq_true h2, if_pos rfl]
        have hsub : ∃ r : Nat, (c.natAbs : Int) - (10 : Int) ^ (18 : Int).toNat = (r : Int) := ⟨((c.natAbs : Int) - (10 : Int) ^ (18 : Int).toNat).toNat, by omega⟩
        obtain ⟨r, er⟩ := hsub
        refine wss_cons (ws_dput hu (we_fdiv (we_sub (we_abs rfl fr.abs (we_var 4 rfl ⟨c, rfl, we_pow (we_int (we_int ⟨10, 18, rfl, rfl, hpow, _, _, rfl, rfl, ?_⟩))⟩)))))
        rw [habs c, er]
        refine we_var 1 rfl ⟨_, _, rfl, rfl, hcd _, we_var 0 rfl (we_str ⟨pn, _, .inr "rest", rfl, rfl, em1, kv_len _, ?_⟩)⟩
        have e3 : (r : Int) / (m : Int) = ((r / m : Nat) : Int) := by simp
        rw [e3, put_rest, mset_mset]
        refine wss_one (ws_ret (we_mod (we_sub (we_abs rfl fr.abs (we_var 4 rfl ⟨c, rfl, we_pow (we_int (we_int ⟨10, 18, rfl, rfl, hpow, _, _, rfl, rfl, ?_⟩))⟩)))))
        rw [habs c, er]
        obtain ⟨k, e2, hk⟩ := nat_of_mod (i := (r : Int)) hm
        refine we_var 1 rfl ⟨_, _, rfl, rfl, hmI, ?_⟩
        rw [e2]
        exact q1 k _ hk
      · rw [decide_eq_false h2, if_neg Bool.false_ne_true]
        exact wss_nil ⟨rfl, rfl⟩
    · rw [decide_eq_false h1, if_neg Bool.false_ne_true, if_neg Bool.false_ne_true]
      exact wss_nil ⟨rfl, rfl⟩
  rintro _ _ ⟨rfl, rfl⟩
  obtain ⟨pr, hpr, p0, p1⟩ := primes_at p.turn
  have e3 : ((p.turn : Int) + 3) % 5 = (((p.turn + 3 : Nat) : Int)) % 5 := by omega
  obtain ⟨ps, hps, s0, s1⟩ := primes_at (p.turn + 3)
  refine wss_cons (ws_set 5 sc48.nd (we_lst (wa_cons (we_int (wa_cons (we_int (wa_cons (we_int (wa_cons (we_int (wa_cons (we_int (wa_nil ⟨by rw [sizeLine_eq]; decide, ?_⟩)))))))))))))
  refine wss_cons (ws_set 6 sc48.nd (we_ix (we_var 5 rfl (we_mod (we_var 3 rfl (we_int ⟨_, _, rfl, rfl, by decide, _, _, .int pr, .lst, rfl, hpr, ?_⟩))))))
  have b1 := Int.emod_nonneg c (show pr ≠ 0 by omega)
  have ht := ok.turn
  refine wss_cons (ws_set 7 sc48.nd (we_mod (we_add (we_add (we_add (we_mul (we_mod (we_var 4 rfl (we_var 6 rfl ⟨_, _, rfl, rfl, p0, we_int ⟨_, _, rfl, rfl, .inr ⟨by decide, by decide⟩, we_mul (we_int (we_var 3 rfl ⟨_, _, rfl, rfl, .inl ⟨by decide, by decide⟩, _, _, rfl, rfl, we_mul (we_mul (we_int (we_var 3 rfl ⟨_, _, rfl, rfl, .inl ⟨by decide, by decide⟩, we_var 3 rfl ⟨_, _, rfl, rfl, .inr ⟨by omega, by omega⟩, _, _, rfl, rfl, we_int ⟨_, _, rfl, rfl, we_var 6 rfl ⟨_, _, rfl, rfl, p0, ?_⟩⟩⟩⟩)))⟩))⟩⟩)))))))))
  generalize hy : (c % pr * 69621 + 104729 * (p.turn : Int) + 40692 * (p.turn : Int) * (p.turn : Int) + 11) % pr = y
  have y0 := Int.emod_nonneg (c % pr * 69621 + 104729 * (p.turn : Int) + 40692 * (p.turn : Int) * (p.turn : Int) + 11) (show pr ≠ 0 by omega)
  have y1 := Int.emod_lt_of_pos (c % pr * 69621 + 104729 * (p.turn : Int) + 40692 * (p.turn : Int) * (p.turn : Int) + 11) p0
  rw [hy] at y0 y1
  refine wss_cons (ws_set 7 sc48.nd (we_mod (we_mul (we_var 7 rfl (we_add (we_var 7 rfl (we_int ⟨_, _, rfl, rfl, _, _, rfl, rfl, .inl ⟨by omega, by omega⟩, we_ix (we_var 5 rfl (we_mod (we_add (we_var 3 rfl (we_int ⟨_, _, rfl, rfl, we_int ⟨_, _, rfl, rfl, by decide, _, _, .int ps, .lst, rfl, by rw [e3]; exact hps, _, _, rfl, rfl, s0, ?_⟩⟩)))))⟩)))))))
  generalize hz : y * (y + 48271) % ps = z
  have z0 := Int.emod_nonneg (y * (y + 48271)) (show ps ≠ 0 by omega)
  have z1 := Int.emod_lt_of_pos (y * (y + 48271)) s0
  rw [hz] at z0 z1
  refine wss_one (ws_ret (we_mod (we_fdiv (we_mod (we_mul (we_var 7 rfl (we_var 7 rfl ⟨_, _, rfl, rfl, .inl ⟨by omega, by omega⟩, we_int ⟨_, _, rfl, rfl, by decide, we_int ⟨_, _, rfl, rfl, ⟨by decide, by decide⟩, we_var 1 rfl ⟨_, _, rfl, rfl, hmI, ?_⟩⟩⟩⟩)))))))
  obtain ⟨k, e2, hk⟩ := nat_of_mod (i := z * z % 2147483549 / 64) hm
  rw [e2]
  exact q1 k _ hk
end
end Ws
/-! LB: picks, names, worths. -/
namespace Ws
open PySem PyProof.Rows PySem.Spec L2
theorem Sq.pen {μ : Mu} {pn : Addr} {p p' : Pen} {d : D} {es : List D} (h : Sq μ d es) (em : μ pn = some (penM p)) : Sq (mset μ pn (penM p')) d es := by
  cases h with
  | lst => exact .lst
  | tup => exact .tup
  | ml e => exact .ml (by rw [mset_ne (by rintro rfl; rw [em] at e; cases e)]; exact e)
section
variable {P : Program} {w : World} {K : PySem.W.Frag} {mg : Str → Option Value} {base : Heap} {T : TabS} {f : Addr} {fd : FuncData}
/-! ### _law_pick -/
theorem sc49 : FnScope ["_law_pen_here", "_law_some"] ["_law_pen_here", "_law_some"] (defScope (top 49)) := ⟨rfl, rfl, rfl, by decide +kernel, rfl, by decide +kernel, by decide +kernel⟩
def S_pick : DSp := fun ds μ Q => ∃ pn p d es, ds = [.ref pn, d] ∧ μ pn = some (penM p) ∧ PenR p 1 ∧ Sq μ d es ∧ es ≠ [] ∧ es.length ≤ 1000000 ∧ ∀ e ∈ es, ∀ p', p.to 1 p' → Q e (mset μ pn (penM p'))
def S_pickS : DSp := fun ds μ Q => ∃ pn p z, ds = [.ref pn, .str z] ∧ μ pn = some (penM p) ∧ PenR p 1 ∧ 0 < z.length ∧ z.length ≤ 1000000 ∧ ∀ c p', p.to 1 p' → Q (.str ⟨#[c]⟩) (mset μ pn (penM p'))
theorem d_pick (fr : Free mg) (hD : DefAt P w K mg base T 1 "_law_draw" S_draw) (F : FnP K "_law_pick" (top 49) f fd) (g : mg "_law_pick" = some (.ref f)) : DefAt P w K mg base T 2 "_law_pick" S_pick := by
  refine defAt_of F g (ps := ["_law_pen_here", "_law_some"]) (fun _ _ _ _ _ _ us hl => match us, hl with | [_, _], _ => rfl) (fn_okD F sc49 (fun ds μ Q ⟨_, _, _, _, h, _⟩ => by rw [h]; rfl) fun cdv A outer0 s H E ds μ Q hr ⟨pn, p, d, es, e, em, ok, sq, hne, hl, q⟩ => ?_)
  subst e
  have hpos : 0 < es.length := List.length_pos_iff.mpr hne
  refine wss_one (ws_ret (we_ix (we_var 1 rfl (we_call hD hr (wa_two (we_var 0 rfl (we_len rfl fr.len (we_var 1 rfl ⟨es, sq, pn, p, es.length, rfl, em, ok.ok, hpos, hl, fun k p' hk tp => ⟨es, _, es[k], sq.pen em, rfl, ?_, q _ (List.getElem_mem hk) p' tp⟩⟩))))))))
  rw [atI_nat, List.getElem?_eq_getElem hk]
theorem d_pickS (fr : Free mg) (hD : DefAt P w K mg base T 1 "_law_draw" S_draw) (F : FnP K "_law_pick" (top 49) f fd) (g : mg "_law_pick" = some (.ref f)) : DefAt P w K mg base T 2 "_law_pick" S_pickS := by
  refine defAt_of F g (ps := ["_law_pen_here", "_law_some"]) (fun _ _ _ _ _ _ us hl => match us, hl with | [_, _], _ => rfl) (fn_okD F sc49 (fun ds μ Q ⟨_, _, _, h, _⟩ => by rw [h]; rfl) fun cdv A outer0 s H E ds μ Q hr ⟨pn, p, z, e, em, ok, hpos, hl, q⟩ => ?_)
  subst e
  have hz : z.length ≤ sizeLine := by rw [sizeLine_eq]; omega
  have hzl : z.length = z.cps.toList.length := rfl
  refine wss_one (ws_ret (we_ixS (we_var 1 rfl (we_call hD hr (wa_two (we_var 0 rfl (we_lenS rfl fr.len (we_var 1 rfl ⟨z, rfl, hz, pn, p, z.length, rfl, em, ok.ok, hpos, hl, fun k p' hk tp => ⟨z, _, z.cps.toList[k]'(by rw [← hzl]; exact hk), rfl, rfl, hz, ?_, q _ p' tp⟩⟩))))))))
  exact atI_lt (by rw [← hzl]; exact hk)
/-! ### _law_names -/
def joinLen : List Str → Nat
  | [] => 0
  | x :: xs => x.length + joinLen xs
theorem join_len : ∀ ys : List Str, (Str.join "" ys).length = joinLen ys
  | [] => rfl
  | [x] => rfl
  | x :: y :: r => by
    show (x ++ "" ++ Str.join "" (y :: r)).length = _
    rw [Str.length_append, Str.length_append, join_len (y :: r)]
    show x.length + 0 + joinLen (y :: r) = x.length + joinLen (y :: r)
    omega
theorem join_ones {ys : List Str} (h : ∀ y ∈ ys, y.length = 1) : (Txt.join "" ys).length = ys.length := by
  rw [show Txt.join "" ys = Str.join "" ys from StrLaws.glued_eq_join "" ys, join_len]
  induction ys with
  | nil => rfl
  | cons y ys ih => show y.length + joinLen ys = ys.length + 1; rw [ih fun z hz => h z (List.mem_cons_of_mem _ hz), h y List.mem_cons_self]; omega
theorem sum_ones : ∀ {ys : List Str}, (∀ y ∈ ys, y.length = 1) → (ys.map (·.length)).sum = ys.length
  | [], _ => rfl
  | y :: ys, h => by
    rw [List.map_cons, List.sum_cons, sum_ones fun z hz => h z (List.mem_cons_of_mem _ hz), h y List.mem_cons_self, List.length_cons]; omega
theorem sc50 : FnScope ["_law_pen_here", "_law_many", "_law_letters", "_law_base", "_law_k", "_law_at", "_law_first", "_law_cut", "_law_step", "_law_found", "_law_tail"] ["_law_pen_here", "_law_many"] (defScope (top 50)) := ⟨rfl, rfl, rfl, by decide +kernel, rfl, by decide +kernel, by decide +kernel⟩
def S_names : DSp := fun ds μ Q => ∃ pn p, ∃ m : Nat, ds = [.ref pn, .int m] ∧ μ pn = some (penM p) ∧ PenR p 20 ∧ 0 < m ∧ m ≤ 100 ∧ ∀ (names : List Str) p', names.length = m → p.to 20 p' → Q (.lst (names.map .str)) (mset μ pn (penM p'))
def lettersS : Str := "abcdefghijklmnopqrstuvwxyz"
def stepsD : List D := [.int 1, .int 3, .int 5, .int 7, .int 9, .int 11, .int 15, .int 17, .int 19, .int 21, .int 23, .int 25]
theorem d_names (fr : Free mg) (hD : DefAt P w K mg base T 1 "_law_draw" S_draw) (hP : DefAt P w K mg base T 2 "_law_pick" S_pick) (hS : DefAt P w K mg base T 2 "_law_pick" S_pickS) (F : FnP K "_law_names" (top 50) f fd) (g : mg "_law_names" = some (.ref f)) : DefAt P w K mg base T 3 "_law_names" S_names := by
  refine defAt_of F g (ps := ["_law_pen_here", "_law_many"]) (fun _ _ _ _ _ _ us hl => match us, hl with | [_, _], _ => rfl) (fn_okD F sc50 (fun ds μ Q ⟨_, _, _, h, _⟩ => by rw [h]; rfl) fun cdv A outer0 s H E ds μ Q hr ⟨pn, p, m, e, em, ok, hm, hm2, q⟩ => ?_)
  subst e
  have hu := hr.u1
  refine wss_cons (ws_set 2 sc50.nd (we_str ?_))
  -- the beginning
  refine wss_mid (fun G' μ' => ∃ b p', 1 ≤ b.length ∧ b.length ≤ 8 ∧ p.to 9 p' ∧ G' = [some (.ref pn), some (.int m), some (.str lettersS), some (.str b), none, none, none, none, none, none, none] ∧ μ' = mset μ pn (penM p')) ?_ ?_
  · refine ws_set 3 sc50.nd (we_join (we_str ⟨_, rfl, we_lc 4 sc50.nd rfl (blkOk_by (by kernel_rfl)) (wi_range fr.range (we_add (we_int (we_call hD hr (wa_two (we_var 0 rfl (we_int ⟨pn, p, 8, rfl, em, ok.ok, by decide, by decide, fun k p1 hk t1 => ⟨_, _, rfl, rfl, _, rfl, by omega, by omega, ?_⟩⟩)))))))⟩))
    have en : ((1 : Int) + (k : Int)).toNat = k + 1 := by omega
    rw [en]
    refine ⟨fun j acc μ' => ∃ ys p2, acc = ys.map .str ∧ ys.length = j ∧ (∀ y ∈ ys, y.length = 1) ∧ p.to (1 + j) p2 ∧ μ' = mset μ pn (penM p2), ⟨[], p1, rfl, rfl, (fun _ h => nomatch h), t1, rfl⟩, ?_, ?_⟩
    · rintro j d acc μ' ed ⟨ys, p2, rfl, hj, hy, t2, rfl⟩ hl s H C cl fp s H C cl fp
      have hjk : j < k + 1 := by
        have := (List.getElem?_eq_some_iff.mp ed).1
        unfold rngD at this
        rw [List.length_map, List.length_range] at this; exact this
      refine we_call hS hr (wa_two (we_var 0 rfl (we_var 2 rfl ⟨pn, p2, lettersS, rfl, mset_same, ok.to t2 (by omega), by decide, by decide, fun c p3 t3 => ?_⟩)))
      rw [mset_mset]
      exact ⟨ys ++ [⟨#[c]⟩], p3, by rw [List.map_append]; rfl, by rw [List.length_append, hj]; rfl, fun y hy' => by
        rcases List.mem_append.mp hy' with h | h
        · exact hy y h
        · rw [List.mem_singleton.mp h]; rfl, t2.trans t3, rfl⟩
    · rintro acc μ' ⟨ys, p2, rfl, hj, hy, t2, rfl⟩ hl
      have hlen : (rngD (k + 1)).length = k + 1 := by unfold rngD; rw [List.length_map, List.length_range]
      rw [hlen] at hj t2
      have hlb : (Txt.join "" ys).length = k + 1 := by rw [join_ones hy, hj]
      refine ⟨ys, .lst, ?_, Txt.join "" ys, p2, by omega, by omega, t2.le (by omega), rfl, rfl⟩
      have : (ys.map (·.length)).sum = ys.length := sum_ones hy
      rw [this, hj]
      show k + 1 + (k + 1) * 0 ≤ 16777216
      omega
  rintro _ _ ⟨b, p1, b1, b8, t1, rfl, rfl⟩
  have hbz : b.length ≤ sizeLine := by rw [sizeLine_eq]; omega
  refine wss_cons (ws_par3 5 6 7 (hw := by kernel_rfl) rfl sc50.nd (we_call hD hr (wa_two (we_var 0 rfl (we_lenS rfl fr.len (we_var 3 rfl ⟨b, rfl, hbz, pn, p1, b.length, rfl, mset_same, (ok.to t1 (k := 11)).ok, by omega, by omega, fun ka p2 hka t2 => ?_⟩))))))
  rw [mset_mset]
  refine we_call hD hr (wa_two (we_var 0 rfl (we_int ⟨pn, p2, 26, rfl, mset_same, ((ok.to t1 (k := 11)).to t2 (k := 10)).ok, by decide, by decide, fun kf p3 hkf t3 => ?_⟩)))
  rw [mset_mset]
  have t123 := (t1.trans t2 (k := 10)).trans t3 (k := 11)
  refine we_call hD hr (wa_two (we_var 0 rfl (we_int ⟨pn, p3, 2, rfl, mset_same, (ok.to t123 (k := 9)).ok, by decide, by decide, fun kc p4 hkc t4 => ?_⟩)))
  rw [mset_mset]
  have t5 := t123.trans t4 (k := 12)
  refine wss_cons (ws_par 8 9 (hw := by kernel_rfl) rfl sc50.nd (we_call hP hr (wa_two (we_var 0 rfl (we_lstK stepsD ⟨pn, p4, _, _, rfl, mset_same, ok.to t5, .lst, (by unfold stepsD; simp), by decide, fun e he p5 t6 => ?_⟩)))))
  rw [mset_mset]
  have hstep : ∃ st : Int, e = .int st ∧ 0 ≤ st ∧ st ≤ 25 := by
    unfold stepsD at he
    simp only [List.mem_cons, List.not_mem_nil, or_false] at he
    rcases he with rfl | rfl | rfl | rfl | rfl | rfl | rfl | rfl | rfl | rfl | rfl | rfl <;> exact ⟨_, rfl, by decide, by decide⟩
  obtain ⟨st, rfl, st0, st1⟩ := hstep
  refine we_lstM (wa_nil ⟨Nat.zero_le _, fun fl nfl => ?_⟩)
  have t7 := t5.trans t6 (k := 13)
  have hfp : fl ≠ pn := by rintro rfl; rw [mset_same] at nfl; cases nfl
  have nf0 : μ fl = none := by rw [mset_ne hfp] at nfl; exact nfl
  rw [mset_comm (Ne.symm hfp)]
  refine wss_cons (ws_for (ks := [4]) rfl (wi_range fr.range (we_var 1 rfl ⟨_, rfl, by omega, by omega, fun i G' μ' => ∃ ys : List Str, ∃ o4 o10, G' = [some (.ref pn), some (.int m), some (.str lettersS), some (.str b), o4, some (.int (ka : Nat)), some (.int (kf : Nat)), some (.int (kc : Nat)), some (.int st), some (.ref fl), o10] ∧ ys.length = i ∧ μ' = mset (mset μ fl (.ml (ys.map .str))) pn (penM p5),
    ⟨[], _, _, rfl, rfl, rfl⟩, ?_, ?_⟩)))
  · rintro i d G' μ' ed ⟨ys, o4, o10, rfl, hi, rfl⟩
    have him : i < m := by
      have := (List.getElem?_eq_some_iff.mp ed).1
      unfold rngD at this
      rw [List.length_map, List.length_range] at this; omega
    have ed' : d = .int (i : Nat) := by
      unfold rngD at ed
      rw [List.getElem?_map, List.getElem?_range (by omega)] at ed
      cases ed; rfl
    subst ed'
    refine wg_name 4 sc50.nd ?_
    have hidx : ∃ v : Int, atI [D.int 8, D.int ((i : Int) % 3)] (kc : Int) = some (.int v) := by
      match kc, hkc with
      | 0, _ => exact ⟨_, rfl⟩
      | 1, _ => exact ⟨_, rfl⟩
    obtain ⟨v, hv⟩ := hidx
    refine wss_cons (ws_set 10 sc50.nd (we_slS (we_slS (we_var 3 rfl (wo_some (we_add (we_var 5 rfl (we_int ⟨_, _, rfl, rfl, _, rfl, wo_none ⟨b, rfl, hbz, wo_none (wo_some (we_ix (we_lst (wa_two (we_int (we_mod (we_var 4 rfl (we_int ⟨_, _, rfl, rfl, by decide, by rw [sizeLine_eq]; show 2 ≤ 16777216; decide, we_var 7 rfl ⟨_, _, _, .lst, rfl, hv, _, rfl, _, rfl, ?_, ?_⟩⟩))))))))⟩⟩))))))))
    · exact Nat.le_trans (cutS_length _ _ _) hbz
    generalize htl : cutS (cutS b (some ((ka : Int) + 1)) none) none (some v) = tl
    have tll : tl.length ≤ 8 := by
      rw [← htl]
      exact Nat.le_trans (cutS_length _ _ _) (Nat.le_trans (cutS_length _ _ _) b8)
    have hl26 : ∃ c, atI lettersS.cps.toList (((kf : Int) + st * (i : Int)) % 26) = some c := by
      obtain ⟨n, e2, hn⟩ := nat_of_mod (i := (kf : Int) + st * (i : Int)) (m := 26) (by decide)
      have e3 : ((kf : Int) + st * (i : Int)) % 26 = (n : Int) := e2
      rw [e3]
      have hl : n < lettersS.cps.toList.length := hn
      exact ⟨_, atI_lt hl⟩
    obtain ⟨c, hc⟩ := hl26
    have hcut := cutS_length b none (some (ka : Int))
    refine wss_one (ws_expr (we_append (we_var 9 rfl ⟨fl, rfl, ⟨_, by rw [mset_ne hfp]; exact mset_same⟩, ?_⟩)))
    refine we_catS (we_catS (we_slS (we_var 3 rfl (wo_none (wo_some (we_var 5 rfl ⟨_, rfl, b, rfl, hbz, we_ixS (we_var 2 rfl (we_mod (we_add (we_var 6 rfl (we_mul (we_var 8 rfl (we_var 4 rfl ⟨_, _, rfl, rfl, .inl ⟨by omega, by omega⟩, _, _, rfl, rfl, we_int ⟨_, _, rfl, rfl, by decide, _, _, _, rfl, rfl, by rw [sizeLine_eq]; decide, hc, _, _, rfl, rfl, ?_, we_var 10 rfl ⟨_, _, rfl, rfl, ?_, _, by rw [mset_ne hfp]; exact mset_same, ?_, ?_⟩⟩⟩)))))))⟩))))))
    · rw [sizeLine_eq]; show (cutS b none (some (ka : Int))).length + 1 ≤ _; omega
    · rw [sizeLine_eq, Str.length_append]; show (cutS b none (some (ka : Int))).length + 1 + tl.length ≤ _; omega
    · rw [List.length_map, sizeLine_eq]; omega
    · refine ⟨ys ++ [cutS b none (some (ka : Int)) ++ ⟨#[c]⟩ ++ tl], _, _, rfl, by rw [List.length_append, hi]; rfl, ?_⟩
      rw [mset_over hfp, List.map_append]; rfl
  rintro _ _ ⟨ys, o4, o10, rfl, hi, rfl⟩
  have hym : ys.length = m := by rw [hi]; unfold rngD; rw [List.length_map, List.length_range]; omega
  -- now and then one cut
  refine wss_mid (fun G' μ' => ∃ ys : List Str, ∃ p6, G' = [some (.ref pn), some (.int m), some (.str lettersS), some (.str b), o4, some (.int (ka : Nat)), some (.int (kf : Nat)), some (.int (kc : Nat)), some (.int st), some (.ref fl), o10] ∧ ys.length = m ∧ p.to 20 p6 ∧ μ' = mset (mset μ fl (.ml (ys.map .str))) pn (penM p6)) ?_ ?_
  · refine ws_if (wt_w (wtw_and (wt_gt (we_var 5 rfl (we_int ⟨_, _, rfl, rfl, ?_⟩)))))
    by_cases h1 : (0 : Int) < (ka : Int)
    · rw [decide_eq_true h1, if_pos rfl]
      refine wtw_and1 (wt_eq (we_call hD hr (wa_two (we_var 0 rfl (we_int ⟨pn, p5, 3, rfl, mset_same, (ok.to t7 (k := 7)).ok, by decide, by decide, fun k p6 hk t8 => we_int ⟨_, scal_int, ?_⟩⟩)))))
      rw [mset_mset]
      by_cases h2 : ((k : Int)) = 0
      · rw [decide_eq_true h2, if_pos rfl]
        refine wss_one (ws_asg (ks := []) (we_slS (we_var 3 rfl (wo_none (wo_some (we_var 5 rfl ⟨_, rfl, b, rfl, hbz, wg_lput (we_var 9 rfl (we_call hD hr (wa_two (we_var 0 rfl (we_var 1 rfl ⟨pn, p6, m, rfl, mset_same, ((ok.to t7 (k := 7)).to t8 (k := 6)).ok, hm, by omega, fun j p7 hj t9 => ⟨fl, ys.map .str, j, rfl, rfl, ?_, ?_, ?_⟩⟩)))))⟩))))))
        · rw [mset_mset, mset_ne hfp]; exact mset_same
        · rw [List.length_map, hym]; exact hj
        · refine ⟨ys.set j (cutS b none (some (ka : Int))), p7, rfl, by rw [List.length_set]; exact hym, (t7.trans t8 (k := 14)).trans t9, ?_⟩
          rw [mset_mset, mset_over hfp, List.map_set]
      · rw [decide_eq_false h2, if_neg Bool.false_ne_true]
        exact wss_nil ⟨ys, p6, rfl, hym, t7.trans t8, rfl⟩
    · rw [decide_eq_false h1, if_neg Bool.false_ne_true, if_neg Bool.false_ne_true]
      exact wss_nil ⟨ys, p5, rfl, hym, t7.le (by omega), rfl⟩
  rintro _ _ ⟨zs, p6, rfl, hz, t8, rfl⟩
  refine wss_one (ws_ret (we_freezeL (we_var 9 rfl ⟨fl, zs.map .str, rfl, by rw [mset_ne hfp]; exact mset_same, ?_⟩)))
  rw [mdel_under hfp nf0]
  exact q zs p6 hz t8
end
end Ws
/-! LC: worths, scenes. -/
namespace Ws
open PySem PyProof.Rows PySem.Spec L2
section
variable {P : Program} {w : World} {K : PySem.W.Frag} {mg : Str → Option Value} {base : Heap} {T : TabS} {f : Addr} {fd : FuncData}
theorem sc51 : FnScope ["_law_pen_here", "_law_far", "_law_some"] ["_law_pen_here"] (defScope (top 51)) := ⟨rfl, rfl, rfl, by decide +kernel, rfl, by decide +kernel, by decide +kernel⟩
def S_worth : DSp := fun ds μ Q => ∃ pn p, ds = [.ref pn] ∧ μ pn = some (penM p) ∧ PenR p 10 ∧ ∀ d p', IsWo d → p.to 10 p' → Q d (mset μ pn (penM p'))
def nums4 : List D := [.int 9, .int 10, .int 99, .int 100]
def words9 : List D := [.str "a", .str "b", .str "ab", .str "ba", .str "zzzzzzzzzzzz", .str "no", .str "any", .str "knot", .str "tie"]
def ten : List D := [.int 0, .int 0, .int 1, .int 1, .int 2, .int 3, .int 4, .int 5, .int 5, .int 5]
theorem ten_at (k : Nat) (h : k < 10) : ∃ j : Nat, atI ten (k : Int) = some (.int j) ∧ j < 6 := by
  match k, h with
  | 0, _ => exact ⟨0, rfl, by decide⟩
  | 1, _ => exact ⟨0, rfl, by decide⟩
  | 2, _ => exact ⟨1, rfl, by decide⟩
  | 3, _ => exact ⟨1, rfl, by decide⟩
  | 4, _ => exact ⟨2, rfl, by decide⟩
  | 5, _ => exact ⟨3, rfl, by decide⟩
  | 6, _ => exact ⟨4, rfl, by decide⟩
  | 7, _ => exact ⟨5, rfl, by decide⟩
  | 8, _ => exact ⟨5, rfl, by decide⟩
  | 9, _ => exact ⟨5, rfl, by decide⟩
theorem wo_nums {e : D} (h : e ∈ nums4) : IsWo e := by
  unfold nums4 at h
  simp only [List.mem_cons, List.not_mem_nil, or_false] at h
  rcases h with rfl | rfl | rfl | rfl <;> exact .int _
theorem wo_words {e : D} (h : e ∈ words9) : IsWo e := by
  unfold words9 at h
  simp only [List.mem_cons, List.not_mem_nil, or_false] at h
  rcases h with rfl | rfl | rfl | rfl | rfl | rfl | rfl | rfl | rfl <;> exact .str _
theorem d_worth (fr : Free mg) (hD : DefAt P w K mg base T 1 "_law_draw" S_draw) (hP : DefAt P w K mg base T 2 "_law_pick" S_pick) (F : FnP K "_law_worth" (top 51) f fd) (g : mg "_law_worth" = some (.ref f)) : DefAt P w K mg base T 3 "_law_worth" S_worth := by
  refine defAt_of F g (ps := ["_law_pen_here"]) (fun _ _ _ _ _ _ us hl => match us, hl with | [_], _ => rfl) (fn_okD F sc51 (fun ds μ Q ⟨_, _, h, _⟩ => by rw [h]; rfl) fun cdv A outer0 s H E ds μ Q hr ⟨pn, p, e, em, ok, q⟩ => ?_)
  subst e
  refine wss_cons (ws_set 1 sc51.nd (we_mul (we_add (we_int (we_call hD hr (wa_two (we_var 0 rfl (we_int ⟨pn, p, 2, rfl, em, ok.ok, by decide, by decide, fun k1 p1 h1 t1 => ⟨_, _, rfl, rfl, ?_⟩⟩))))))))
  refine we_sub (we_int (we_mul (we_int (we_call hD hr (wa_two (we_var 0 rfl (we_int ⟨pn, p1, 2, rfl, mset_same, (ok.to t1 (k := 9)).ok, by decide, by decide, fun k2 p2 h2 t2 => ⟨_, _, rfl, rfl, .inl ⟨by decide, by decide⟩, _, _, rfl, rfl, _, _, rfl, rfl, .inl ⟨by omega, by omega⟩, ?_⟩⟩)))))))
  rw [mset_mset]
  generalize ((999999998 : Int) + (k1 : Int)) * (1 - 2 * (k2 : Int)) = far
  have s2 := t1.trans t2 (k := 2)
  refine wss_cons (ws_set 2 sc51.nd (we_lstM (wa_cons (we_call hD hr (wa_two (we_var 0 rfl (we_int ⟨pn, p2, 3, rfl, mset_same, (ok.to s2 (k := 8)).ok, by decide, by decide, fun k3 p3 h3 t3 => ?_⟩)))))))
  rw [mset_mset]
  have s3 := s2.trans t3 (k := 3)
  refine wa_cons (we_call hD hr (wa_two (we_var 0 rfl (we_int ⟨pn, p3, 12, rfl, mset_same, (ok.to s3 (k := 7)).ok, by decide, by decide, fun k4 p4 h4 t4 => ?_⟩))))
  rw [mset_mset]
  have s4 := s3.trans t4 (k := 4)
  refine wa_cons (we_sub (we_int (we_call hD hr (wa_two (we_var 0 rfl (we_int ⟨pn, p4, 12, rfl, mset_same, (ok.to s4 (k := 6)).ok, by decide, by decide, fun k5 p5 h5 t5 => ⟨_, _, rfl, rfl, ?_⟩⟩))))))
  rw [mset_mset]
  have s5 := s4.trans t5 (k := 5)
  refine wa_cons (we_call hP hr (wa_two (we_var 0 rfl (we_lstK nums4 ⟨pn, p5, _, nums4, rfl, mset_same, ok.to s5, .lst, (by unfold nums4; simp), by decide, fun e he p6 t6 => ?_⟩))))
  rw [mset_mset]
  have s6 := s5.trans t6 (k := 6)
  refine wa_one (we_var 1 rfl ⟨by rw [sizeLine_eq]; show 5 ≤ 16777216; decide, fun sl nsl => ?_⟩)
  have hsp : sl ≠ pn := by rintro rfl; rw [mset_same] at nsl; cases nsl
  have ns0 : μ sl = none := by rw [mset_ne hsp] at nsl; exact nsl
  rw [mset_comm (Ne.symm hsp)]
  refine wss_cons (ws_expr (we_append (we_var 2 rfl ⟨sl, rfl, ⟨_, by rw [mset_ne hsp]; exact mset_same⟩, we_call hP hr (wa_two (we_var 0 rfl (we_lstK words9 ⟨pn, p6, _, words9, rfl, mset_same, ok.to s6, .lst, (by unfold words9; simp), by decide, fun e2 he2 p7 t7 => ⟨_, by rw [mset_mset, mset_ne hsp]; exact mset_same, by rw [sizeLine_eq]; show 5 < 16777216; decide, ?_⟩⟩)))⟩)))
  rw [mset_mset, mset_over hsp]
  have s7 := s6.trans t7 (k := 7)
  refine wss_fixL 2 (l := sl) (by rw [mset_ne hsp]; exact mset_same) rfl ?_
  rw [mdel_under hsp ns0]
  refine wss_one (ws_ret (we_ix (we_var 2 rfl (we_ix (we_lstK ten (we_call hD hr (wa_two (we_var 0 rfl (we_int ⟨pn, p7, 10, rfl, mset_same, (ok.to s7 (k := 3)).ok, by decide, by decide, fun k8 p8 h8 t8 => ?_⟩)))))))))
  obtain ⟨j, hj, hj6⟩ := ten_at k8 h8
  rw [mset_mset]
  have s8 := s7.trans t8 (k := 10)
  have six : ∀ xs : List D, xs.length = 6 → (∀ x ∈ xs, IsWo x) → ∃ x, atI xs (j : Int) = some x ∧ IsWo x := fun xs hl hw => ⟨xs[j], atI_lt (by omega), hw _ (List.getElem_mem _)⟩
  obtain ⟨x, hx, wx⟩ := six [.int (k3 : Nat), .int (k4 : Nat), .int (0 - (k5 : Int)), e, .int far, e2] rfl fun x hx => by
    simp only [List.mem_cons, List.not_mem_nil, or_false] at hx
    rcases hx with rfl | rfl | rfl | rfl | rfl | rfl
    · exact .int _
    · exact .int _
    · exact .int _
    · exact wo_nums he
    · exact .int _
    · exact wo_words he2
  exact ⟨_, _, _, .lst, rfl, hj, _, _, _, .lst, rfl, hx, q x p8 wx s8⟩
/-! ### _law_scene -/
structure Sc where
  kinds : List Str
  ties : List Str
  vars : List Str
  names : List Str
  askers : List Str
def scK (s : Sc) : List (Key × D) := [(.inr "kinds", .lst (s.kinds.map .str)), (.inr "ties", .lst (s.ties.map .str)), (.inr "vars", .lst (s.vars.map .str)), (.inr "names", .lst (s.names.map .str)), (.inr "askers", .lst (s.askers.map .str))]
structure ScOk (s : Sc) : Prop where
  k0 : 0 < s.kinds.length
  k1 : s.kinds.length ≤ 15
  t0 : 0 < s.ties.length
  t1 : s.ties.length ≤ 15
  n0 : 0 < s.names.length
  n1 : s.names.length ≤ 15
  v : s.vars.length = 4
theorem sc_kinds (s : Sc) : valD (scK s) (.inr "kinds") = some (.lst (s.kinds.map .str)) := rfl
theorem sc_ties (s : Sc) : valD (scK s) (.inr "ties") = some (.lst (s.ties.map .str)) := rfl
theorem sc_vars (s : Sc) : valD (scK s) (.inr "vars") = some (.lst (s.vars.map .str)) := rfl
theorem sc_names (s : Sc) : valD (scK s) (.inr "names") = some (.lst (s.names.map .str)) := rfl
theorem put_kinds (s : Sc) (xs : List Str) : putD (scK s) (.inr "kinds") (.lst (xs.map .str)) = scK { s with kinds := xs } := rfl
theorem put_ties (s : Sc) (xs : List Str) : putD (scK s) (.inr "ties") (.lst (xs.map .str)) = scK { s with ties := xs } := rfl
theorem put_vars (s : Sc) (xs : List Str) : putD (scK s) (.inr "vars") (.lst (xs.map .str)) = scK { s with vars := xs } := rfl
theorem put_names (s : Sc) (xs : List Str) : putD (scK s) (.inr "names") (.lst (xs.map .str)) = scK { s with names := xs } := rfl
theorem sc_len (s : Sc) : (scK s).length < sizeLine := by rw [sizeLine_eq]; show 5 < 16777216; decide
theorem sc52 : FnScope ["_law_pen_here", "_law_names_here", "_law_words", "_law_found", "_law_way", "_law_turn", "_law_key", "_law_some"] ["_law_pen_here"] (defScope (top 52)) := ⟨rfl, rfl, rfl, by decide +kernel, rfl, by decide +kernel, by decide +kernel⟩
def S_scene : DSp := fun ds μ Q => ∃ pn p, ds = [.ref pn] ∧ μ pn = some (penM p) ∧ PenR p 60 ∧ ∀ fl s p', μ fl = none → ScOk s → p.to 60 p' → Q (.ref fl) (mset (mset μ fl (.md (scK s))) pn (penM p'))
theorem d_scene (fr : Free mg) (hD : DefAt P w K mg base T 1 "_law_draw" S_draw) (hN : DefAt P w K mg base T 3 "_law_names" S_names) (F : FnP K "_law_scene" (top 52) f fd) (g : mg "_law_scene" = some (.ref f)) : DefAt P w K mg base T 4 "_law_scene" S_scene := by
  refine defAt_of F g (ps := ["_law_pen_here"]) (fun _ _ _ _ _ _ us hl => match us, hl with | [_], _ => rfl) (fn_okD F sc52 (fun ds μ Q ⟨_, _, h, _⟩ => by rw [h]; rfl) fun cdv A outer0 s H E ds μ Q hr ⟨pn, p, e, em, ok, q⟩ => ?_)
  subst e
  have hu := hr.u1
  refine wss_cons (ws_par 1 2 (hw := by kernel_rfl) rfl sc52.nd (we_call hN hr (wa_two (we_var 0 rfl (we_int ⟨pn, p, 15, rfl, em, ok.less (by decide), by decide, by decide, fun nh p1 hn t1 => ?_⟩)))))
  refine we_call hN hr (wa_two (we_var 0 rfl (we_int ⟨pn, p1, 4, rfl, mset_same, ok.to t1, by decide, by decide, fun wo p2 hw t2 => ?_⟩)))
  rw [mset_mset]
  have s2 := t1.trans t2 (k := 40)
  have hnl : (nh.map D.str).length ≤ sizeLine := by rw [List.length_map, sizeLine_eq]; omega
  -- the dict
  refine wss_cons (ws_set 3 sc52.nd (we_dispM rfl rfl (by simp) (by decide) (wps_cons (.inr "kinds") (we_str ⟨rfl, we_slL (we_var 1 rfl (wo_none (wo_some (we_add (we_int (we_call hD hr (wa_two (we_var 0 rfl (we_int ⟨pn, p2, 3, rfl, mset_same, (ok.to s2 (k := 20)).ok, by decide, by decide, fun k1 p3 h1 t3 => ⟨_, _, rfl, rfl, _, rfl, _, .lst, ?_⟩⟩)))))))))⟩))))
  rw [mset_mset, show (1 : Int) + (k1 : Int) = ((1 + k1 : Nat) : Int) by omega, cutD_map, cut_to]
  have s3 := s2.trans t3 (k := 41)
  refine wps_cons (.inr "ties") (we_str ⟨rfl, we_slL (we_slL (we_var 1 rfl (wo_some (we_int ⟨3, rfl, wo_none ⟨_, .lst, wo_none (wo_some (we_add (we_int (we_call hD hr (wa_two (we_var 0 rfl (we_int ⟨pn, p3, 3, rfl, mset_same, (ok.to s3 (k := 19)).ok, by decide, by decide, fun k2 p4 h2 t4 => ⟨_, _, rfl, rfl, _, rfl, _, .lst, ?_⟩⟩)))))))⟩⟩))))⟩)
  rw [mset_mset, show (1 : Int) + (k2 : Int) = ((1 + k2 : Nat) : Int) by omega, cutD_map, show (3 : Int) = ((3 : Nat) : Int) from rfl, cut_from, cutD_map, cut_to]
  have s4 := s3.trans t4 (k := 42)
  refine wps_cons (.inr "vars") (we_str ⟨rfl, we_var 2 rfl (wps_nil fun fl nfl => ?_)⟩)
  have hfp : fl ≠ pn := by rintro rfl; rw [mset_same] at nfl; cases nfl
  have nf0 : μ fl = none := by rw [mset_ne hfp] at nfl; exact nfl
  rw [mset_comm (Ne.symm hfp)]
  -- two names more
  refine wss_cons (ws_expr (we_update (we_var 3 rfl ⟨fl, rfl, ⟨_, by rw [mset_ne hfp]; exact mset_same⟩, we_disp rfl rfl (by simp) (by decide) (wps_cons (.inr "names") (we_str ⟨rfl, we_slL (we_slL (we_var 1 rfl (wo_some (we_int ⟨6, rfl, wo_none ⟨_, .lst, wo_none (wo_some (we_add (we_int (we_call hD hr (wa_two (we_var 0 rfl (we_int ⟨pn, p4, 3, rfl, mset_same, (ok.to s4 (k := 18)).ok, by decide, by decide, fun k3 p5 h3 t5 => ⟨_, _, rfl, rfl, _, rfl, _, .lst, ?_⟩⟩)))))))⟩⟩))))⟩))⟩)))
  rw [mset_mset, show (1 : Int) + (k3 : Int) = ((1 + k3 : Nat) : Int) by omega, cutD_map, show (6 : Int) = ((6 : Nat) : Int) from rfl, cut_from, cutD_map, cut_to]
  have s5 := s4.trans t5 (k := 43)
  refine wps_cons (.inr "askers") (we_str ⟨rfl, we_slL (we_var 1 rfl (wo_some (we_int ⟨9, rfl, wo_some (we_int ⟨11, rfl, _, .lst, wps_nil ⟨_, _, by rw [mset_ne hfp]; exact mset_same, rfl, by rw [sizeLine_eq]; show 5 ≤ 16777216; decide, ?_⟩⟩)⟩)))⟩)
  rw [show (9 : Int) = ((9 : Nat) : Int) from rfl, show (11 : Int) = ((11 : Nat) : Int) from rfl, cutD_map, cut_mid, mset_over hfp]
  let s0 : Sc := ⟨nh.take (1 + k1), (nh.drop 3).take (1 + k2), wo, (nh.drop 6).take (1 + k3), (nh.take 11).drop 9⟩
  have e0 : mergeD (mergeD [] [(.inr "kinds", .lst ((nh.take (1 + k1)).map .str)), (.inr "ties", .lst (((nh.drop 3).take (1 + k2)).map .str)), (.inr "vars", .lst (wo.map .str))]) (mergeD [] [(.inr "names", .lst (((nh.drop 6).take (1 + k3)).map .str)), (.inr "askers", .lst (((nh.take 11).drop 9).map .str))]) = scK s0 := rfl
  rw [e0]
  have ok0 : ScOk s0 := by
    refine ⟨?_, ?_, ?_, ?_, ?_, ?_, hw⟩ <;> simp [s0, hn] <;> omega
  generalize s0 = sc at ok0
  clear e0
  refine wss_cons (ws_set 4 sc52.nd (we_call hD hr (wa_two (we_var 0 rfl (we_int ⟨pn, p5, 7, rfl, mset_same, (ok.to s5 (k := 17)).ok, by decide, by decide, fun kw p6 h6 t6 => ?_⟩)))))
  rw [mset_mset]
  have s6 := s5.trans t6 (k := 44)
  have nz : ∀ xs : List Str, xs.length ≤ 15 → (xs.map D.str).length ≤ sizeLine := fun xs h => by rw [List.length_map, sizeLine_eq]; omega
  have edm : ∀ (s : Sc) (p' : Pen), (mset (mset μ fl (.md (scK s))) pn (penM p')) fl = some (.md (scK s)) := fun s p' => by rw [mset_ne hfp]; exact mset_same
  refine wss_mid (fun G' μ' => ∃ s p' o5 o6 o7, ScOk s ∧ p.to 45 p' ∧ G' = [some (.ref pn), some (.lst (nh.map .str)), some (.lst (wo.map .str)), some (.ref fl), some (.int (kw : Nat)), o5, o6, o7] ∧ μ' = mset (mset μ fl (.md (scK s))) pn (penM p')) (ws_if (wt_eq (we_var 4 rfl (we_int ⟨_, scal_int, ?_⟩)))) ?_
  · by_cases hw2 : (kw : Int) = 2
    · rw [decide_eq_true hw2, if_pos rfl]
      refine wss_cons (ws_set 5 sc52.nd (we_call hD hr (wa_two (we_var 0 rfl (we_int ⟨pn, p6, 3, rfl, mset_same, (ok.to s6 (k := 16)).ok, by decide, by decide, fun kt p7 h7 t7 => ?_⟩)))))
      rw [mset_mset]
      have s7 := s6.trans t7 (k := 45)
      let A : List Str := ["knot", "any", "no"]
      let B : List Str := ["tie", "way", "no"]
      refine wss_cons (ws_for (ks := [6, 7]) rfl (wi_seq (we_tup (wa_two (we_tup (wa_two (we_str (we_lstK (A.map .str) ⟨by rw [sizeLine_eq]; show 2 ≤ 16777216; decide, we_tup (wa_two (we_str (we_lstK (B.map .str) ⟨by rw [sizeLine_eq]; show 2 ≤ 16777216; decide, by rw [sizeLine_eq]; show 2 ≤ 16777216; decide, _, .tup, fun hz =>
        ⟨fun i G' μ' => ∃ s o6 o7, ScOk s ∧ G' = [some (.ref pn), some (.lst (nh.map .str)), some (.lst (wo.map .str)), some (.ref fl), some (.int (kw : Nat)), some (.int (kt : Nat)), o6, o7] ∧ μ' = mset (mset μ fl (.md (scK s))) pn (penM p7), ⟨sc, _, _, ok0, rfl, rfl⟩, ?_, ?_⟩⟩)))⟩))))))))
      · have cut6 : ∀ (C : List Str) (n : Nat), C.length = 3 → 0 < n → n ≤ 15 → 0 < (((C ++ C).drop kt).take n).length ∧ (((C ++ C).drop kt).take n).length ≤ 15 := fun C n hC h0 h1 => by
          rw [List.length_take, List.length_drop, List.length_append]; omega
        rintro i d G' μ' ed ⟨s, o6, o7, oks, rfl, rfl⟩
        match i, ed with
        | 0, ed =>
          cases ed
          refine wg_tup rfl ⟨_, rfl, rfl, wgs_cons (wg_name 6 sc52.nd (wgs_cons (wg_name 7 sc52.nd (wgs_nil ?_))))⟩
          refine wss_one (ws_dput hu (we_slL (we_slL (we_catL (we_var 7 rfl (we_var 7 rfl ⟨_, _, .lst, .lst, by rw [sizeLine_eq]; show 3 + 3 ≤ 16777216; decide, wo_some (we_var 5 rfl ⟨_, rfl, wo_none ⟨_, .lst, wo_none (wo_some (we_len rfl fr.len (we_dget hu (we_var 3 rfl (we_var 6 rfl ⟨scK s, .inr "kinds", _, .md (edm s p7), rfl, sc_kinds s, _, .lst, _, rfl, _, .lst, we_var 3 rfl (we_var 6 rfl ⟨fl, scK s, .inr "kinds", rfl, rfl, edm s p7, sc_len s, ?_⟩)⟩)))))⟩⟩)⟩))))))
          rw [List.length_map, ← List.map_append, cutD_map, cut_from, cutD_map, cut_to, mset_over hfp, put_kinds]
          have := cut6 A s.kinds.length rfl oks.k0 oks.k1
          exact ⟨{ s with kinds := ((A ++ A).drop kt).take s.kinds.length }, _, _, ⟨this.1, this.2, oks.t0, oks.t1, oks.n0, oks.n1, oks.v⟩, rfl, rfl⟩
        | 1, ed =>
          cases ed
          refine wg_tup rfl ⟨_, rfl, rfl, wgs_cons (wg_name 6 sc52.nd (wgs_cons (wg_name 7 sc52.nd (wgs_nil ?_))))⟩
          refine wss_one (ws_dput hu (we_slL (we_slL (we_catL (we_var 7 rfl (we_var 7 rfl ⟨_, _, .lst, .lst, by rw [sizeLine_eq]; show 3 + 3 ≤ 16777216; decide, wo_some (we_var 5 rfl ⟨_, rfl, wo_none ⟨_, .lst, wo_none (wo_some (we_len rfl fr.len (we_dget hu (we_var 3 rfl (we_var 6 rfl ⟨scK s, .inr "ties", _, .md (edm s p7), rfl, sc_ties s, _, .lst, _, rfl, _, .lst, we_var 3 rfl (we_var 6 rfl ⟨fl, scK s, .inr "ties", rfl, rfl, edm s p7, sc_len s, ?_⟩)⟩)))))⟩⟩)⟩))))))
          rw [List.length_map, ← List.map_append, cutD_map, cut_from, cutD_map, cut_to, mset_over hfp, put_ties]
          have := cut6 B s.ties.length rfl oks.t0 oks.t1
          exact ⟨{ s with ties := ((B ++ B).drop kt).take s.ties.length }, _, _, ⟨oks.k0, oks.k1, this.1, this.2, oks.n0, oks.n1, oks.v⟩, rfl, rfl⟩
        | n + 2, ed => cases ed
      · rintro _ _ ⟨s, o6, o7, oks, rfl, rfl⟩
        let W6 : List Str := ["holds", "any", "tie", "knot", "no", "same"]
        let W4 : List Str := ["any", "no", "knot", "tie"]
        refine wss_cons (ws_dput hu (we_slL (we_slL (we_repL (we_lstK (W6.map .str) (we_int ⟨_, 2, .lst, rfl, by decide, by decide, by rw [sizeLine_eq]; show 6 * 2 ≤ 16777216; decide, wo_some (we_mul (we_int (we_var 5 rfl ⟨_, _, rfl, rfl, .inl ⟨by decide, by decide⟩, _, rfl, wo_none ⟨_, .lst, wo_none (wo_some (we_len rfl fr.len (we_dget hu (we_var 3 rfl (we_str ⟨scK s, .inr "names", _, .md (edm s p7), rfl, sc_names s, _, .lst, _, rfl, _, .lst, we_var 3 rfl (we_str ⟨fl, scK s, .inr "names", rfl, rfl, edm s p7, sc_len s, ?_⟩)⟩)))))⟩⟩)))⟩))))))
        have r6 : (List.replicate (2 : Int).toNat (W6.map D.str)).flatten = (W6 ++ W6).map .str := rfl
        rw [List.length_map, r6, show (2 : Int) * (kt : Int) = ((2 * kt : Nat) : Int) by omega, cutD_map, cut_from, cutD_map, cut_to, mset_over hfp, put_names]
        have c6 : 0 < (((W6 ++ W6).drop (2 * kt)).take s.names.length).length ∧ (((W6 ++ W6).drop (2 * kt)).take s.names.length).length ≤ 15 := by
          have h0 := oks.n0
          have h1 := oks.n1
          have hl : (W6 ++ W6).length = 12 := rfl
          rw [List.length_take, List.length_drop, hl]; omega
        generalize ((W6 ++ W6).drop (2 * kt)).take s.names.length = nn at c6
        refine wss_one (ws_dput hu (we_slL (we_slL (we_repL (we_lstK (W4.map .str) (we_int ⟨_, 2, .lst, rfl, by decide, by decide, by rw [sizeLine_eq]; show 4 * 2 ≤ 16777216; decide, wo_some (we_var 5 rfl ⟨_, rfl, wo_none ⟨_, .lst, wo_none (wo_some (we_int ⟨4, rfl, _, .lst, we_var 3 rfl (we_str ⟨fl, _, .inr "vars", rfl, rfl, edm _ p7, sc_len _, ?_⟩)⟩))⟩⟩)⟩))))))
        have r4 : (List.replicate (2 : Int).toNat (W4.map D.str)).flatten = (W4 ++ W4).map .str := rfl
        rw [r4, cutD_map, cut_from, show (4 : Int) = ((4 : Nat) : Int) from rfl, cutD_map, cut_to, mset_over hfp, put_vars]
        refine ⟨{ s with names := nn, vars := ((W4 ++ W4).drop kt).take 4 }, p7, _, _, _, ⟨oks.k0, oks.k1, oks.t0, oks.t1, c6.1, c6.2, ?_⟩, s7, rfl, rfl⟩
        have hl : (W4 ++ W4).length = 8 := rfl
        show (((W4 ++ W4).drop kt).take 4).length = 4
        rw [List.length_take, List.length_drop, hl]; omega
    · rw [decide_eq_false hw2, if_neg Bool.false_ne_true]
      exact wss_nil ⟨sc, p6, _, _, _, ok0, s6.le (by omega), rfl, rfl⟩
  rintro _ _ ⟨s1, p7, o5, o6, o7, ok1, s7, rfl, rfl⟩
  refine wss_mid (fun G' μ' => ∃ s, ScOk s ∧ G' = [some (.ref pn), some (.lst (nh.map .str)), some (.lst (wo.map .str)), some (.ref fl), some (.int (kw : Nat)), o5, o6, o7] ∧ μ' = mset (mset μ fl (.md (scK s))) pn (penM p7)) (ws_if (wt_eq (we_var 4 rfl (we_int ⟨_, scal_int, ?_⟩)))) ?_
  · by_cases hw0 : (kw : Int) = 0
    · rw [decide_eq_true hw0, if_pos rfl]
      refine wss_one (ws_expr (we_update (we_var 3 rfl ⟨fl, rfl, ⟨_, edm s1 p7⟩, we_disp rfl rfl (by simp) (by decide) (wps_cons (.inr "ties") (we_str ⟨rfl, we_rev (we_dget hu (we_var 3 rfl (we_str ⟨scK s1, .inr "kinds", _, .md (edm s1 p7), rfl, sc_kinds s1, _, .lst, ?_⟩)))⟩))⟩)))
      refine wps_cons (.inr "names") (we_str ⟨rfl, we_list rfl fr.list (we_dget hu (we_var 3 rfl (we_str ⟨scK s1, .inr "kinds", _, .md (edm s1 p7), rfl, sc_kinds s1, _, .lst, ?_⟩)))⟩)
      refine wps_cons (.inr "vars") (we_str ⟨rfl, we_slL (we_var 1 rfl (wo_none (wo_some (we_int ⟨4, rfl, _, .lst, wps_nil ⟨scK s1, _, edm s1 p7, rfl, by rw [sizeLine_eq]; show 5 + 3 ≤ 16777216; decide, ?_⟩⟩))))⟩)
      rw [show (4 : Int) = ((4 : Nat) : Int) from rfl, cutD_map, cut_to, ← List.map_reverse, mset_over hfp]
      have e0 : mergeD (scK s1) (mergeD [] [(.inr "ties", .lst (s1.kinds.reverse.map .str)), (.inr "names", .lst (s1.kinds.map .str)), (.inr "vars", .lst ((nh.take 4).map .str))]) = scK { s1 with ties := s1.kinds.reverse, names := s1.kinds, vars := nh.take 4 } := rfl
      rw [e0]
      refine ⟨{ s1 with ties := s1.kinds.reverse, names := s1.kinds, vars := nh.take 4 }, ⟨ok1.k0, ok1.k1, ?_, ?_, ok1.k0, ok1.k1, ?_⟩, rfl, rfl⟩
      · show 0 < s1.kinds.reverse.length; rw [List.length_reverse]; exact ok1.k0
      · show s1.kinds.reverse.length ≤ 15; rw [List.length_reverse]; exact ok1.k1
      · show (nh.take 4).length = 4; rw [List.length_take]; omega
    · rw [decide_eq_false hw0, if_neg Bool.false_ne_true]
      exact wss_nil ⟨s1, ok1, rfl, rfl⟩
  rintro _ _ ⟨s2', ok2, rfl, rfl⟩
  refine wss_mid (fun G' μ' => ∃ s, ScOk s ∧ G' = [some (.ref pn), some (.lst (nh.map .str)), some (.lst (wo.map .str)), some (.ref fl), some (.int (kw : Nat)), o5, o6, o7] ∧ μ' = mset (mset μ fl (.md (scK s))) pn (penM p7)) (ws_if (wt_eq (we_var 4 rfl (we_int ⟨_, scal_int, ?_⟩)))) ?_
  · by_cases hw1 : (kw : Int) = 1
    · rw [decide_eq_true hw1, if_pos rfl]
      refine wss_one (ws_dput hu (we_catL (we_slL (we_var 1 rfl (wo_some (we_int ⟨6, rfl, wo_some (we_int ⟨9, rfl, _, .lst, we_slL (we_var 1 rfl (wo_some (we_int ⟨11, rfl, wo_some (we_int ⟨14, rfl, _, .lst, _, _, .lst, .lst, ?_, we_var 3 rfl (we_str ⟨fl, scK s2', .inr "names", rfl, rfl, edm s2' p7, sc_len s2', ?_⟩)⟩)⟩)))⟩)⟩))))))
      · rw [show (6 : Int) = ((6 : Nat) : Int) from rfl, show (9 : Int) = ((9 : Nat) : Int) from rfl, show (11 : Int) = ((11 : Nat) : Int) from rfl, show (14 : Int) = ((14 : Nat) : Int) from rfl, cutD_map, cutD_map, cut_mid, cut_mid, List.length_map, List.length_map, sizeLine_eq]
        simp; omega
      · rw [show (6 : Int) = ((6 : Nat) : Int) from rfl, show (9 : Int) = ((9 : Nat) : Int) from rfl, show (11 : Int) = ((11 : Nat) : Int) from rfl, show (14 : Int) = ((14 : Nat) : Int) from rfl, cutD_map, cutD_map, cut_mid, cut_mid, ← List.map_append, put_names, mset_over hfp]
        refine ⟨{ s2' with names := (nh.take 9).drop 6 ++ (nh.take 14).drop 11 }, ⟨ok2.k0, ok2.k1, ok2.t0, ok2.t1, ?_, ?_, ok2.v⟩, rfl, rfl⟩ <;> simp [hn]
    · rw [decide_eq_false hw1, if_neg Bool.false_ne_true]
      exact wss_nil ⟨s2', ok2, rfl, rfl⟩
  rintro _ _ ⟨s3', ok3, rfl, rfl⟩
  exact wss_one (ws_ret (we_var 3 rfl (q fl s3' p7 nf0 ok3 (s7.le (by decide)))))
end
end Ws
/-! LD: variables, rows. -/
namespace Ws
open PySem PyProof.Rows PySem.Spec L2
/-- the known names, the words that are left, the pen -/
def St3 (μ : Mu) (kl wl pn : Addr) (ks ws : List Str) (p : Pen) : Mu := mset (mset (mset μ kl (.ml (ks.map .str))) wl (.ml (ws.map .str))) pn (penM p)
section
variable {μ : Mu} {kl wl pn : Addr} {ks ws ks' ws' : List Str} {p p' : Pen}
theorem st3_pn : St3 μ kl wl pn ks ws p pn = some (penM p) := mset_same
theorem st3_wl (h : wl ≠ pn) : St3 μ kl wl pn ks ws p wl = some (.ml (ws.map .str)) := by unfold St3; rw [mset_ne h, mset_same]
theorem st3_kl (h : kl ≠ pn) (h2 : kl ≠ wl) : St3 μ kl wl pn ks ws p kl = some (.ml (ks.map .str)) := by unfold St3; rw [mset_ne h, mset_ne h2, mset_same]
theorem st3_ne {a : Addr} (h1 : a ≠ kl) (h2 : a ≠ wl) (h3 : a ≠ pn) : St3 μ kl wl pn ks ws p a = μ a := by unfold St3; rw [mset_ne h3, mset_ne h2, mset_ne h1]
theorem st3_again : St3 (St3 μ kl wl pn ks ws p) kl wl pn ks' ws' p' = St3 μ kl wl pn ks' ws' p' := by
  funext a
  unfold St3 mset
  by_cases h3 : a = pn
  · simp [h3]
  · by_cases h2 : a = wl
    · subst h2; simp [h3]
    · by_cases h1 : a = kl
      · subst h1; simp [h3, h2]
      · simp [h3, h2, h1]
theorem st3_pen : mset (St3 μ kl wl pn ks ws p) pn (penM p') = St3 μ kl wl pn ks ws p' := mset_mset
theorem st3_self (h1 : μ kl = some (.ml (ks.map .str))) (h2 : μ wl = some (.ml (ws.map .str))) : mset μ pn (penM p') = St3 μ kl wl pn ks ws p' := by
  unfold St3
  rw [mset_self h1, mset_self h2]
end
/-- a variable more, or one that is known -/
def Grow (ks ws ks' ws' : List Str) (v : Str) : Prop := (ks' = ks ∧ ws' = ws ∧ v ∈ ks) ∨ (ws = ws' ++ [v] ∧ ks' = ks ++ [v])
theorem Grow.mem {ks ws ks' ws' : List Str} {v : Str} (h : Grow ks ws ks' ws' v) : v ∈ ks' := by
  rcases h with ⟨h1, _, h3⟩ | ⟨_, h2⟩
  · rw [h1]; exact h3
  · rw [h2]; simp
theorem Grow.up {ks ws ks' ws' : List Str} {v : Str} (h : Grow ks ws ks' ws' v) : ∀ x ∈ ks, x ∈ ks' := by
  rcases h with ⟨h1, _, h3⟩ | ⟨_, h2⟩
  · rw [h1]; exact fun x h => h
  · rw [h2]; exact fun x h => List.mem_append_left _ h
theorem Grow.new {ks ws ks' ws' : List Str} {v : Str} (h : Grow ks ws ks' ws' v) : ∀ x ∈ ks', x ∈ ks ∨ x = v := by
  rcases h with ⟨h1, _, h3⟩ | ⟨_, h2⟩
  · rw [h1]; exact fun x h => .inl h
  · rw [h2]; exact fun x h => (List.mem_append.mp h).imp id List.mem_singleton.mp
theorem Grow.un {ks ws ks' ws' : List Str} {v : Str} (h : Grow ks ws ks' ws' v) : ∀ x, x ∈ ks' ∨ x ∈ ws' → x ∈ ks ∨ x ∈ ws := by
  rcases h with ⟨h1, h2, h3⟩ | ⟨h1, h2⟩
  · rw [h1, h2]; exact fun x h => h
  · rw [h1, h2]
    rintro x (h | h)
    · rcases List.mem_append.mp h with h | h
      · exact .inl h
      · exact .inr (List.mem_append_right _ h)
    · exact .inr (List.mem_append_left _ h)
theorem Grow.len {ks ws ks' ws' : List Str} {v : Str} (h : Grow ks ws ks' ws' v) : ks'.length + ws'.length = ks.length + ws.length := by
  rcases h with ⟨h1, h2, h3⟩ | ⟨h1, h2⟩
  · rw [h1, h2]
  · rw [h1, h2, List.length_append, List.length_append]; simp; omega
theorem Grow.wl {ks ws ks' ws' : List Str} {v : Str} (h : Grow ks ws ks' ws' v) : ws'.length ≤ ws.length := by
  rcases h with ⟨h1, h2, h3⟩ | ⟨h1, h2⟩
  · rw [h2]; exact Nat.le_refl _
  · rw [h1, List.length_append]; omega
section
variable {P : Program} {w : World} {K : PySem.W.Frag} {mg : Str → Option Value} {base : Heap} {T : TabS} {f : Addr} {fd : FuncData}
theorem sc53 : FnScope ["_law_pen_here", "_law_known", "_law_words"] ["_law_pen_here", "_law_known", "_law_words"] (defScope (top 53)) := ⟨rfl, rfl, rfl, by decide +kernel, rfl, by decide +kernel, by decide +kernel⟩
def S_variable : DSp := fun ds μ Q => ∃ pn kl wl p, ∃ ks ws : List Str, ds = [.ref pn, .ref kl, .ref wl] ∧ μ pn = some (penM p) ∧ PenR p 2 ∧ μ kl = some (.ml (ks.map .str)) ∧ μ wl = some (.ml (ws.map .str)) ∧ kl ≠ wl ∧ (ks = [] → ws ≠ []) ∧ ks.length + ws.length ≤ 100 ∧
  ∀ v ks' ws' p', Grow ks ws ks' ws' v → p.to 2 p' → Q (.str v) (St3 μ kl wl pn ks' ws' p')
theorem d_variable (fr : Free mg) (hD : DefAt P w K mg base T 1 "_law_draw" S_draw) (hP : DefAt P w K mg base T 2 "_law_pick" S_pick) (F : FnP K "_law_variable" (top 53) f fd) (g : mg "_law_variable" = some (.ref f)) : DefAt P w K mg base T 3 "_law_variable" S_variable := by
  refine defAt_of F g (ps := ["_law_pen_here", "_law_known", "_law_words"]) (fun _ _ _ _ _ _ us hl => match us, hl with | [_, _, _], _ => rfl) (fn_okD F sc53 (fun ds μ Q ⟨_, _, _, _, _, _, h, _⟩ => by rw [h]; rfl) fun cdv A outer0 s H E ds μ Q hr ⟨pn, kl, wl, p, ks, ws, e, em, ok, ek, ew, hne, hw0, hl, q⟩ => ?_)
  subst e
  have hu := hr.u1
  have kp : kl ≠ pn := by rintro rfl; rw [em] at ek; cases ek
  have wp : wl ≠ pn := by rintro rfl; rw [em] at ew; cases ew
  -- a new one, or one that is known
  refine wss_mid (fun G' μ' => ∃ p', p.to 1 p' ∧ G' = [some (.ref pn), some (.ref kl), some (.ref wl)] ∧ μ' = mset μ pn (penM p') ∧ ks ≠ []) (ws_ifP (fun k μ1 => ∃ p', p.to 1 p' ∧ μ1 = mset μ pn (penM p') ∧ (k = true → ws ≠ []) ∧ (k = false → ks ≠ [])) (wt_w (wtw_or ?_)) fun k μ1 ⟨p', t1, em1, hk1, hk2⟩ => ?_) ?_
  · refine wt_eqNil hu (we_var 1 rfl ⟨_, .ml ek, ?_⟩)
    cases hks : ks with
    | nil => exact ⟨p, .refl _ _, (mset_self em).symm, fun _ => hw0 hks, fun h => (nomatch h)⟩
    | cons k0 kr =>
      refine wtw_or1 (wt_w (wtw_and (wt_neNil hu (we_var 2 rfl ⟨_, .ml ew, ?_⟩))))
      cases hws : ws with
      | nil => exact ⟨p, .refl _ _, (mset_self em).symm, (fun h => nomatch h), fun _ => by simp⟩
      | cons w0 wr =>
        exact wtw_and1 (wt_eq (we_call hD hr (wa_two (we_var 0 rfl (we_int ⟨pn, p, 2, rfl, em, ok.ok, by decide, by decide, fun k p1 h1 t1 => we_int ⟨_, scal_int, p1, t1, rfl, fun _ => by simp, fun _ => by simp⟩⟩)))))
  · subst em1
    cases k with
    | false => exact wss_nil ⟨p', t1, rfl, rfl, hk2 rfl⟩
    | true =>
      obtain ⟨ws', v, rfl⟩ : ∃ ws' v, ws = ws' ++ [v] := by
        rcases List.eq_nil_or_concat ws with h | ⟨a, b, h⟩
        · exact absurd h (hk1 rfl)
        · exact ⟨a, b, by rw [h, List.concat_eq_append]⟩
      have ek1 : (mset μ pn (penM p')) kl = some (.ml (ks.map .str)) := by rw [mset_ne kp]; exact ek
      have ew1 : (mset μ pn (penM p')) wl = some (.ml ((ws' ++ [v]).map .str)) := by rw [mset_ne wp]; exact ew
      refine wss_cons (ws_expr (we_append (we_var 1 rfl ⟨kl, rfl, ⟨_, ek1⟩, we_pop (we_var 2 rfl ⟨wl, _, .str v, rfl, ew1, ?_, _, by rw [mset_ne hne]; exact ek1, ?_, ?_⟩)⟩)))
      · rw [List.map_append, List.length_append]; simp
      · rw [List.length_map, sizeLine_eq]; omega
      · have est : mset (mset (mset μ pn (penM p')) wl (.ml ((ws' ++ [v]).map .str).dropLast)) kl (.ml (ks.map .str ++ [.str v])) = St3 μ kl wl pn (ks ++ [v]) ws' p' := by
          unfold St3
          have e1 : ((ws' ++ [v]).map D.str).dropLast = ws'.map .str := by rw [List.map_append]; simp
          have e2 : (ks.map D.str ++ [.str v]) = (ks ++ [v]).map .str := by rw [List.map_append]; rfl
          rw [e1, e2, mset_comm (μ := mset μ pn (penM p')) (Ne.symm hne), mset_comm (μ := μ) (Ne.symm kp), mset_comm (Ne.symm wp)]
        rw [est]
        refine wss_one (ws_ret (we_ix (we_var 1 rfl (we_neg (we_int ⟨1, rfl, _, _, .str v, .ml (st3_kl kp hne), rfl, ?_, q v _ _ p' (.inr ⟨rfl, rfl⟩) (t1.le (by decide))⟩)))))
        rw [List.map_append]
        exact atI_last
  rintro _ _ ⟨p1, t1, rfl, rfl, hks⟩
  have ek1 : (mset μ pn (penM p1)) kl = some (.ml (ks.map .str)) := by rw [mset_ne kp]; exact ek
  refine wss_one (ws_ret (we_call hP hr (wa_two (we_var 0 rfl (we_var 1 rfl ⟨pn, p1, _, _, rfl, mset_same, ok.to t1, .ml ek1, by simp [hks], by rw [List.length_map]; omega, fun e he p2 t2 => ?_⟩)))))
  obtain ⟨v, hv, rfl⟩ := List.mem_map.mp he
  rw [mset_mset, st3_self ek ew]
  exact q v ks ws p2 (.inl ⟨rfl, rfl, hv⟩) (t1.trans t2)
/-! ### _law_row -/
structure ScR (s : Sc) : Prop where
  k0 : 0 < s.kinds.length
  k1 : s.kinds.length ≤ 15
  t0 : 0 < s.ties.length
  t1 : s.ties.length ≤ 15
  n0 : 0 < s.names.length
  n1 : s.names.length ≤ 15
theorem ScOk.r {s : Sc} (h : ScOk s) : ScR s := ⟨h.k0, h.k1, h.t0, h.t1, h.n0, h.n1⟩
structure RowPost (ks ws ks' ws' : List Str) (r : PRow) : Prop where
  ok : r.ok
  vs : ∀ x ∈ r.vs, x ∈ ks'
  up : ∀ x ∈ ks, x ∈ ks'
  new : ∀ x ∈ ks', x ∈ ks ∨ ((Row.p r).isB = true ∧ x ∈ r.vs)
  un : ∀ x, x ∈ ks' ∨ x ∈ ws' → x ∈ ks ∨ x ∈ ws
  len : ks'.length + ws'.length = ks.length + ws.length
  b0 : ks = [] → (Row.p r).isB = true
  wl : ws'.length ≤ ws.length
def S_row : DSp := fun ds μ Q => ∃ pn sn kl wl p s, ∃ ks ws : List Str, ds = [.ref pn, .ref sn, .ref kl, .ref wl] ∧ μ pn = some (penM p) ∧ PenR p 20 ∧ μ sn = some (.md (scK s)) ∧ ScR s ∧ μ kl = some (.ml (ks.map .str)) ∧ μ wl = some (.ml (ws.map .str)) ∧ kl ≠ wl ∧ (ks = [] → ws ≠ []) ∧ ks.length + ws.length ≤ 100 ∧
  ∀ r ks' ws' p', RowPost ks ws ks' ws' r → p.to 20 p' → Q (dPR r) (St3 μ kl wl pn ks' ws' p')
theorem sc54 : FnScope ["_law_pen_here", "_law_scene_here", "_law_known", "_law_words", "_law_way", "_law_word", "_law_v", "_law_w"] ["_law_pen_here", "_law_scene_here", "_law_known", "_law_words"] (defScope (top 54)) := ⟨rfl, rfl, rfl, by decide +kernel, rfl, by decide +kernel, by decide +kernel⟩
def words4 : List Str := ["same", "same", "less", "more"]
theorem pen_ne_sc {p : Pen} {s : Sc} : penM p ≠ .md (scK s) := fun h => by
  have h1 : kvP p = scK s := MO.md.inj h
  have h2 := congrArg List.length h1
  cases h2
theorem pick_str {xs : List Str} {e : D} (h : e ∈ xs.map D.str) : ∃ x ∈ xs, e = .str x := by
  obtain ⟨x, hx, rfl⟩ := List.mem_map.mp h
  exact ⟨x, hx, rfl⟩
theorem map_ne {xs : List Str} (h : 0 < xs.length) : xs.map D.str ≠ [] := by
  intro z
  have := congrArg List.length z
  rw [List.length_map] at this
  rw [this] at h; cases h
theorem two_post {ks ws k1 w1 k2 w2 : List Str} {v u : Str} (g1 : Grow ks ws k1 w1 v) (g2 : Grow k1 w1 k2 w2 u) {r : PRow} (hB : (Row.p r).isB = true) (ok : r.ok) (hv : ∀ x, x ∈ r.vs ↔ x = v ∨ x = u) : RowPost ks ws k2 w2 r where
  ok := ok
  vs := fun x hx => by
    rcases (hv x).mp hx with rfl | rfl
    · exact g2.up _ g1.mem
    · exact g2.mem
  up := fun x hx => g2.up x (g1.up x hx)
  new := fun x hx => by
    rcases g2.new x hx with h | h
    · rcases g1.new x h with h | h
      · exact .inl h
      · exact .inr ⟨hB, (hv x).mpr (.inl h)⟩
    · exact .inr ⟨hB, (hv x).mpr (.inr h)⟩
  un := fun x hx => g1.un x (g2.un x hx)
  len := g2.len.trans g1.len
  b0 := fun _ => hB
  wl := Nat.le_trans g2.wl g1.wl
theorem one_post {ks ws k1 w1 : List Str} {v : Str} (g1 : Grow ks ws k1 w1 v) {r : PRow} (hB : (Row.p r).isB = true) (ok : r.ok) (hv : r.vs = [v]) : RowPost ks ws k1 w1 r where
  ok := ok
  vs := fun x hx => by rw [hv] at hx; rw [List.mem_singleton.mp hx]; exact g1.mem
  up := g1.up
  new := fun x hx => (g1.new x hx).imp id fun h => ⟨hB, by rw [hv, h]; simp⟩
  un := g1.un
  len := g1.len
  b0 := fun _ => hB
  wl := g1.wl
theorem none_post {ks ws : List Str} {r : PRow} (hks : ks ≠ []) (ok : r.ok) (hv : ∀ x ∈ r.vs, x ∈ ks) : RowPost ks ws ks ws r := ⟨ok, hv, fun x h => h, fun x h => .inl h, fun x h => h, rfl, fun h => absurd h hks, Nat.le_refl _⟩
theorem swap_at {v u : Str} {k : Nat} (h : k < 2) : ∃ a b : Str, atI [D.tup [.str v, .str u], D.tup [.str u, .str v]] (k : Int) = some (.tup [.str a, .str b]) ∧ ∀ x, x = a ∨ x = b ↔ x = v ∨ x = u := by
  match k, h with
  | 0, _ => exact ⟨v, u, rfl, fun x => Iff.rfl⟩
  | 1, _ => exact ⟨u, v, rfl, fun x => Or.comm⟩
theorem d_row (fr : Free mg) (hD : DefAt P w K mg base T 1 "_law_draw" S_draw) (hP : DefAt P w K mg base T 2 "_law_pick" S_pick) (hV : DefAt P w K mg base T 3 "_law_variable" S_variable) (hW : DefAt P w K mg base T 3 "_law_worth" S_worth) (F : FnP K "_law_row" (top 54) f fd) (g : mg "_law_row" = some (.ref f)) : DefAt P w K mg base T 4 "_law_row" S_row := by
  refine defAt_of F g (ps := ["_law_pen_here", "_law_scene_here", "_law_known", "_law_words"]) (fun _ _ _ _ _ _ us hl => match us, hl with | [_, _, _, _], _ => rfl) (fn_okD F sc54 (fun ds μ Q ⟨_, _, _, _, _, _, _, _, h, _⟩ => by rw [h]; rfl) fun cdv A outer0 s0 H E ds μ Q hr ⟨pn, sn, kl, wl, p, s, ks, ws, e, em, ok, es, sok, ek, ew, hne, hw0, hl, q⟩ => ?_)
  subst e
  have hu := hr.u1
  have kp : kl ≠ pn := by rintro rfl; rw [em] at ek; cases ek
  have wp : wl ≠ pn := by rintro rfl; rw [em] at ew; cases ew
  have sp : sn ≠ pn := by rintro rfl; rw [em] at es; exact pen_ne_sc (Option.some.inj es)
  have sk : sn ≠ kl := by rintro rfl; rw [es] at ek; cases ek
  have sw : sn ≠ wl := by rintro rfl; rw [es] at ew; cases ew
  have es' : ∀ ks' ws' p', St3 μ kl wl pn ks' ws' p' sn = some (.md (scK s)) := fun ks' ws' p' => by rw [st3_ne sk sw sp]; exact es
  refine wss_cons (ws_par 4 5 (hw := by kernel_rfl) rfl sc54.nd (we_call hD hr (wa_two (we_var 0 rfl (we_int ⟨pn, p, 12, rfl, em, ok.ok, by decide, by decide, fun kw p1 h1 t1 => ?_⟩)))))
  refine we_call hP hr (wa_two (we_var 0 rfl (we_lstK (words4.map .str) ⟨pn, p1, _, _, rfl, mset_same, (ok.to t1 (k := 1)), .lst, map_ne (by decide), by decide, fun e he p2 t2 => ?_⟩)))
  obtain ⟨wd, _, rfl⟩ := pick_str he
  rw [mset_mset, st3_self ek ew]
  have s2 := t1.trans t2 (k := 2)
  clear he
  refine wss_cons (ws_ifP (fun k μ1 => μ1 = St3 μ kl wl pn ks ws p2 ∧ k = decide ((ks = [] ∧ 2 < (kw : Int)) ∨ (2 < (kw : Int) ∧ (kw : Int) < 7))) (wt_w (wtw_or (wt_w (wtw_and (wt_eqNil hu (we_var 2 rfl ⟨_, .ml (st3_kl kp hne), ?_⟩)))))) ?_)
  · cases hks : ks with
    | nil =>
      refine wtw_and1 (wt_gt (we_var 4 rfl (we_int ⟨_, _, rfl, rfl, ?_⟩)))
      by_cases h2 : (2 : Int) < (kw : Int)
      · rw [decide_eq_true h2, if_pos rfl]; exact ⟨rfl, (decide_eq_true (.inl ⟨rfl, h2⟩)).symm⟩
      · rw [decide_eq_false h2, if_neg Bool.false_ne_true]
        refine wtw_or1 (wt_chainI (g := fun i j => decide (i < j)) (g' := fun i j => decide (i < j)) op_lt op_lt (we_int (we_var 4 rfl ⟨_, _, rfl, rfl, fun _ => ⟨rfl, ?_⟩, fun hg => absurd (of_decide_eq_true hg) h2⟩)))
        exact (decide_eq_false fun z => h2 (z.elim (fun a => a.2) fun a => a.1)).symm
    | cons k0 kr =>
      refine wtw_or1 (wt_chainI (g := fun i j => decide (i < j)) (g' := fun i j => decide (i < j)) op_lt op_lt (we_int (we_var 4 rfl ⟨_, _, rfl, rfl, fun hg => ⟨rfl, ?_⟩, fun hg => we_int ⟨_, rfl, rfl, ?_⟩⟩)))
      · exact (decide_eq_false fun z => of_decide_eq_false hg (z.elim (fun a => a.2) fun a => a.1)).symm
      · have h2 := of_decide_eq_true hg
        by_cases h7 : (kw : Int) < 7
        · rw [decide_eq_true h7]; exact (decide_eq_true (.inr ⟨h2, h7⟩)).symm
        · rw [decide_eq_false h7]; exact (decide_eq_false fun z => z.elim (fun a => nomatch a.1) fun a => h7 a.2).symm
  rintro k μ1 ⟨rfl, hk⟩
  cases k with
  | true =>
    rw [if_pos rfl]
    refine wss_cons (ws_par 6 7 (hw := by kernel_rfl) rfl sc54.nd (we_call hV hr (wa_cons (we_var 0 rfl (wa_two (we_var 2 rfl (we_var 3 rfl ⟨pn, kl, wl, p2, ks, ws, rfl, st3_pn, (ok.to s2 (k := 18)).less (by decide), st3_kl kp hne, st3_wl wp, hne, hw0, hl, fun v k1 w1 p3 g1 t3 => ?_⟩)))))))
    rw [st3_again]
    have s3 := s2.trans t3 (k := 4)
    refine we_call hV hr (wa_cons (we_var 0 rfl (wa_two (we_var 2 rfl (we_var 3 rfl ⟨pn, kl, wl, p3, k1, w1, rfl, st3_pn, (ok.to s3 (k := 16)).less (by decide), st3_kl kp hne, st3_wl wp, hne, (fun h => absurd g1.mem (by rw [h]; simp)), by rw [g1.len]; exact hl, fun u k2 w2 p4 g2 t4 => ?_⟩)))))
    rw [st3_again]
    have s4 := s3.trans t4 (k := 6)
    refine wss_cons (ws_asg (ks := [6, 7]) (we_ix (we_lst (wa_two (we_tup (wa_two (we_var 6 rfl (we_var 7 rfl ⟨by rw [sizeLine_eq]; show 2 ≤ 16777216; decide, we_tup (wa_two (we_var 7 rfl (we_var 6 rfl ⟨by rw [sizeLine_eq]; show 2 ≤ 16777216; decide, by rw [sizeLine_eq]; show 2 ≤ 16777216; decide, we_call hD hr (wa_two (we_var 0 rfl (we_int ⟨pn, p4, 2, rfl, st3_pn, (ok.to s4 (k := 14)).ok, by decide, by decide, fun kk p5 h5 t5 => ?_⟩)))⟩)))⟩))))))))
    rw [st3_pen]
    have s5 := s4.trans t5 (k := 7)
    obtain ⟨a, b, hab, hx⟩ := swap_at (v := v) (u := u) h5
    refine ⟨_, _, _, .lst, rfl, hab, wg_tup rfl ⟨_, rfl, rfl, wgs_cons (wg_name 6 sc54.nd (wgs_cons (wg_name 7 sc54.nd (wgs_nil ?_))))⟩⟩
    refine wss_one (ws_ret (we_tup (wa_cons (we_str (wa_cons (we_var 6 rfl (wa_two (we_call hP hr (wa_two (we_var 0 rfl (we_dget hu (we_var 1 rfl (we_str ⟨scK s, .inr "ties", _, .md (es' _ _ _), rfl, sc_ties s, pn, p5, _, _, rfl, st3_pn, ok.to s5, .lst, map_ne sok.t0, by rw [List.length_map]; have := sok.t1; omega, fun e he p6 t6 => ?_⟩)))))))))))))
    obtain ⟨x, _, rfl⟩ := pick_str he
    rw [st3_pen]
    refine we_var 7 rfl ⟨by rw [sizeLine_eq]; show 4 ≤ 16777216; decide, ?_⟩
    exact q (.tie a x b) k2 w2 p6 (two_post g1 g2 rfl True.intro fun y => by rw [← hx y]; simp [PRow.vs]) (s5.trans t6)
  | false =>
  rw [if_neg Bool.false_ne_true]
  have hk' := of_decide_eq_false hk.symm
  refine wss_nil (wss_cons (ws_ifP (fun k μ1 => μ1 = St3 μ kl wl pn ks ws p2 ∧ k = decide ((kw : Int) = 7)) (wt_eq (we_var 4 rfl (we_int ⟨_, scal_int, rfl, rfl⟩))) ?_))
  rintro k μ1 ⟨rfl, hk7⟩
  cases k with
  | true =>
    rw [if_pos rfl]
    refine wss_cons (ws_par 6 7 (hw := by kernel_rfl) rfl sc54.nd (we_call hV hr (wa_cons (we_var 0 rfl (wa_two (we_var 2 rfl (we_var 3 rfl ⟨pn, kl, wl, p2, ks, ws, rfl, st3_pn, (ok.to s2 (k := 18)).less (by decide), st3_kl kp hne, st3_wl wp, hne, hw0, hl, fun v k1 w1 p3 g1 t3 => ?_⟩)))))))
    rw [st3_again]
    have s3 := s2.trans t3 (k := 4)
    refine we_call hV hr (wa_cons (we_var 0 rfl (wa_two (we_var 2 rfl (we_var 3 rfl ⟨pn, kl, wl, p3, k1, w1, rfl, st3_pn, (ok.to s3 (k := 16)).less (by decide), st3_kl kp hne, st3_wl wp, hne, (fun h => absurd g1.mem (by rw [h]; simp)), by rw [g1.len]; exact hl, fun u k2 w2 p4 g2 t4 => ?_⟩)))))
    rw [st3_again]
    have s4 := s3.trans t4 (k := 6)
    refine wss_one (ws_ret (we_tup (wa_cons (we_str (wa_cons (we_var 7 rfl (wa_cons (we_call hP hr (wa_two (we_var 0 rfl (we_dget hu (we_var 1 rfl (we_str ⟨scK s, .inr "ties", _, .md (es' _ _ _), rfl, sc_ties s, pn, p4, _, _, rfl, st3_pn, ok.to s4, .lst, map_ne sok.t0, by rw [List.length_map]; have := sok.t1; omega, fun e he p6 t6 => ?_⟩)))))))))))))
    obtain ⟨x, _, rfl⟩ := pick_str he
    rw [st3_pen]
    have s6 := s4.trans t6 (k := 7)
    refine wa_two (we_var 6 rfl (we_add (we_int (we_call hD hr (wa_two (we_var 0 rfl (we_int ⟨pn, p6, 4, rfl, st3_pn, (ok.to s6 (k := 13)).ok, by decide, by decide, fun km p7 h7 t7 => ⟨_, _, rfl, rfl, by rw [sizeLine_eq]; show 5 ≤ 16777216; decide, ?_⟩⟩)))))))
    rw [st3_pen]
    exact q (.way u x v (1 + (km : Int))) k2 w2 p7 (two_post g1 g2 rfl ⟨by omega, by omega⟩ fun y => by simp [PRow.vs, or_comm]) (s6.trans t7)
  | false =>
  rw [if_neg Bool.false_ne_true]
  refine wss_nil (wss_cons (ws_ifP (fun k μ1 => μ1 = St3 μ kl wl pn ks ws p2 ∧ k = decide ((kw : Int) < 3)) (wt_lt (we_var 4 rfl (we_int ⟨_, _, rfl, rfl, rfl, rfl⟩))) ?_))
  rintro k μ1 ⟨rfl, hk3⟩
  cases k with
  | true =>
    rw [if_pos rfl]
    refine wss_cons (ws_set 6 sc54.nd (we_call hV hr (wa_cons (we_var 0 rfl (wa_two (we_var 2 rfl (we_var 3 rfl ⟨pn, kl, wl, p2, ks, ws, rfl, st3_pn, (ok.to s2 (k := 18)).less (by decide), st3_kl kp hne, st3_wl wp, hne, hw0, hl, fun v k1 w1 p3 g1 t3 => ?_⟩)))))))
    rw [st3_again]
    have s3 := s2.trans t3 (k := 4)
    refine wss_one (ws_ret (we_ix (we_lst (wa_two (we_tup (wa_two (we_str (we_var 6 rfl ⟨by rw [sizeLine_eq]; show 2 ≤ 16777216; decide, we_tup (wa_cons (we_str (wa_two (we_var 6 rfl (we_call hP hr (wa_two (we_var 0 rfl (we_dget hu (we_var 1 rfl (we_str ⟨scK s, .inr "kinds", _, .md (es' _ _ _), rfl, sc_kinds s, pn, p3, _, _, rfl, st3_pn, ok.to s3, .lst, map_ne sok.k0, by rw [List.length_map]; have := sok.k1; omega, fun e he p6 t6 => ?_⟩))))))))))⟩))))))))
    obtain ⟨x, _, rfl⟩ := pick_str he
    rw [st3_pen]
    have s6 := s3.trans t6 (k := 20)
    refine ⟨by rw [sizeLine_eq]; show 3 ≤ 16777216; decide, by rw [sizeLine_eq]; show 2 ≤ 16777216; decide, we_intB rfl fr.int (we_gtI (we_var 4 rfl (we_int ⟨_, _, rfl, rfl, _, rfl, ?_⟩)))⟩
    by_cases h0 : (0 : Int) < (kw : Int)
    · rw [decide_eq_true h0]
      exact ⟨_, 1, _, .lst, rfl, rfl, q (.knot v x) k1 w1 p6 (one_post g1 rfl True.intro rfl) s6⟩
    · rw [decide_eq_false h0]
      exact ⟨_, 0, _, .lst, rfl, rfl, q (.any v) k1 w1 p6 (one_post g1 rfl True.intro rfl) s6⟩
  | false =>
  rw [if_neg Bool.false_ne_true]
  have hge : ¬ (kw : Int) < 3 := of_decide_eq_false hk3.symm
  have hks : ks ≠ [] := fun h => hk' (.inl ⟨h, by omega⟩)
  have hkp : 0 < ks.length := List.length_pos_iff.mpr hks
  refine wss_nil (wss_cons (ws_ifP (fun k μ1 => μ1 = St3 μ kl wl pn ks ws p2) (wt_lt (we_var 4 rfl (we_int ⟨_, _, rfl, rfl, rfl⟩))) ?_))
  rintro k μ1 rfl
  cases k with
  | true =>
    rw [if_pos rfl]
    refine wss_one (ws_ret (we_tup (wa_cons (we_str (wa_cons (we_call hP hr (wa_two (we_var 0 rfl (we_var 2 rfl ⟨pn, p2, _, _, rfl, st3_pn, ok.to s2, .ml (st3_kl kp hne), map_ne hkp, by rw [List.length_map]; omega, fun e he p3 t3 => ?_⟩)))))))))
    obtain ⟨v, hv, rfl⟩ := pick_str he
    rw [st3_pen]
    have s3 := s2.trans t3 (k := 3)
    refine wa_cons (we_call hP hr (wa_two (we_var 0 rfl (we_dget hu (we_var 1 rfl (we_str ⟨scK s, .inr "names", _, .md (es' _ _ _), rfl, sc_names s, pn, p3, _, _, rfl, st3_pn, ok.to s3, .lst, map_ne sok.n0, by rw [List.length_map]; have := sok.n1; omega, fun e he p4 t4 => ?_⟩))))))
    obtain ⟨n, _, rfl⟩ := pick_str he
    rw [st3_pen]
    have s4 := s3.trans t4 (k := 4)
    refine wa_two (we_var 5 rfl (we_call hW hr (wa_one (we_var 0 rfl ⟨pn, p4, rfl, st3_pn, (ok.to s4 (k := 16)).less (by decide), fun o p5 wo t5 => ⟨by rw [sizeLine_eq]; show 5 ≤ 16777216; decide, ?_⟩⟩))))
    rw [st3_pen]
    exact q (.holds v n wd o) ks ws p5 (none_post hks wo fun x hx => by rw [List.mem_singleton.mp hx]; exact hv) (s4.trans t5)
  | false =>
  rw [if_neg Bool.false_ne_true]
  refine wss_nil (wss_one (ws_ret (we_tup (wa_cons (we_str (wa_two (we_call hP hr (wa_two (we_var 0 rfl (we_var 2 rfl ⟨pn, p2, _, _, rfl, st3_pn, ok.to s2, .ml (st3_kl kp hne), map_ne hkp, by rw [List.length_map]; omega, fun e he p3 t3 => ?_⟩))))))))))
  obtain ⟨v, hv, rfl⟩ := pick_str he
  rw [st3_pen]
  have s3 := s2.trans t3 (k := 3)
  refine we_call hP hr (wa_two (we_var 0 rfl (we_var 2 rfl ⟨pn, p3, _, _, rfl, st3_pn, ok.to s3, .ml (st3_kl kp hne), map_ne hkp, by rw [List.length_map]; omega, fun e he p4 t4 => ⟨by rw [sizeLine_eq]; show 3 ≤ 16777216; decide, ?_⟩⟩)))
  obtain ⟨u, hv2, rfl⟩ := pick_str he
  rw [st3_pen]
  refine q (.unlike v u) ks ws p4 (none_post hks True.intro fun x hx => ?_) (s3.trans t4)
  simp only [PRow.vs, List.mem_cons, List.not_mem_nil, or_false] at hx
  rcases hx with rfl | rfl
  · exact hv
  · exact hv2
end
end Ws
/-! LE: questions. -/
namespace Ws
open PySem PyProof.Rows PySem.Spec L2
theorem st3_under {μ : Mu} {a kl wl pn : Addr} {o o' : MO} {ks ws : List Str} {p : Pen} (h1 : a ≠ kl) (h2 : a ≠ wl) (h3 : a ≠ pn) : mset (St3 (mset μ a o) kl wl pn ks ws p) a o' = St3 (mset μ a o') kl wl pn ks ws p := by
  funext b
  unfold St3 mset
  by_cases e3 : b = a
  · subst e3; simp [h1, h2, h3]
  · by_cases e2 : b = pn
    · simp [e2, e3, Ne.symm h3]
    · by_cases e1 : b = wl
      · subst e1; simp [e2, e3]
      · by_cases e0 : b = kl
        · subst e0; simp [e1, e2, e3]
        · simp [e0, e1, e2, e3]
theorem st3_drop {μ : Mu} {kl wl pn : Addr} {ks ws : List Str} {p : Pen} (n : μ kl = none) (h1 : kl ≠ wl) (h2 : kl ≠ pn) : MSame (mset (mset μ wl (.ml (ws.map .str))) pn (penM p)) (St3 μ kl wl pn ks ws p) := fun a o e => by
  by_cases e0 : a = kl
  · subst e0; rw [mset_ne h2, mset_ne h1, n] at e; cases e
  · unfold St3
    by_cases e2 : a = pn
    · subst e2; rw [mset_same] at e ⊢; exact e
    · rw [mset_ne e2] at e ⊢
      by_cases e1 : a = wl
      · subst e1; rw [mset_same] at e ⊢; exact e
      · rw [mset_ne e1] at e ⊢
        rw [mset_ne e0]; exact e
/-- what is told of a question -/
structure QF (U : List Str) (shown : List Str) (rs : List Row) : Prop where
  fine : ∀ r ∈ rs, r.fine
  l1 : 1 ≤ rs.length
  l8 : rs.length ≤ 8
  vars : ∀ r ∈ rs, ∀ x ∈ r.vars, x ∈ U
  bound : AllBound rs
  sh : ∀ x ∈ shown, x ∈ varsIn (outer rs)
  s4 : shown.length ≤ 4
  /-- the rows among the first -/
structure RowsIn (U ks : List Str) (rs : List PRow) : Prop where
  ok : ∀ r ∈ rs, r.ok
  vs : ∀ r ∈ rs, ∀ x ∈ r.vs, x ∈ ks
  bd : ∀ x ∈ ks, ∃ r ∈ rs, (Row.p r).isB = true ∧ x ∈ r.vs
theorem RowsIn.nil (U : List Str) : RowsIn U [] [] := ⟨fun _ h => (nomatch h), fun _ h => (nomatch h), fun _ h => (nomatch h)⟩
theorem RowsIn.snoc {U ks ws ks' ws' : List Str} {rs : List PRow} {r : PRow} (h : RowsIn U ks rs) (p : RowPost ks ws ks' ws' r) : RowsIn U ks' (rs ++ [r]) where
  ok := fun x hx => by
    rcases List.mem_append.mp hx with hx | hx
    · exact h.ok x hx
    · rw [List.mem_singleton.mp hx]; exact p.ok
  vs := fun x hx y hy => by
    rcases List.mem_append.mp hx with hx | hx
    · exact p.up y (h.vs x hx y hy)
    · rw [List.mem_singleton.mp hx] at hy; exact p.vs y hy
  bd := fun x hx => by
    rcases p.new x hx with h1 | ⟨h1, h2⟩
    · obtain ⟨r0, h3, h4⟩ := h.bd x h1
      exact ⟨r0, List.mem_append_left _ h3, h4⟩
    · exact ⟨r, List.mem_append_right _ (List.mem_singleton.mpr rfl), h1, h2⟩
theorem RowsIn.ne {U ks : List Str} {rs : List PRow} (h : RowsIn U ks rs) (hr : rs ≠ []) : ks ≠ [] := by
  intro e
  cases rs with
  | nil => exact hr rfl
  | cons r rs =>
    have : ∃ x, x ∈ r.vs := by cases r <;> exact ⟨_, List.mem_cons_self⟩
    obtain ⟨x, hx⟩ := this
    have := h.vs r List.mem_cons_self x hx
    rw [e] at this; cases this
theorem rng_at {n i : Nat} {d : D} (h : (rngD n)[i]? = some d) : i < n ∧ d = .int (i : Nat) := by
  unfold rngD at h
  rw [List.getElem?_map] at h
  cases e : (List.range n)[i]? with
  | none => rw [e] at h; cases h
  | some j =>
    rw [e] at h; cases h
    obtain ⟨h1, h2⟩ := List.getElem?_eq_some_iff.mp e
    rw [List.length_range] at h1
    rw [List.getElem_range] at h2
    exact ⟨h1, by rw [← h2]⟩
theorem rng_len (n : Nat) : (rngD n).length = n := by unfold rngD; rw [List.length_map, List.length_range]
/-- a row of the sort no -/
structure NoIn (U : List Str) (prs : List PRow) : Prop where
  ok : ∀ r ∈ prs, r.ok
  len : prs.length ≤ 3
  vs : ∀ r ∈ prs, ∀ x ∈ r.vs, x ∈ U
theorem qf_of {U ks : List Str} {rs1 : List PRow} {nos : List (List PRow)} {shown : List Str} {rs : List Row} (rin : RowsIn U ks rs1) (hU : ∀ x ∈ ks, x ∈ U) (l1 : 1 ≤ rs1.length) (l5 : rs1.length ≤ 5) (hn : ∀ prs ∈ nos, NoIn U prs) (n2 : nos.length ≤ 2)
    (hp : rs.Perm (rs1.map Row.p ++ nos.map Row.no)) (hs : ∀ x ∈ shown, x ∈ ks) (s4 : shown.length ≤ 4) : QF U shown rs ∧ ∃ r ∈ rs, r.isP = true := by
  have hm : ∀ r, r ∈ rs ↔ (∃ pr ∈ rs1, r = .p pr) ∨ ∃ prs ∈ nos, r = .no prs := fun r => by
    rw [hp.mem_iff, List.mem_append, List.mem_map, List.mem_map]
    constructor
    · rintro (⟨a, h1, h2⟩ | ⟨a, h1, h2⟩)
      · exact .inl ⟨a, h1, h2.symm⟩
      · exact .inr ⟨a, h1, h2.symm⟩
    · rintro (⟨a, h1, h2⟩ | ⟨a, h1, h2⟩)
      · exact .inl ⟨a, h1, h2.symm⟩
      · exact .inr ⟨a, h1, h2.symm⟩
  have hl : rs.length = rs1.length + nos.length := by rw [hp.length_eq, List.length_append, List.length_map, List.length_map]
  have hbind : ∀ x ∈ ks, ∃ r ∈ rs, r.isB = true ∧ x ∈ r.vars := fun x hx => by
    obtain ⟨pr, h1, h2, h3⟩ := rin.bd x hx
    exact ⟨.p pr, (hm _).mpr (.inl ⟨pr, h1, rfl⟩), h2, (prVars_mem pr x).mpr h3⟩
  refine ⟨⟨fun r hr => ?_, by omega, by omega, fun r hr x hx => ?_, fun r hr hP x hx => ?_, fun x hx => ?_, s4⟩, ?_⟩
  · rcases (hm r).mp hr with ⟨pr, h1, rfl⟩ | ⟨prs, h1, rfl⟩
    · exact rin.ok pr h1
    · exact ⟨by have := (hn prs h1).len; omega, (hn prs h1).ok⟩
  · rcases (hm r).mp hr with ⟨pr, h1, rfl⟩ | ⟨prs, h1, rfl⟩
    · exact hU x (rin.vs pr h1 x ((prVars_mem pr x).mp hx))
    · obtain ⟨pr, h2, h3⟩ := no_vars_mem.mp hx
      exact (hn prs h1).vs pr h2 x h3
  · rcases (hm r).mp hr with ⟨pr, h1, rfl⟩ | ⟨prs, h1, rfl⟩
    · exact (boundIn_mem rs x).mpr (hbind x (rin.vs pr h1 x ((prVars_mem pr x).mp hx)))
    · cases hP
  · obtain ⟨r, h1, h2, h3⟩ := hbind x (hs x hx)
    exact (vin_mem _ x).mpr ⟨r, List.mem_filter.mpr ⟨h1, isB_isP h2⟩, h3⟩
  · cases rs1 with
    | nil => simp at l1
    | cons pr l => exact ⟨.p pr, (hm _).mpr (.inl ⟨pr, List.mem_cons_self, rfl⟩), rfl⟩
section
variable {P : Program} {w : World} {K : PySem.W.Frag} {mg : Str → Option Value} {base : Heap} {T : TabS} {f : Addr} {fd : FuncData}
theorem sc55 : FnScope ["_law_pen_here", "_law_scene_here", "_law_words", "_law_known", "_law_rows", "_law_k", "_law_outer", "_law_inner", "_law_j", "_law_mixed", "_law_row_here"] ["_law_pen_here", "_law_scene_here"] (defScope (top 55)) := ⟨rfl, rfl, rfl, by decide +kernel, rfl, by decide +kernel, by decide +kernel⟩
def S_question : DSp := fun ds μ Q => ∃ pn sn p s, ds = [.ref pn, .ref sn] ∧ μ pn = some (penM p) ∧ PenR p 300 ∧ μ sn = some (.md (scK s)) ∧ ScR s ∧ 0 < s.vars.length ∧ s.vars.length ≤ 100 ∧ ∀ shown rs p', QF s.vars shown rs → (∃ r ∈ rs, r.isP = true) → p.to 300 p' → Q (dQ shown rs) (mset μ pn (penM p'))
theorem d_question (fr : Free mg) (hD : DefAt P w K mg base T 1 "_law_draw" S_draw) (hP : DefAt P w K mg base T 2 "_law_pick" S_pick) (hR : DefAt P w K mg base T 4 "_law_row" S_row) (F : FnP K "_law_question" (top 55) f fd) (g : mg "_law_question" = some (.ref f)) : DefAt P w K mg base T 5 "_law_question" S_question := by
  refine defAt_of F g (ps := ["_law_pen_here", "_law_scene_here"]) (fun _ _ _ _ _ _ us hl => match us, hl with | [_, _], _ => rfl) (fn_okD F sc55 (fun ds μ Q ⟨_, _, _, _, h, _⟩ => by rw [h]; rfl) fun cdv A outer0 s0 H E ds μ Q hr ⟨pn, sn, p, s, e, em, ok, es, sok, hv0, hv1, q⟩ => ?_)
  subst e
  have hu := hr.u1
  have sp : sn ≠ pn := by rintro rfl; rw [em] at es; exact pen_ne_sc (Option.some.inj es)
  have hvz : (s.vars.map D.str).length ≤ sizeLine := by rw [List.length_map, sizeLine_eq]; omega
  refine wss_cons (ws_asg (ks := [2, 3, 4]) (we_tup (wa_cons (we_listM rfl fr.list (we_dget hu (we_var 1 rfl (we_str ⟨scK s, .inr "vars", _, .md es, rfl, sc_vars s, _, .lst, fun wl nw => wa_two (we_lstM (wa_nil ⟨Nat.zero_le _, fun kl nk => we_lstM (wa_nil ⟨Nat.zero_le _, fun rl nr => ⟨by rw [sizeLine_eq]; show 3 ≤ 16777216; decide, wg_tup rfl ⟨_, rfl, rfl, wgs_cons (wg_name 2 sc55.nd (wgs_cons (wg_name 3 sc55.nd (wgs_cons (wg_name 4 sc55.nd (wgs_nil ?_))))))⟩⟩⟩)⟩))⟩)))))))
  have kw : kl ≠ wl := by rintro rfl; rw [mset_same] at nk; cases nk
  rw [mset_ne kw] at nk
  have rk : rl ≠ kl := by rintro rfl; rw [mset_same] at nr; cases nr
  rw [mset_ne rk] at nr
  have rw' : rl ≠ wl := by rintro rfl; rw [mset_same] at nr; cases nr
  rw [mset_ne rw'] at nr
  have kp : kl ≠ pn := by rintro rfl; rw [em] at nk; cases nk
  have wp : wl ≠ pn := by rintro rfl; rw [em] at nw; cases nw
  have rp : rl ≠ pn := by rintro rfl; rw [em] at nr; cases nr
  have sk : sn ≠ kl := by rintro rfl; rw [es] at nk; cases nk
  have sw : sn ≠ wl := by rintro rfl; rw [es] at nw; cases nw
  have sr : sn ≠ rl := by rintro rfl; rw [es] at nr; cases nr
  have est : mset (mset (mset μ wl (.ml (s.vars.map .str))) kl (.ml [])) rl (.ml []) = St3 (mset μ rl (.ml [])) kl wl pn [] s.vars p := by
    funext a
    unfold St3 mset
    by_cases e3 : a = rl
    · subst e3; simp [rk, rw', rp]
    · by_cases e2 : a = pn
      · subst e2; simp [e3, Ne.symm kp, Ne.symm wp, em]
      · by_cases e1 : a = wl
        · subst e1; simp [e2, e3, Ne.symm kw]
        · by_cases e0 : a = kl
          · subst e0; simp [e1, e2, e3]
          · simp [e0, e1, e2, e3]
  rw [est]
  -- the first rows
  refine wss_mid (fun G' μ' => ∃ rs ks ws p' o5, G' = [some (.ref pn), some (.ref sn), some (.ref wl), some (.ref kl), some (.ref rl), o5, none, none, none, none, none] ∧ RowsIn s.vars ks rs ∧ 1 ≤ rs.length ∧ rs.length ≤ 5 ∧ (∀ x, x ∈ ks ∨ x ∈ ws → x ∈ s.vars) ∧ p.to 101 p' ∧ ks.length + ws.length ≤ 100 ∧ μ' = St3 (mset μ rl (.ml (rs.map dPR))) kl wl pn ks ws p') ?_ ?_
  · refine ws_for (ks := [5]) rfl (wi_range fr.range (we_add (we_int (we_call hD hr (wa_two (we_var 0 rfl (we_int ⟨pn, p, 5, rfl, st3_pn, ok.ok, by decide, by decide, fun k p1 h1 t1 => ⟨_, _, rfl, rfl, _, rfl, by omega, by omega, ?_⟩⟩)))))))
    rw [st3_pen, show ((1 : Int) + (k : Int)).toNat = k + 1 by omega]
    refine ⟨fun i G' μ' => ∃ rs ks ws p' o5, G' = [some (.ref pn), some (.ref sn), some (.ref wl), some (.ref kl), some (.ref rl), o5, none, none, none, none, none] ∧ RowsIn s.vars ks rs ∧ rs.length = i ∧ (∀ x, x ∈ ks ∨ x ∈ ws → x ∈ s.vars) ∧ p.to (1 + 20 * i) p' ∧ ks.length + ws.length = s.vars.length ∧ μ' = St3 (mset μ rl (.ml (rs.map dPR))) kl wl pn ks ws p',
      ⟨[], [], s.vars, p1, _, rfl, .nil _, rfl, fun x h => h.elim (fun h => nomatch h) id, t1, by simp, rfl⟩, ?_, ?_⟩
    · rintro i d G' μ' ed ⟨rs, ks, ws, p2, o5, rfl, rin, hi, hU, t2, hl, rfl⟩
      obtain ⟨hik, rfl⟩ := rng_at ed
      refine wg_name 5 sc55.nd (wss_one (ws_expr (we_append (we_var 4 rfl ⟨rl, rfl, ⟨_, by rw [st3_ne rk rw' rp]; exact mset_same⟩, we_call hR hr (wa_cons (we_var 0 rfl (wa_cons (we_var 1 rfl (wa_two (we_var 3 rfl (we_var 2 rfl ⟨pn, sn, kl, wl, p2, s, ks, ws, rfl, st3_pn, (ok.to t2 (k := 20)), by rw [st3_ne sk sw sp, mset_ne sr]; exact es, sok, st3_kl kp kw, st3_wl wp, kw, fun h => ?_, by omega, fun r ks' ws' p3 post t3 => ?_⟩)))))))⟩))))
      · intro h2; rw [h, h2] at hl; simp at hl; omega
      · rw [st3_again]
        refine ⟨rs.map dPR, by rw [st3_ne rk rw' rp]; exact mset_same, by rw [List.length_map, sizeLine_eq]; omega, rs ++ [r], ks', ws', p3, _, rfl, rin.snoc post, by rw [List.length_append, hi]; rfl, fun x hx => hU x (post.un x hx), (t2.trans t3), by rw [post.len]; exact hl, ?_⟩
        rw [st3_under rk rw' rp, List.map_append]; rfl
    · rintro G' μ' ⟨rs, ks, ws, p2, o5, rfl, rin, hi, hU, t2, hl, rfl⟩
      rw [rng_len] at hi t2
      exact ⟨rs, ks, ws, p2, o5, rfl, rin, by omega, by omega, hU, t2.le (by omega), by omega, rfl⟩
  rintro _ _ ⟨rs1, ks, ws, p1, o5, rfl, rin, l1, l5, hU, t1, hl, rfl⟩
  have ekl := st3_kl (μ := mset μ rl (.ml (rs1.map dPR))) (ks := ks) (ws := ws) (p := p1) kp kw
  refine wss_cons (ws_set 6 sc55.nd (we_list rfl fr.list (we_var 3 rfl ⟨_, .ml ekl, ?_⟩)))
  clear ekl
  have l8 : ks.length ≤ 100 := by omega
  have hksU : ∀ x ∈ ks, x ∈ s.vars := fun x h => hU x (.inl h)
  have hks0 : ks ≠ [] := rin.ne (by intro h; rw [h] at l1; simp at l1)
  have nk1 : (mset μ rl (.ml (rs1.map dPR))) kl = none := by rw [mset_ne (Ne.symm rk)]; exact nk
  refine WSs.weak ?_ (st3_drop nk1 kw kp)
  have zero4 : ∀ k : Nat, k < 4 → ∃ n : Nat, atI [D.int 0, .int 0, .int 1, .int 2] (k : Int) = some (.int (n : Nat)) ∧ n ≤ 2 := fun k h => by
    match k, h with
    | 0, _ => exact ⟨0, rfl, by decide⟩
    | 1, _ => exact ⟨0, rfl, by decide⟩
    | 2, _ => exact ⟨1, rfl, by decide⟩
    | 3, _ => exact ⟨2, rfl, by decide⟩
  have er1 : rs1.map dPR = (rs1.map Row.p ++ ([] : List (List PRow)).map Row.no).map dRow := by rw [List.map_nil, List.append_nil, List.map_map]; rfl
  -- the rows of the sort no
  refine wss_mid (fun G' μ' => ∃ nos : List (List PRow), ∃ ws' : List Str, ∃ p' o5 o7, G' = [some (.ref pn), some (.ref sn), some (.ref wl), some (.ref kl), some (.ref rl), o5, some (.lst (ks.map .str)), o7, none, none, none] ∧ (∀ prs ∈ nos, NoIn s.vars prs) ∧ nos.length ≤ 2 ∧ p.to 270 p' ∧ μ' = mset (mset (mset μ rl (.ml ((rs1.map Row.p ++ nos.map Row.no).map dRow))) wl (.ml (List.map D.str ws'))) pn (penM p')) ?_ ?_
  · refine ws_for (ks := [5]) rfl (wi_range fr.range (we_ix (we_lstK [.int 0, .int 0, .int 1, .int 2] (we_call hD hr (wa_two (we_var 0 rfl (we_int ⟨pn, p1, 4, rfl, mset_same, (ok.to t1 (k := 199)).ok, by decide, by decide, fun k p2 h1 t2 => ?_⟩)))))))
    obtain ⟨n, hn, hn2⟩ := zero4 k h1
    refine ⟨_, _, _, .lst, rfl, hn, _, rfl, by omega, by omega, ?_⟩
    rw [mset_mset, Int.toNat_natCast]
    have s2 := t1.trans t2 (k := 102)
    refine ⟨fun i G' μ' => ∃ nos : List (List PRow), ∃ ws' : List Str, ∃ p' o5 o7, G' = [some (.ref pn), some (.ref sn), some (.ref wl), some (.ref kl), some (.ref rl), o5, some (.lst (ks.map .str)), o7, none, none, none] ∧ (∀ prs ∈ nos, NoIn s.vars prs) ∧ nos.length = i ∧ (∀ x ∈ ws', x ∈ s.vars) ∧ ws'.length ≤ 100 - ks.length ∧ p.to (102 + 70 * i) p' ∧ μ' = mset (mset (mset μ rl (.ml ((rs1.map Row.p ++ nos.map Row.no).map dRow))) wl (.ml (List.map D.str ws'))) pn (penM p'),
      ⟨[], ws, p2, _, _, rfl, fun _ h => (nomatch h), rfl, fun x h => hU x (.inr h), by omega, s2, by rw [er1]⟩, ?_, ?_⟩
    · rintro i d G' μ' ed ⟨nos, ws', p3, o5, o7, rfl, hno, hi, hwU, hwl, t3, rfl⟩
      obtain ⟨hin, rfl⟩ := rng_at ed
      refine wg_name 5 sc55.nd (wss_cons (ws_set 7 sc55.nd (we_listM rfl fr.list (we_var 6 rfl ⟨_, .lst, fun il ni => ?_⟩))))
      have ip : il ≠ pn := by rintro rfl; rw [mset_same] at ni; cases ni
      rw [mset_ne ip] at ni
      have iw : il ≠ wl := by rintro rfl; rw [mset_same] at ni; cases ni
      rw [mset_ne iw] at ni
      have ir : il ≠ rl := by rintro rfl; rw [mset_same] at ni; cases ni
      have is : sn ≠ il := by rintro rfl; rw [mset_ne ir, es] at ni; cases ni
      rw [mset_comm (Ne.symm ip), mset_comm (μ := mset μ rl (.ml ((rs1.map Row.p ++ nos.map Row.no).map dRow))) (Ne.symm iw)]
      refine wss_one (ws_post (ws_expr (we_append (we_var 4 rfl ⟨rl, rfl, ⟨_, by rw [mset_ne rp, mset_ne rw', mset_ne (Ne.symm ir)]; exact mset_same⟩, we_tup (wa_two (we_str (we_tuple rfl fr.tuple (we_lc 8 sc55.nd rfl (blkOk_by (by kernel_rfl)) (wi_range fr.range (we_add (we_int (we_call hD hr (wa_two (we_var 0 rfl (we_int ⟨pn, p3, 3, rfl, mset_same, (ok.to t3 (k := 1)).ok, by decide, by decide, fun k3 p4 h4 t4 => ⟨_, _, rfl, rfl, _, rfl, by omega, by omega, ?_⟩⟩)))))))))))⟩))))
      rw [mset_mset, show ((1 : Int) + (k3 : Int)).toNat = k3 + 1 by omega]
      have s4 := t3.trans t4 (k := 103 + 70 * i)
      refine ⟨fun j acc μ' => ∃ prs : List PRow, ∃ is' ws2 : List Str, ∃ p', acc = prs.map dPR ∧ prs.length = j ∧ (∀ r ∈ prs, r.ok) ∧ (∀ r ∈ prs, ∀ x ∈ r.vs, x ∈ s.vars) ∧ is' ≠ [] ∧ (∀ x, x ∈ is' ∨ x ∈ ws2 → x ∈ s.vars) ∧ is'.length + ws2.length ≤ 100 ∧ ws2.length ≤ 100 - ks.length ∧ p.to (103 + 70 * i + 20 * j) p' ∧ μ' = St3 (mset μ rl (.ml ((rs1.map Row.p ++ nos.map Row.no).map dRow))) il wl pn is' ws2 p',
        ⟨[], ks, ws', p4, rfl, rfl, fun _ h => (nomatch h), fun _ h => (nomatch h), hks0, fun x h => h.elim (hksU x) (hwU x), by omega, hwl, s4, rfl⟩, ?_, ?_⟩
      · rintro j d acc μ' ed ⟨prs, is', ws2, p5, rfl, hj, h5, h6, h7, h8, h9, h10, t5, rfl⟩ hle sA HA CA clA fpA sB HB CB clB fpB
        have hjk := (rng_at ed).1
        refine we_call hR hr (wa_cons (we_var 0 rfl (wa_cons (we_var 1 rfl (wa_two (we_var 7 rfl (we_var 2 rfl ⟨pn, sn, il, wl, p5, s, is', ws2, rfl, st3_pn, ok.to t5 (k := 20), by rw [st3_ne is sw sp, mset_ne sr]; exact es, sok, st3_kl ip iw, st3_wl wp, iw, fun h => absurd h h7, h9, fun r ks' ws3 p6 post t6 => ?_⟩)))))))
        rw [st3_again]
        refine ⟨prs ++ [r], ks', ws3, p6, by rw [List.map_append]; rfl, by rw [List.length_append, hj]; rfl, fun x hx => ?_, fun x hx y hy => ?_, ?_, fun x hx => h8 x (post.un x hx), by rw [post.len]; exact h9, ?_, t5.trans t6, rfl⟩
        · rcases List.mem_append.mp hx with hx | hx
          · exact h5 x hx
          · rw [List.mem_singleton.mp hx]; exact post.ok
        · rcases List.mem_append.mp hx with hx | hx
          · exact h6 x hx y hy
          · rw [List.mem_singleton.mp hx] at hy
            exact h8 y (post.un y (.inl (post.vs y hy)))
        · intro h0
          obtain ⟨z, hz⟩ := List.exists_mem_of_ne_nil _ h7
          have := post.up z hz
          rw [h0] at this; cases this
        · have h11 := post.len
          have h12 := post.wl
          omega
      · rintro acc μ' ⟨prs, is', ws2, p5, rfl, hj, h5, h6, h7, h8, h9, h10, t5, rfl⟩ hle
        rw [rng_len] at hj t5
        refine ⟨_, .lst, by rw [sizeLine_eq]; show 2 ≤ 16777216; decide, _, by rw [st3_ne (Ne.symm ir) rw' rp]; exact mset_same, ?_, ?_⟩
        · rw [List.length_map, List.length_append, List.length_map, List.length_map, sizeLine_eq]; omega
        · rw [st3_under (Ne.symm ir) rw' rp]
          refine ⟨_, st3_drop (by rw [mset_ne ir]; rw [mset_ne ir] at ni; exact ni) iw ip, nos ++ [prs], ws2, p5, _, _, rfl, fun x hx => ?_, by rw [List.length_append, hi]; rfl, fun x hx => h8 x (.inr hx), h10, t5.le (by omega), ?_⟩
          · rcases List.mem_append.mp hx with hx | hx
            · exact hno x hx
            · rw [List.mem_singleton.mp hx]; exact ⟨h5, by omega, h6⟩
          · rw [List.map_append (l₁ := nos), ← List.append_assoc, List.map_append (l₁ := rs1.map Row.p ++ nos.map Row.no)]; rfl
    · rintro G' μ' ⟨nos, ws', p3, o5, o7, rfl, hno, hi, hwU, hwl, t3, rfl⟩
      rw [rng_len] at hi t3
      exact ⟨nos, ws', p3, o5, o7, rfl, hno, by omega, t3.le (by omega), rfl⟩
  rintro _ _ ⟨nos, ws', p2, o5', o7, rfl, hno, n2, t2, rfl⟩
  have hrows : (rs1.map Row.p ++ nos.map Row.no).length ≤ 7 := by rw [List.length_append, List.length_map, List.length_map]; omega
  have hmem : ∀ (rows : List Row), rows = rs1.map Row.p ++ nos.map Row.no → ∀ M : List Row, M.Perm rows → ∀ shown : List Str, (∀ x ∈ shown, x ∈ ks) → shown.length ≤ 4 → QF s.vars shown M ∧ ∃ r ∈ M, r.isP = true := fun rows e M hM shown h1 h2 => qf_of rin hksU l1 l5 hno n2 (e ▸ hM) h1 h2
  generalize hR0 : rs1.map Row.p ++ nos.map Row.no = rows at hrows
  have hq := hmem rows hR0.symm
  clear hmem
  refine WSs.weak (ν := mset (mset μ rl (.ml (rows.map dRow))) pn (penM p2)) ?_ fun a o e => ?_
  rotate_left
  · by_cases e2 : a = pn
    · subst e2; rw [mset_same] at e ⊢; exact e
    · rw [mset_ne e2] at e ⊢
      by_cases e1 : a = wl
      · subst e1; rw [mset_ne (Ne.symm rw'), nw] at e; cases e
      · rw [mset_ne e1]; exact e
  refine wss_fixL 4 (l := rl) (by rw [mset_ne rp]; exact mset_same) rfl ?_
  rw [mdel_under rp nr]
  refine wss_cons (ws_set 9 sc55.nd (we_lstM (wa_nil ⟨Nat.zero_le _, fun xl nx => ?_⟩)))
  have xp : xl ≠ pn := by rintro rfl; rw [mset_same] at nx; cases nx
  rw [mset_ne xp] at nx
  rw [mset_comm (Ne.symm xp)]
  refine wss_cons (ws_for (ks := [10]) rfl (wi_seq (we_var 4 rfl ⟨_, .lst, fun hz => ⟨fun i G' μ' => ∃ M : List Row, ∃ p' o10, G' = [some (.ref pn), some (.ref sn), some (.ref wl), some (.ref kl), some (.lst (rows.map dRow)), o5', some (.lst (ks.map .str)), o7, none, some (.ref xl), o10] ∧ M.Perm (rows.take i) ∧ p.to (270 + i) p' ∧ μ' = mset (mset μ xl (.ml (M.map dRow))) pn (penM p'),
    ⟨[], p2, _, rfl, List.Perm.refl _, t2, rfl⟩, ?_, ?_⟩⟩)))
  · rintro i d G' μ' ed ⟨M, p3, o10, rfl, hM, t3, rfl⟩
    rw [List.getElem?_map] at ed
    cases er : rows[i]? with
    | none => rw [er] at ed; cases ed
    | some r =>
      rw [er] at ed; cases ed
      have hi : i < rows.length := (List.getElem?_eq_some_iff.mp er).1
      have hMl : M.length ≤ 7 := by rw [hM.length_eq, List.length_take]; omega
      refine wg_name 10 sc55.nd (wss_one (ws_expr (we_insert (we_var 9 rfl ⟨xl, rfl, ⟨_, by rw [mset_ne xp]; exact mset_same⟩, we_call hD hr (wa_two (we_var 0 rfl (we_add (we_len rfl fr.len (we_var 9 rfl ⟨_, .ml (by rw [mset_ne xp]; exact mset_same), we_int ⟨_, _, rfl, rfl, pn, p3, M.length + 1, by rw [List.length_map]; rfl, mset_same, (ok.to t3 (k := 1)).ok, by omega, by omega, fun k p4 hk t4 => we_var 10 rfl ⟨_, k, by rw [mset_mset, mset_ne xp]; exact mset_same, rfl, by omega, by rw [List.length_map, sizeLine_eq]; omega, ?_⟩⟩⟩)))))⟩))))
      rw [mset_mset, mset_over xp]
      refine ⟨M.take k ++ [r] ++ M.drop k, p4, _, rfl, ?_, t3.trans t4, by rw [List.map_append, List.map_append, List.map_take, List.map_drop]; rfl⟩
      have h1 : (M.take k ++ [r] ++ M.drop k).Perm (M ++ [r]) := by
        rw [List.append_assoc]
        have h2 : (M.take k ++ ([r] ++ M.drop k)).Perm (M.take k ++ (M.drop k ++ [r])) := List.Perm.append_left _ List.perm_append_comm
        rw [← List.append_assoc (M.take k) (M.drop k) [r], List.take_append_drop] at h2
        exact h2
      rw [List.take_add_one, er]
      exact h1.trans (List.Perm.append_right [r] hM)
  rintro _ _ ⟨M, p3, o10, rfl, hM, t3, rfl⟩
  rw [List.length_map] at t3 hM
  rw [List.take_length] at hM
  have s3 := t3.le (k := 277) (by omega)
  refine wss_fixL 9 (l := xl) (by rw [mset_ne xp]; exact mset_same) rfl ?_
  rw [mdel_under xp nx]
  have hkl : 0 < ks.length := List.length_pos_iff.mpr hks0
  refine wss_one (ws_ret (we_tup (wa_two (we_tuple rfl fr.tuple (we_lc 5 sc55.nd rfl (blkOk_by (by kernel_rfl)) (wi_range fr.range (we_call hD hr (wa_two (we_var 0 rfl (we_int ⟨pn, p3, 5, rfl, mset_same, (ok.to s3 (k := 1)).ok, by decide, by decide, fun k p4 hk t4 => ⟨_, rfl, by omega, by omega, ?_⟩⟩))))))))))
  rw [mset_mset, Int.toNat_natCast]
  have s4 := s3.trans t4 (k := 278)
  refine ⟨fun j acc μ' => ∃ sh : List Str, ∃ p', acc = sh.map .str ∧ sh.length = j ∧ (∀ x ∈ sh, x ∈ ks) ∧ p.to (278 + j) p' ∧ μ' = mset μ pn (penM p'), ⟨[], p4, rfl, rfl, fun _ h => (nomatch h), s4, rfl⟩, ?_, ?_⟩
  · rintro j d acc μ' ed ⟨sh, p5, rfl, hj, hsh, t5, rfl⟩ hle sA HA CA clA fpA sB HB CB clB fpB
    have hjk := (rng_at ed).1
    refine we_call hP hr (wa_two (we_var 0 rfl (we_var 6 rfl ⟨pn, p5, _, _, rfl, mset_same, ok.to t5 (k := 1), .lst, map_ne hkl, by rw [List.length_map]; omega, fun e he p6 t6 => ?_⟩)))
    obtain ⟨x, hx, rfl⟩ := pick_str he
    rw [mset_mset]
    refine ⟨sh ++ [x], p6, by rw [List.map_append]; rfl, by rw [List.length_append, hj]; rfl, fun y hy => ?_, t5.trans t6, rfl⟩
    rcases List.mem_append.mp hy with hy | hy
    · exact hsh y hy
    · rw [List.mem_singleton.mp hy]; exact hx
  · rintro acc μ' ⟨sh, p5, rfl, hj, hsh, t5, rfl⟩ hle
    rw [rng_len] at hj t5
    obtain ⟨q1, q2⟩ := hq M hM sh hsh (by omega)
    exact ⟨_, .lst, we_tuple rfl fr.tuple (we_var 9 rfl ⟨_, .lst, by rw [sizeLine_eq]; show 2 ≤ 16777216; decide, q sh M p5 q1 q2 (t5.le (by omega))⟩)⟩
end
end Ws
/-! LF: rules for dicts of pairs, dicts against {}; the variables of a row, numbers. -/
namespace Ws
open PySem PyProof.Rows PySem.Spec L2
section
variable {X : Cx} {T : TabL} {G : GE} {μ : Mu} {pos p p2 : Pos} {a e : Expr} {Q : D → Mu → Prop}
/-! ### dict(pairs) -/
def pairD (kvs : List (Key × D)) : List D := kvs.map fun kv => .tup [kD kv.1, kv.2]
theorem pairs_at {K : PySem.W.Frag} {T : TabL} {F R H : Hp} {μ : Mu} (hs : Hs K T F μ R H) : ∀ {kvs : List (Key × D)} {vs : List V}, Reps K F (pairD kvs) vs → ∃ (ps : List Addr) (ls : List (Key × V)), vs = ps.map V.ref ∧ Paired (fun p kv => SqT K H p [kV kv.1, kv.2]) ps ls ∧ RepK K F kvs ls
  | [], _, r => by cases r; exact ⟨[], [], rfl, .nil, .nil⟩
  | (k, d) :: kvs, _, r => by
    cases r with
    | cons r t =>
      obtain ⟨ps, ls, e1, e2, e3⟩ := pairs_at hs (kvs := kvs) t
      cases r with
      | @tup a vs _ h rr =>
        cases rr with
        | cons r1 t1 =>
          cases t1 with
          | cons r2 t2 =>
            cases t2
            cases rep_key r1
            exact ⟨a :: ps, (k, _) :: ls, by rw [e1]; rfl, .cons (hs.tupF h) e2, .cons r2 e3⟩
theorem we_dictPM {x : Str} (hx : x = "dict") (hm : X.mg "dict" = none) (hc : X.calm = true) (h : WE X T G μ e fun d μ1 => ∃ kvs, SqLi μ1 d (pairD kvs) ∧ ∀ p, μ1 p = none → Q (.ref p) (mset μ1 p (.md (mergeD [] kvs)))) (hg : Gl X "dict" := by rfl)
    (he : starEach [e] X.env = (false, eval e X.env) :: starEach [] X.env := by rfl) : WE X T G μ (.Call (.Name x p) [e] [] pos) Q := by
  subst hx
  refine we_callTy (id := "dict") (call_dictP hc) hm (by decide +kernel) (wa_one (h.mono fun d μ1 ⟨kvs, sq, q⟩ F0 F R H vs s hs r => ?_) he) hg (by decide) (by decide) he (by rfl)
  cases r with
  | cons r t =>
    cases t
    obtain ⟨l, vs, rfl, hq, rr⟩ := sq.at hs r
    obtain ⟨ps, ls, rfl, hp, hk⟩ := pairs_at hs rr
    refine ⟨l, ps, ls, rfl, .of hq, hp, fun p n => ?_⟩
    exact ⟨F, .ref p, _, hs.newM n (.md (RepK.merge hk .nil)), s, .ref p, q p (hs.noM n)⟩
/-! ### d != {} -/
def rNe0 : R2 := fun x y H Q => ∃ a b ks, x = .ref a ∧ y = .ref b ∧ H a = some (.dK ks) ∧ H b = some (.dK []) ∧ Q (.bl (!ks.isEmpty)) H
theorem op_ne0 (hu : X.A.units < cLine) : OpR X (compareOp .NotEq) rNe0 := by
  intro pins s σ H x y v u Q I rx ry h
  obtain ⟨a, b, ks, rfl, rfl, ea, eb, q⟩ := h
  obtain rfl : v = Value.ref a := rx
  obtain rfl : u = Value.ref b := ry
  obtain ⟨_, ya, va, ra, da⟩ := (show ObjOk X.prog X.w H s.heap a (.dK ks) from I.hok a _ ea)
  obtain ⟨_, yb, vb, rb, db⟩ := (show ObjOk X.prog X.w H s.heap b (.dK []) from I.hok b _ eb)
  have hb0 : vb.length = 0 := rb.length.symm
  refine PySem.W.keq_ne (knd := mixKind X.prog X.w) (r := true) ya yb da db hu (fun hl => ?_) (fin_bl I q ?_)
  · have : va = [] := List.eq_nil_of_length_eq_zero (by omega)
    subst this
    exact .nil
  · rw [Bool.and_true, hb0, ← ra.length]
    cases ks <;> rfl
theorem we_neD0 (hu : X.A.units < cLine) (h : WE X T G μ a fun d1 μ1 => ∃ l kvs, d1 = .ref l ∧ μ1 l = some (.md kvs) ∧ Q (.bl (!kvs.isEmpty)) μ1) : WE X T G μ (.Compare a [.NotEq] [.Dict [] [] p2] pos) Q :=
  we_cmp (op_ne0 hu) (nomark _) (h.mono fun d1 μ1 ⟨l, kvs, e1, em, q⟩ => we_dict0M fun p np F0 F R H x y s hs r1 r2 => by
    subst e1
    cases r1; cases r2
    have hl : l ≠ p := by rintro rfl; rw [em] at np; cases np
    obtain ⟨vs, h1, rr⟩ := hs.md (show mset μ1 p (.md []) l = some (.md kvs) by rw [mset_ne hl]; exact em)
    obtain ⟨vs2, h2, rr2⟩ := hs.md (show mset μ1 p (.md []) p = some (.md []) from mset_same)
    cases rr2
    have e : vs.isEmpty = kvs.isEmpty := by cases rr <;> rfl
    exact ⟨l, p, vs, rfl, rfl, h1, h2, F, .bl _, μ1, hs.less (MSame.new (MSame.refl _) np), s, .bl _, by rw [e]; exact q⟩)
end
/-! ### _law_in_row -/
def vsR : Row → List Str
  | .p r => r.vs
  | .no rs => rs.flatMap PRow.vs
theorem kd_kn1 {v k : Str} : decide ((PRow.knot v k).kd = "unlike") = false := by show decide (("knot" : Str) = "unlike") = false; decide
theorem kd_an1 {v : Str} : decide ((PRow.any v).kd = "unlike") = false := by show decide (("any" : Str) = "unlike") = false; decide
theorem kd_ho1 {v n w : Str} {o : D} : decide ((PRow.holds v n w o).kd = "unlike") = false := by show decide (("holds" : Str) = "unlike") = false; decide
section
variable {P : Program} {w : World} {K : PySem.W.Frag} {mg : Str → Option Value} {base : Heap} {T : TabS} {f : Addr} {fd : FuncData}
theorem sc56 : FnScope ["_law_row_here", "_law_found", "_law_one"] ["_law_row_here"] (defScope (top 56)) := ⟨rfl, rfl, rfl, by decide +kernel, rfl, by decide +kernel, by decide +kernel⟩
def S_inP : DSp := fun ds μ Q => ∃ r : PRow, ds = [dPR r] ∧ Q (.lst (r.vs.map .str)) μ
def S_inR : DSp := fun ds μ Q => ∃ r : Row, ds = [dRow r] ∧ r.fine ∧ Q (.lst ((vsR r).map .str)) μ
theorem z2 : ∀ {x y : D}, [x, y].length ≤ sizeLine := fun {x y} => by rw [sizeLine_eq]; show 2 ≤ 16777216; decide
theorem z1 : ∀ {x : D}, [x].length ≤ sizeLine := fun {x} => by rw [sizeLine_eq]; show 1 ≤ 16777216; decide
theorem in_walk {cdv : Value} {A : Around} {outer0 : List Env} {s0 : Shared} {H : Hp} {E : XK} {μ : Mu} {Q : D → Mu → Prop} (r : PRow) (q : Q (.lst (r.vs.map .str)) μ) :
    WSs (cxOf CX0 P w K mg base ["_law_row_here", "_law_found", "_law_one"] "_law_in_row" (defScope (top 56)) f cdv A outer0 s0 H E).nox (tab0 T) (startG ["_law_row_here", "_law_found", "_law_one"] [dPR r]) μ (defBody (top 56)) { nx := fun _ μ' => Q .non μ', rt := Q } := by
  refine wss_cons (ws_ifF (wt_eq (we_ix (we_var 0 rfl (we_int ⟨_, _, _, .tup, rfl, atI_zero, we_str ⟨_, scal_str, ?_, wss_nil ?_⟩⟩)))))
  · exact kd_no (.p r)
  refine wss_cons (ws_ifP (fun k μ1 => μ1 = μ ∧ k = isTW (.p r)) (wt_in rfl (we_ix (we_var 0 rfl (we_int ⟨_, _, _, .tup, rfl, atI_zero, we_tupK [.str "tie", .str "way"] ⟨_, _, .tup, kd_tw (.p r), rfl, rfl⟩⟩)))) ?_)
  rintro k μ1 ⟨rfl, hk⟩
  subst hk
  have un : ∀ r : PRow, isTW (.p r) = false → Q (.lst (r.vs.map .str)) μ1 → WSs (cxOf CX0 P w K mg base ["_law_row_here", "_law_found", "_law_one"] "_law_in_row" (defScope (top 56)) f cdv A outer0 s0 H E).nox (tab0 T) [some (dPR r), none, none] μ1 ((defBody (top 56)).drop 2) { nx := fun _ μ' => Q .non μ', rt := Q } := fun r hr q => by
    cases r with
    | tie v k u => cases hr
    | way v k u m => cases hr
    | knot v k => exact wss_one (ws_ret (we_ifF (wt_eq (we_ix (we_var 0 rfl (we_int ⟨_, _, _, .tup, rfl, atI_zero, we_str ⟨_, scal_str, kd_kn1, we_lst (wa_one (we_ix (we_var 0 rfl (we_int ⟨_, 1, _, .tup, rfl, rfl, z1, q⟩))))⟩⟩))))))
    | any v => exact wss_one (ws_ret (we_ifF (wt_eq (we_ix (we_var 0 rfl (we_int ⟨_, _, _, .tup, rfl, atI_zero, we_str ⟨_, scal_str, kd_an1, we_lst (wa_one (we_ix (we_var 0 rfl (we_int ⟨_, 1, _, .tup, rfl, rfl, z1, q⟩))))⟩⟩))))))
    | holds v n w' o => exact wss_one (ws_ret (we_ifF (wt_eq (we_ix (we_var 0 rfl (we_int ⟨_, _, _, .tup, rfl, atI_zero, we_str ⟨_, scal_str, kd_ho1, we_lst (wa_one (we_ix (we_var 0 rfl (we_int ⟨_, 1, _, .tup, rfl, rfl, z1, q⟩))))⟩⟩))))))
    | unlike v u => exact wss_one (ws_ret (we_ifT (wt_eq (we_ix (we_var 0 rfl (we_int ⟨_, _, _, .tup, rfl, atI_zero, we_str ⟨_, scal_str, decide_eq_true rfl, we_lst (wa_two (we_ix (we_var 0 rfl (we_int ⟨_, 1, _, .tup, rfl, rfl, we_ix (we_var 0 rfl (we_int ⟨_, 2, _, .tup, rfl, rfl, z2, q⟩))⟩))))⟩⟩))))))
  cases r with
  | tie v k u => exact wss_one (ws_ret (we_lst (wa_two (we_ix (we_var 0 rfl (we_int ⟨_, 1, _, .tup, rfl, rfl, we_ix (we_var 0 rfl (we_int ⟨_, 3, _, .tup, rfl, rfl, z2, q⟩))⟩))))))
  | way v k u m => exact wss_one (ws_ret (we_lst (wa_two (we_ix (we_var 0 rfl (we_int ⟨_, 1, _, .tup, rfl, rfl, we_ix (we_var 0 rfl (we_int ⟨_, 3, _, .tup, rfl, rfl, z2, q⟩))⟩))))))
  | knot v k => exact wss_nil (un (.knot v k) rfl q)
  | any v => exact wss_nil (un (.any v) rfl q)
  | holds v n w' o => exact wss_nil (un (.holds v n w' o) rfl q)
  | unlike v u => exact wss_nil (un (.unlike v u) rfl q)
theorem d_inP (F : FnP K "_law_in_row" (top 56) f fd) (g : mg "_law_in_row" = some (.ref f)) : DefAt P w K mg base T 1 "_law_in_row" S_inP := by
  refine defAt_of F g (ps := ["_law_row_here"]) (fun _ _ _ _ _ _ us hl => match us, hl with | [_], _ => rfl) (fn_okD F sc56 (fun ds μ Q ⟨_, h, _⟩ => by rw [h]; rfl) fun cdv A outer0 s0 H E ds μ Q hr ⟨r, e, q⟩ => ?_)
  subst e
  exact in_walk r q
theorem d_inR (hP : DefAt P w K mg base T 1 "_law_in_row" S_inP) (F : FnP K "_law_in_row" (top 56) f fd) (g : mg "_law_in_row" = some (.ref f)) : DefAt P w K mg base T 2 "_law_in_row" S_inR := by
  refine defAt_of F g (ps := ["_law_row_here"]) (fun _ _ _ _ _ _ us hl => match us, hl with | [_], _ => rfl) (fn_okD F sc56 (fun ds μ Q ⟨_, h, _⟩ => by rw [h]; rfl) fun cdv A outer0 s0 H E ds μ Q hr ⟨r, e, fine, q⟩ => ?_)
  subst e
  cases r with
  | p r => exact in_walk r q
  | no rs =>
    have hlen : ∀ j, ((rs.take j).flatMap PRow.vs).length ≤ 20 := fun j => by
      have h1 : ((rs.take j).flatMap PRow.vs).length ≤ (rs.take j).length * 2 := flat_len _ fun r _ => by cases r <;> simp [PRow.vs]
      have h2 : (rs.take j).length ≤ 10 := by rw [List.length_take]; have : rs.length ≤ 10 := fine.1; omega
      omega
    refine wss_cons (ws_ifT (wt_eq (we_ix (we_var 0 rfl (we_int ⟨_, _, _, .tup, rfl, atI_zero, we_str ⟨_, scal_str, decide_eq_true rfl, ?_⟩⟩)))))
    refine wss_cons (ws_set 1 sc56.nd (we_lst (wa_nil ⟨Nat.zero_le _, wss_cons (ws_for (ks := [2]) rfl (wi_seq (we_ix (we_var 0 rfl (we_int ⟨_, 1, _, .tup, rfl, rfl, _, .tup, fun hz => ⟨fun j G' μ' => (∃ o2, G' = [some (dRow (.no rs)), some (.lst (((rs.take j).flatMap PRow.vs).map .str)), o2]) ∧ μ' = μ, ⟨⟨_, rfl⟩, rfl⟩, ?_, ?_⟩⟩)))))⟩)))
    · rintro j d G' μ' ed ⟨⟨o2, rfl⟩, rfl⟩
      rw [List.getElem?_map] at ed
      cases ex : rs[j]? with
      | none => rw [ex] at ed; cases ed
      | some r =>
        rw [ex] at ed; cases ed
        have e1 : (rs.take (j + 1)).flatMap PRow.vs = (rs.take j).flatMap PRow.vs ++ r.vs := by rw [List.take_add_one, ex, List.flatMap_append]; simp
        have h1 := hlen (j + 1)
        rw [e1, List.length_append] at h1
        refine wg_name 2 sc56.nd (wss_one (ws_set 1 sc56.nd (we_catL (we_var 1 rfl (we_call hP hr (wa_one (we_var 2 rfl ⟨r, rfl, _, _, .lst, .lst, by rw [List.length_map, List.length_map, sizeLine_eq]; omega, ⟨_, by rw [e1, List.map_append]; rfl⟩, rfl⟩)))))))
    · rintro _ _ ⟨⟨o2, rfl⟩, rfl⟩
      rw [List.length_map, List.take_length]
      exact wss_one (ws_ret (we_var 1 rfl q))
/-! ### _law_number -/
theorem sc57 : FnScope ["_law_pen_here", "_law_ever", "_law_number_here"] ["_law_pen_here", "_law_ever"] (defScope (top 57)) := ⟨rfl, rfl, rfl, by decide +kernel, rfl, by decide +kernel, by decide +kernel⟩
def S_number : DSp := fun ds μ Q => ∃ pn el p kvs, ∃ ks : List Int, ds = [.ref pn, .ref el] ∧ μ pn = some (penM p) ∧ PenR p 10 ∧ μ el = some (.md kvs) ∧ kvs.map (·.1) = ks.map Sum.inl ∧ ks.length ≤ 20 ∧ ∀ (n : Int) p', n ∉ ks → p.to 10 p' → Q (.int n) (mset μ pn (penM p'))
theorem val_keys {kvs : List (Key × D)} {ks : List Int} (h : kvs.map (·.1) = ks.map Sum.inl) (n : Int) : (valD kvs (.inl n)).isSome = decide (n ∈ ks) := by
  induction kvs generalizing ks with
  | nil => cases ks with
    | nil => rfl
    | cons k ks => cases h
  | cons kv kvs ih =>
    cases ks with
    | nil => cases h
    | cons k ks =>
      rw [List.map_cons, List.map_cons] at h
      have h1 := List.cons.inj h
      have ih' := ih h1.2
      unfold valD at ih' ⊢
      rw [List.find?_cons, h1.1]
      by_cases e : k = n
      · subst e; simp
      · have e1 : decide ((Sum.inl k : Key) = .inl n) = false := decide_eq_false fun z => e (Sum.inl.inj z)
        rw [e1]
        show ((kvs.find? fun kv => decide (kv.1 = .inl n)).map (·.2)).isSome = _
        rw [ih']
        have e2 : n ≠ k := fun z => e z.symm
        simp [e2]
def orb (x : Int) (j : Nat) : Int := (x + 7 * (j : Int)) % 1000
theorem orb_inj {x : Int} {i j : Nat} (hi : i ≤ 30) (hj : j ≤ 30) (h : orb x i = orb x j) : i = j := by
  unfold orb at h; omega
theorem orb_few {x : Int} {j : Nat} {ks : List Int} (hj : j ≤ 30) (h : ∀ i, i < j → orb x i ∈ ks) : j ≤ ks.length := by
  have h1 : ((List.range j).map (orb x)).Nodup := List.pairwise_map.mpr (List.Pairwise.imp_of_mem (fun {a b} ha hb hne e => hne (orb_inj (by have := List.mem_range.mp ha; omega) (by have := List.mem_range.mp hb; omega) e)) List.nodup_range)
  have h2 := nodup_sub_lenA _ ks h1 fun y hy => by
    obtain ⟨i, hi, rfl⟩ := List.mem_map.mp hy
    exact h i (List.mem_range.mp hi)
  rw [List.length_map, List.length_range] at h2
  exact h2
theorem zero5 {k : Nat} (h : k < 5) : ∃ j : Nat, atI [D.int 0, .int 0, .int 0, .int 1, .int 2] (k : Int) = some (.int (j : Nat)) ∧ j < 3 := by
  match k, h with
  | 0, _ => exact ⟨0, rfl, by decide⟩
  | 1, _ => exact ⟨0, rfl, by decide⟩
  | 2, _ => exact ⟨0, rfl, by decide⟩
  | 3, _ => exact ⟨1, rfl, by decide⟩
  | 4, _ => exact ⟨2, rfl, by decide⟩
theorem d_number (fr : Free mg) (hD : DefAt P w K mg base T 1 "_law_draw" S_draw) (F : FnP K "_law_number" (top 57) f fd) (g : mg "_law_number" = some (.ref f)) : DefAt P w K mg base T 2 "_law_number" S_number := by
  refine defAt_of F g (ps := ["_law_pen_here", "_law_ever"]) (fun _ _ _ _ _ _ us hl => match us, hl with | [_, _], _ => rfl) (fn_okD F sc57 (fun ds μ Q ⟨_, _, _, _, _, h, _⟩ => by rw [h]; rfl) fun cdv A outer0 s0 H E ds μ Q hr ⟨pn, el, p, kvs, ks, e, em, ok, ee, hk, hl, q⟩ => ?_)
  subst e
  have hu := hr.u1
  have ep : el ≠ pn := by
    rintro rfl
    rw [em] at ee
    have h1 : kvP p = kvs := MO.md.inj (Option.some.inj ee)
    rw [← h1] at hk
    cases ks with
    | nil => cases hk
    | cons k ks => cases (List.cons.inj hk).1
  refine wss_cons (ws_set 2 sc57.nd (we_ix (we_lst (wa_cons (we_call hD hr (wa_two (we_var 0 rfl (we_int ⟨pn, p, 24, rfl, em, ok.ok, by decide, by decide, fun k1 p1 h1 t1 => ?_⟩))))))))
  refine wa_cons (we_add (we_int (we_call hD hr (wa_two (we_var 0 rfl (we_int ⟨pn, p1, 8, rfl, mset_same, (ok.to t1 (k := 9)).ok, by decide, by decide, fun k2 p2 h2 t2 => ⟨_, _, rfl, rfl, ?_⟩⟩))))))
  rw [mset_mset]
  have s2 := t1.trans t2 (k := 2)
  refine wa_one (we_add (we_int (we_call hD hr (wa_two (we_var 0 rfl (we_int ⟨pn, p2, 8, rfl, mset_same, (ok.to s2 (k := 8)).ok, by decide, by decide, fun k3 p3 h3 t3 => ⟨_, _, rfl, rfl, ?_⟩⟩))))))
  rw [mset_mset]
  have s3 := s2.trans t3 (k := 3)
  refine ⟨by rw [sizeLine_eq]; show 3 ≤ 16777216; decide, we_ix (we_lstK [.int 0, .int 0, .int 0, .int 1, .int 2] (we_call hD hr (wa_two (we_var 0 rfl (we_int ⟨pn, p3, 5, rfl, mset_same, (ok.to s3 (k := 7)).ok, by decide, by decide, fun k4 p4 h4 t4 => ?_⟩)))))⟩
  rw [mset_mset]
  have s4 := s3.trans t4 (k := 10)
  obtain ⟨j, hj, hj3⟩ := zero5 h4
  have three : ∃ n : Int, atI [D.int (k1 : Nat), .int (96 + (k2 : Int)), .int (992 + (k3 : Int))] (j : Int) = some (.int n) ∧ 0 ≤ n ∧ n < 1000 := by
    match j, hj3 with
    | 0, _ => exact ⟨_, rfl, by omega, by omega⟩
    | 1, _ => exact ⟨_, rfl, by omega, by omega⟩
    | 2, _ => exact ⟨_, rfl, by omega, by omega⟩
  obtain ⟨x, hx, x0, x1⟩ := three
  refine ⟨_, _, _, .lst, rfl, hj, _, _, _, .lst, rfl, hx, ?_⟩
  have ee' : (mset μ pn (penM p4)) el = some (.md kvs) := by rw [mset_ne ep]; exact ee
  refine wss_cons (ws_while (fun n G' μ' => ∃ j : Nat, n + j = ks.length + 1 ∧ G' = [some (.ref pn), some (.ref el), some (.int (orb x j))] ∧ μ' = mset μ pn (penM p4) ∧ ∀ i, i < j → orb x i ∈ ks) (ks.length + 1) ⟨0, rfl, by unfold orb; rw [show (x + 7 * ((0 : Nat) : Int)) % 1000 = x by omega]; rfl, rfl, fun i h => absurd h (Nat.not_lt_zero _)⟩ ?_)
  rintro n _ _ ⟨j, hn, rfl, rfl, hin⟩
  refine wt_din hu (we_var 2 rfl (we_var 1 rfl ⟨kvs, .inl (orb x j), .md ee', rfl, ?_⟩))
  rw [val_keys hk]
  by_cases hm : orb x j ∈ ks
  · rw [decide_eq_true hm, if_pos rfl]
    have hin' : ∀ i, i < j + 1 → orb x i ∈ ks := fun i hi => by
      rcases Nat.lt_succ_iff_lt_or_eq.mp hi with h | h
      · exact hin i h
      · rw [h]; exact hm
    have hle := orb_few (by omega) hin'
    refine wss_one (ws_set 2 sc57.nd (we_mod (we_add (we_var 2 rfl (we_int ⟨_, _, rfl, rfl, we_int ⟨_, _, rfl, rfl, by decide, n - 1, by omega, j + 1, by omega, ?_, rfl, hin'⟩⟩)))))
    have : (orb x j + 7) % 1000 = orb x (j + 1) := by unfold orb; omega
    rw [this]; rfl
  · rw [decide_eq_false hm, if_neg Bool.false_ne_true]
    exact wss_one (ws_ret (we_var 2 rfl (q _ p4 hm s4)))
end
end Ws
/-! LG: webs as plain data. -/
namespace Ws
open PySem PyProof.Rows PySem.Spec L2
/-- two dicts and the pen -/
def N3 (μ : Mu) (kd td pn : Addr) (k t : List (Key × D)) (p : Pen) : Mu := mset (mset (mset μ kd (.md k)) td (.md t)) pn (penM p)
section
variable {μ : Mu} {kd td pn : Addr} {k t k' t' : List (Key × D)} {p p' : Pen}
theorem n3_pn : N3 μ kd td pn k t p pn = some (penM p) := mset_same
theorem n3_td (h : td ≠ pn) : N3 μ kd td pn k t p td = some (.md t) := by unfold N3; rw [mset_ne h, mset_same]
theorem n3_kd (h : kd ≠ pn) (h2 : kd ≠ td) : N3 μ kd td pn k t p kd = some (.md k) := by unfold N3; rw [mset_ne h, mset_ne h2, mset_same]
theorem n3_ne {a : Addr} (h1 : a ≠ kd) (h2 : a ≠ td) (h3 : a ≠ pn) : N3 μ kd td pn k t p a = μ a := by unfold N3; rw [mset_ne h3, mset_ne h2, mset_ne h1]
theorem n3_pen : mset (N3 μ kd td pn k t p) pn (penM p') = N3 μ kd td pn k t p' := mset_mset
theorem n3_putT (h : td ≠ pn) : mset (N3 μ kd td pn k t p) td (.md t') = N3 μ kd td pn k t' p := mset_over h
theorem n3_putK (h : kd ≠ pn) (h2 : kd ≠ td) : mset (N3 μ kd td pn k t p) kd (.md k') = N3 μ kd td pn k' t p := by
  funext a
  unfold N3 mset
  by_cases e1 : a = kd
  · subst e1; simp [h, h2]
  · simp [e1]
end
/-- dicts by texts, of worths -/
def StrK (kvs : List (Key × D)) : Prop := ∃ ws : List (Str × D), kvs = ws.map (fun p => (.inr p.1, p.2)) ∧ ∀ q ∈ ws, IsWo q.2
theorem StrK.put {kvs : List (Key × D)} (h : StrK kvs) {x : Str} {d : D} (hd : IsWo d) : StrK (putD kvs (.inr x) d) := by
  obtain ⟨ws, rfl, hw⟩ := h
  unfold putD
  split
  · refine ⟨ws.map fun p => if p.1 = x then (p.1, d) else p, ?_, fun q hq => ?_⟩
    · rw [List.map_map, List.map_map]
      refine List.map_congr_left fun p _ => ?_
      by_cases e : p.1 = x
      · simp [e]
      · have e' : ¬ (Sum.inr p.1 : Key) = .inr x := fun z => e (Sum.inr.inj z)
        show (if (Sum.inr p.1 : Key) = .inr x then ((Sum.inr p.1 : Key), d) else (.inr p.1, p.2)) = _
        rw [if_neg e']; simp [e]
    · obtain ⟨p, hp, rfl⟩ := List.mem_map.mp hq
      by_cases e : p.1 = x
      · simp only [e, if_true]; exact hd
      · simp only [e, if_false]; exact hw p hp
  · refine ⟨ws ++ [(x, d)], by rw [List.map_append]; rfl, fun q hq => ?_⟩
    rcases List.mem_append.mp hq with hq | hq
    · exact hw q hq
    · rw [List.mem_singleton.mp hq]; exact hd
theorem StrK.merge : ∀ {prs : List (Str × D)} {kvs : List (Key × D)}, StrK kvs → (∀ q ∈ prs, IsWo q.2) → StrK (mergeD kvs (prs.map fun p => (.inr p.1, p.2)))
  | [], _, h, _ => h
  | p :: prs, kvs, h, hw => by
    show StrK (mergeD (putD kvs (.inr p.1) p.2) (prs.map fun p => (.inr p.1, p.2)))
    exact StrK.merge (h.put (hw p List.mem_cons_self)) fun q hq => hw q (List.mem_cons_of_mem _ hq)
def kvK (kn : List (Int × Str × List (Str × D))) : List (Key × D) := kn.map fun p => (.inl p.1, ptD p.2)
def kvT (ts : List (Int × Str × Int × Int × Int)) : List (Key × D) := ts.map fun t => (.inl t.1, tieD t.2)
def webD (W : Wb) : D := .dic [(.inr "knots", .dic (kvK W.knots)), (.inr "ties", .dic (kvT W.ties))]
theorem kvK_keys (kn : List (Int × Str × List (Str × D))) : (kvK kn).map (·.1) = (kn.map (·.1)).map Sum.inl := by unfold kvK; rw [List.map_map, List.map_map]; rfl
theorem kvT_keys (ts : List (Int × Str × Int × Int × Int)) : (kvT ts).map (·.1) = (ts.map (·.1)).map Sum.inl := by unfold kvT; rw [List.map_map, List.map_map]; rfl
theorem putD_newI {kvs : List (Key × D)} {ks : List Int} (h : kvs.map (·.1) = ks.map Sum.inl) {n : Int} (hn : n ∉ ks) (d : D) : putD kvs (.inl n) d = kvs ++ [(.inl n, d)] := putD_new fun z => by
  rw [h] at z
  obtain ⟨m, hm, e⟩ := List.mem_map.mp z
  exact hn (Sum.inl.inj e ▸ hm)
section
variable {P : Program} {w : World} {K : PySem.W.Frag} {mg : Str → Option Value} {base : Heap} {T : TabS} {f : Addr} {fd : FuncData}
theorem sc58 : FnScope ["_law_pen_here", "_law_scene_here", "_law_many", "_law_more", "_law_knots", "_law_ties", "_law_k", "_law_some", "_law_name", "_law_ends", "_law_j"] ["_law_pen_here", "_law_scene_here", "_law_many", "_law_more"] (defScope (top 58)) := ⟨rfl, rfl, rfl, by decide +kernel, rfl, by decide +kernel, by decide +kernel⟩
def S_web : DSp := fun ds μ Q => ∃ pn sn p s, ds = [.ref pn, .ref sn, .int 4, .int 10] ∧ μ pn = some (penM p) ∧ PenR p 1000 ∧ μ sn = some (.md (scK s)) ∧ ScR s ∧ ∀ W0 p', WIn W0 → p.to 1000 p' → Q (webD W0) (mset μ pn (penM p'))
/-- one of these, as a number to draw from -/
theorem num3 {a b c : Nat} {e : D} (h : e ∈ [D.int a, .int b, .int c]) : ∃ m : Nat, e = .int m ∧ (m = a ∨ m = b ∨ m = c) := by
  simp only [List.mem_cons, List.not_mem_nil, or_false] at h
  rcases h with rfl | rfl | rfl
  · exact ⟨a, rfl, .inl rfl⟩
  · exact ⟨b, rfl, .inr (.inl rfl)⟩
  · exact ⟨c, rfl, .inr (.inr rfl)⟩
structure KnOk (kn : List (Int × Str × List (Str × D))) : Prop where
  nd : (kn.map (·.1)).Nodup
  wo : ∀ p ∈ kn, ∀ q ∈ p.2.2, IsWo q.2
theorem d_web (fr : Free mg) (hD : DefAt P w K mg base T 1 "_law_draw" S_draw) (hP : DefAt P w K mg base T 2 "_law_pick" S_pick) (hW : DefAt P w K mg base T 3 "_law_worth" S_worth) (hN : DefAt P w K mg base T 2 "_law_number" S_number) (F : FnP K "_law_web" (top 58) f fd) (g : mg "_law_web" = some (.ref f)) : DefAt P w K mg base T 4 "_law_web" S_web := by
  refine defAt_of F g (ps := ["_law_pen_here", "_law_scene_here", "_law_many", "_law_more"]) (fun _ _ _ _ _ _ us hl => match us, hl with | [_, _, _, _], _ => rfl) (fn_okD F sc58 (fun ds μ Q ⟨_, _, _, _, h, _⟩ => by rw [h]; rfl) fun cdv A outer0 s0 H E ds μ Q hr ⟨pn, sn, p, s, e, em, ok, es, sok, q⟩ => ?_)
  subst e
  have hu := hr.u1
  have sp : sn ≠ pn := by rintro rfl; rw [em] at es; exact pen_ne_sc (Option.some.inj es)
  refine wss_cons (ws_asg (ks := [4, 5]) (we_tup (wa_two (we_dict0M fun kd nk => we_dict0M fun td nt => ⟨z2, wg_tup rfl ⟨_, rfl, rfl, wgs_cons (wg_name 4 sc58.nd (wgs_cons (wg_name 5 sc58.nd (wgs_nil ?_))))⟩⟩))))
  have tk : td ≠ kd := by rintro rfl; rw [mset_same] at nt; cases nt
  rw [mset_ne tk] at nt
  have kt := Ne.symm tk
  have kp : kd ≠ pn := by rintro rfl; rw [em] at nk; cases nk
  have tp : td ≠ pn := by rintro rfl; rw [em] at nt; cases nt
  have sk : sn ≠ kd := by rintro rfl; rw [es] at nk; cases nk
  have st : sn ≠ td := by rintro rfl; rw [es] at nt; cases nt
  have est : mset (mset μ kd (.md [])) td (.md []) = N3 μ kd td pn [] [] p := by
    unfold N3
    rw [mset_self (μ := mset (mset μ kd (.md [])) td (.md [])) (a := pn) (by rw [mset_ne (Ne.symm tp), mset_ne (Ne.symm kp)]; exact em)]
  rw [est]
  have es' : ∀ k t p', N3 μ kd td pn k t p' sn = some (.md (scK s)) := fun k t p' => by rw [n3_ne sk st sp]; exact es
  -- the knots
  refine wss_mid (fun G' μ' => ∃ kn p' o6 o7, G' = [some (.ref pn), some (.ref sn), some (.int 4), some (.int 10), some (.ref kd), some (.ref td), o6, o7, none, none, none] ∧ KnOk kn ∧ kn.length ≤ 4 ∧ p.to 802 p' ∧ μ' = N3 μ kd td pn (kvK kn) [] p') ?_ ?_
  · refine ws_for (ks := [6]) rfl (wi_range fr.range (we_sub (we_var 2 rfl (we_call hD hr (wa_two (we_var 0 rfl (we_call hP hr (wa_two (we_var 0 rfl (we_lst (wa_cons (we_int (wa_two (we_int (we_add (we_var 2 rfl (we_int ⟨_, _, rfl, rfl, by rw [sizeLine_eq]; show 3 ≤ 16777216; decide, pn, p, _, _, rfl, n3_pn, ok.less (by decide), .lst, by simp, by decide, fun e he p1 t1 => ?_⟩)))))))))))))))))
    obtain ⟨m, rfl, hm⟩ := num3 (a := 1) (b := 3) (c := 5) he
    rw [n3_pen]
    refine ⟨pn, p1, m, rfl, n3_pn, (ok.to t1 (k := 900)).ok, by omega, by omega, fun k p2 hk t2 => ⟨_, _, rfl, rfl, _, rfl, by omega, by omega, ?_⟩⟩
    rw [n3_pen]
    have s2 := t1.trans t2 (k := 2)
    have hk4 : k ≤ 4 := by omega
    refine ⟨fun i G' μ' => ∃ kn p' o6 o7, G' = [some (.ref pn), some (.ref sn), some (.int 4), some (.int 10), some (.ref kd), some (.ref td), o6, o7, none, none, none] ∧ KnOk kn ∧ kn.length = i ∧ p.to (2 + 200 * i) p' ∧ μ' = N3 μ kd td pn (kvK kn) [] p',
      ⟨[], p2, _, _, rfl, ⟨List.nodup_nil, fun _ h => (nomatch h)⟩, rfl, s2, rfl⟩, ?_, ?_⟩
    · rintro i d G' μ' ed ⟨kn, p3, o6, o7, rfl, kok, hi, t3, rfl⟩
      obtain ⟨hik, rfl⟩ := rng_at ed
      have hi4 : i < 4 := by omega
      have hn1 := sok.n1
      refine wg_name 6 sc58.nd (wss_cons (ws_lc 7 8 sc58.nd rfl (blkOk_by (by kernel_rfl)) (wi_seq (we_dget hu (we_var 1 rfl (we_str ⟨scK s, .inr "names", _, .md (es' _ _ _), rfl, sc_names s, _, .lst, fun hz => ?_⟩))))))
      refine ⟨fun j acc μ' => ∃ (prs : List (Str × D)) (p' : Pen), acc = prs.map (fun q => .tup [.str q.1, q.2]) ∧ (∀ q ∈ prs, IsWo q.2) ∧ p.to (2 + 200 * i + 11 * j) p' ∧ μ' = N3 μ kd td pn (kvK kn) [] p', ⟨[], p3, rfl, fun _ h => (nomatch h), t3, rfl⟩, ?_, ?_⟩
      · rintro j d acc μ' ed2 ⟨prs, p4, rfl, hwo, t4, rfl⟩ hle sA HA CA clA fpA
        rw [List.getElem?_map] at ed2
        cases ex : s.names[j]? with
        | none => rw [ex] at ed2; cases ed2
        | some x =>
          rw [ex] at ed2; cases ed2
          have hj : j < s.names.length := (List.getElem?_eq_some_iff.mp ex).1
          refine wt_gt (we_call hD hr (wa_two (we_var 0 rfl (we_int ⟨pn, p4, 3, rfl, n3_pn, (ok.to t4 (k := 1)).ok, by decide, by decide, fun k1 p5 h5 t5 => we_int ⟨_, _, rfl, rfl, ?_⟩⟩))))
          rw [n3_pen]
          by_cases hb : (0 : Int) < (k1 : Int)
          · rw [decide_eq_true hb, if_pos rfl]
            intro sB HB CB clB fpB
            refine we_tup (wa_two (we_var 8 rfl (we_call hW hr (wa_one (we_var 0 rfl ⟨pn, p5, rfl, n3_pn, (ok.to (t4.trans t5 (k := 3 + 200 * i + 11 * j)) (k := 10)), fun o p6 wo t6 => ⟨z2, ?_⟩⟩)))))
            rw [n3_pen]
            refine ⟨prs ++ [(x, o)], p6, by rw [List.map_append]; rfl, fun q hq => ?_, (t4.trans t5 (k := 3 + 200 * i + 11 * j)).trans t6, rfl⟩
            rcases List.mem_append.mp hq with hq | hq
            · exact hwo q hq
            · rw [List.mem_singleton.mp hq]; exact wo
          · rw [decide_eq_false hb, if_neg Bool.false_ne_true]
            exact ⟨prs, p5, rfl, hwo, t4.trans t5, rfl⟩
      · rintro acc μ' ⟨prs, p4, rfl, hwo, t4, rfl⟩ hle
        rw [List.length_map] at t4
        have s4 := t4.le (k := 170 + 200 * i) (by omega)
        refine wss_one (ws_dput hu (we_tup (wa_two (we_call hP hr (wa_two (we_var 0 rfl (we_dget hu (we_var 1 rfl (we_str ⟨scK s, .inr "kinds", _, .md (es' _ _ _), rfl, sc_kinds s, pn, p4, _, _, rfl, n3_pn, ok.to s4 (k := 1), .lst, map_ne sok.k0, by rw [List.length_map]; have := sok.k1; omega, fun e he p5 t5 => ?_⟩)))))))))
        obtain ⟨kind, _, rfl⟩ := pick_str he
        rw [n3_pen]
        have s5 := s4.trans t5 (k := 171 + 200 * i)
        have epd : prs.map (fun q => D.tup [.str q.1, q.2]) = pairD (prs.map fun q => ((.inr q.1 : Key), q.2)) := by unfold pairD; rw [List.map_map]; rfl
        refine we_freezeD (we_dictPM rfl fr.dict rfl (we_var 7 rfl ⟨_, by rw [epd]; exact .lst, fun a na => ⟨a, _, rfl, mset_same, ?_⟩⟩))
        rw [mdel_mset na]
        obtain ⟨ws, ews, hws⟩ := StrK.merge (kvs := []) ⟨[], rfl, fun _ h => (nomatch h)⟩ hwo
        rw [ews]
        refine ⟨z2, we_var 4 rfl (we_call hN hr (wa_two (we_var 0 rfl (we_var 4 rfl ⟨pn, kd, p5, _, _, rfl, n3_pn, ok.to s5 (k := 10), n3_kd kp kt, kvK_keys kn, by rw [List.length_map]; omega, fun n p6 hn t6 => ?_⟩))))⟩
        rw [n3_pen]
        refine ⟨kd, _, .inl n, rfl, rfl, n3_kd kp kt, by unfold kvK; rw [List.length_map, sizeLine_eq]; omega, ?_⟩
        rw [n3_putK kp kt, putD_newI (kvK_keys kn) hn]
        refine ⟨kn ++ [(n, kind, ws)], p6, _, _, rfl, ⟨?_, fun q hq => ?_⟩, by rw [List.length_append, hi]; rfl, s5.trans t6, by unfold kvK; rw [List.map_append]; rfl⟩
        · rw [List.map_append, List.nodup_append]
          refine ⟨kok.nd, by simp, fun a ha b hb e => ?_⟩
          subst e
          simp at hb; subst hb
          exact hn ha
        · rcases List.mem_append.mp hq with hq | hq
          · exact kok.wo q hq
          · rw [List.mem_singleton.mp hq]; exact hws
    · rintro G' μ' ⟨kn, p3, o6, o7, rfl, kok, hi, t3, rfl⟩
      rw [rng_len] at hi t3
      exact ⟨kn, p3, o6, o7, rfl, kok, by omega, t3.le (by omega), rfl⟩
  rintro _ _ ⟨kn, p1, o6, o7, rfl, kok, k4, t1, rfl⟩
  have hkk := kvK_keys kn
  have hkl : (kn.map (·.1)).length ≤ 4 := by rw [List.length_map]; exact k4
  have num1000 : ∀ e ∈ [D.int 1, .int 2, .int 1000], ∃ m : Int, e = .int m := fun e h => by
    simp only [List.mem_cons, List.not_mem_nil, or_false] at h
    rcases h with rfl | rfl | rfl <;> exact ⟨_, rfl⟩
  -- the ties
  refine wss_mid (fun G' μ' => ∃ (ts : List (Int × Str × Int × Int × Int)) (p' : Pen) (o6 o9 : Option D), G' = [some (.ref pn), some (.ref sn), some (.int 4), some (.int 10), some (.ref kd), some (.ref td), o6, o7, none, o9, none] ∧ (ts.map (·.1)).Nodup ∧ ts.length ≤ 10 ∧ (∀ t ∈ ts, t.2.2.1 ∈ kn.map (·.1) ∧ t.2.2.2.1 ∈ kn.map (·.1)) ∧ p.to 1000 p' ∧ μ' = N3 μ kd td pn (kvK kn) (kvT ts) p') ?_ ?_
  · refine ws_for (ks := [6]) rfl (wi_range fr.range (we_mul (we_sub (we_var 3 rfl (we_call hD hr (wa_two (we_var 0 rfl (we_call hP hr (wa_two (we_var 0 rfl (we_lst (wa_cons (we_int (wa_two (we_int (we_add (we_var 3 rfl (we_int ⟨_, _, rfl, rfl, by rw [sizeLine_eq]; show 3 ≤ 16777216; decide, pn, p1, _, _, rfl, n3_pn, ok.to t1 (k := 1), .lst, by simp, by decide, fun e he p2 t2 => ?_⟩))))))))))))))))))
    obtain ⟨m, rfl, hm⟩ := num3 (a := 1) (b := 4) (c := 11) he
    rw [n3_pen]
    have s2 := t1.trans t2 (k := 803)
    refine ⟨pn, p2, m, rfl, n3_pn, (ok.to s2 (k := 1)).ok, by omega, by omega, fun k p3 hk t3 => ⟨_, _, rfl, rfl, ?_⟩⟩
    rw [n3_pen]
    refine we_intB rfl fr.int (we_neD0 (Nat.lt_of_succ_lt hu) (we_var 4 rfl ⟨kd, _, rfl, n3_kd kp kt, _, rfl, ?_⟩))
    have s3 := s2.trans t3 (k := 804)
    obtain ⟨c, hc, hc0⟩ : ∃ c : Nat, (((10 : Int) - (k : Int)) * (if (!(kvK kn).isEmpty) = true then 1 else 0)).toNat = c ∧ c ≤ 10 ∧ (0 < c → kn ≠ []) := by
      cases hk0 : kn with
      | nil => exact ⟨0, by simp [kvK], by omega, fun h => absurd h (by omega)⟩
      | cons a b => exact ⟨10 - k, by simp [kvK] <;> omega, by omega, fun _ => by simp⟩
    refine ⟨_, _, rfl, rfl, .inl ⟨by omega, by omega⟩, _, rfl, ?_, ?_, ?_⟩
    · split <;> omega
    · split <;> omega
    rw [hc]
    refine ⟨fun i G' μ' => ∃ (ts : List (Int × Str × Int × Int × Int)) (p' : Pen) (o6 o9 : Option D), G' = [some (.ref pn), some (.ref sn), some (.int 4), some (.int 10), some (.ref kd), some (.ref td), o6, o7, none, o9, none] ∧ (ts.map (·.1)).Nodup ∧ ts.length = i ∧ (∀ t ∈ ts, t.2.2.1 ∈ kn.map (·.1) ∧ t.2.2.2.1 ∈ kn.map (·.1)) ∧ p.to (804 + 15 * i) p' ∧ μ' = N3 μ kd td pn (kvK kn) (kvT ts) p',
      ⟨[], p3, _, _, rfl, List.nodup_nil, rfl, fun _ h => (nomatch h), s3, rfl⟩, ?_, ?_⟩
    · rintro i d G' μ' ed ⟨ts, p4, o6', o9, rfl, tn, hi, te, t4, rfl⟩
      obtain ⟨hic, rfl⟩ := rng_at ed
      have hkn : kn ≠ [] := hc0.2 (by omega)
      have hk1 : 0 < (kn.map (·.1)).length := by rw [List.length_map]; exact List.length_pos_iff.mpr hkn
      refine wg_name 6 sc58.nd (wss_cons (ws_lc 9 10 sc58.nd rfl (blkOk_by (by kernel_rfl)) (wi_range fr.range (we_int ⟨2, rfl, by decide, by decide, ?_⟩))))
      refine ⟨fun j acc μ' => ∃ (es : List Int) (p' : Pen), acc = es.map .int ∧ es.length = j ∧ (∀ x ∈ es, x ∈ kn.map (·.1)) ∧ p.to (804 + 15 * i + j) p' ∧ μ' = N3 μ kd td pn (kvK kn) (kvT ts) p', ⟨[], p4, rfl, rfl, fun _ h => (nomatch h), t4, rfl⟩, ?_, ?_⟩
      · rintro j d acc μ' ed2 ⟨es2, p5, rfl, hj, hes, t5, rfl⟩ hle sA HA CA clA fpA sB HB CB clB fpB
        have hj2 := (rng_at ed2).1
        have hj2' : j < 2 := hj2
        refine we_call hP hr (wa_two (we_var 0 rfl (we_sortedDI rfl fr.sorted rfl (we_var 4 rfl ⟨_, _, .md (n3_kd kp kt), hkk, by omega, fun ys hp hs => ⟨pn, p5, _, _, rfl, n3_pn, ok.to t5 (k := 1), .lst, ?_, ?_, fun e he p6 t6 => ?_⟩⟩))))
        · intro z
          have := congrArg List.length z
          rw [List.length_map, hp.length_eq] at this
          rw [this] at hk1; cases hk1
        · rw [List.length_map, hp.length_eq]; omega
        · obtain ⟨x, hx, rfl⟩ := List.mem_map.mp he
          rw [n3_pen]
          refine ⟨es2 ++ [x], p6, by rw [List.map_append]; rfl, by rw [List.length_append, hj]; rfl, fun y hy => ?_, t5.trans t6, rfl⟩
          rcases List.mem_append.mp hy with hy | hy
          · exact hes y hy
          · rw [List.mem_singleton.mp hy]; exact hp.mem_iff.mp hx
      · rintro acc μ' ⟨es2, p5, rfl, hj, hes, t5, rfl⟩ hle
        have hj' : es2.length = 2 := hj
        have t5' : p.to (806 + 15 * i) p5 := t5.le (by have : (rngD (2 : Int).toNat).length = 2 := rfl; omega)
        obtain ⟨a, b, rfl⟩ : ∃ a b, es2 = [a, b] := by
          match es2, hj' with
          | [a, b], _ => exact ⟨a, b, rfl⟩
        refine wss_one (ws_dput hu (we_tup (wa_cons (we_call hP hr (wa_two (we_var 0 rfl (we_dget hu (we_var 1 rfl (we_str ⟨scK s, .inr "ties", _, .md (es' _ _ _), rfl, sc_ties s, pn, p5, _, _, rfl, n3_pn, ok.to t5' (k := 1), .lst, map_ne sok.t0, by rw [List.length_map]; have := sok.t1; omega, fun e he p6 t6 => ?_⟩)))))))))
        obtain ⟨kind, _, rfl⟩ := pick_str he
        rw [n3_pen]
        have s6 := t5'.trans t6 (k := 807 + 15 * i)
        refine wa_cons (we_ix (we_var 9 rfl (we_int ⟨_, 0, .int a, .lst, rfl, rfl, wa_two (we_ix (we_var 9 rfl (we_int ⟨_, 1, .int b, .lst, rfl, rfl, we_call hP hr (wa_two (we_var 0 rfl (we_lstK [.int 1, .int 2, .int 1000] ⟨pn, p6, _, _, rfl, n3_pn, ok.to s6 (k := 1), .lst, by simp, by decide, fun e he p7 t7 => ?_⟩)))⟩)))⟩)))
        obtain ⟨wt, rfl⟩ := num1000 e he
        rw [n3_pen]
        have s7 := s6.trans t7 (k := 808 + 15 * i)
        refine ⟨by rw [sizeLine_eq]; show 4 ≤ 16777216; decide, we_var 5 rfl (we_call hN hr (wa_two (we_var 0 rfl (we_var 5 rfl ⟨pn, td, p7, _, _, rfl, n3_pn, ok.to s7 (k := 10), n3_td tp, kvT_keys ts, by rw [List.length_map]; omega, fun n p8 hn t8 => ?_⟩))))⟩
        rw [n3_pen]
        refine ⟨td, _, .inl n, rfl, rfl, n3_td tp, by unfold kvT; rw [List.length_map, sizeLine_eq]; omega, ?_⟩
        rw [n3_putT tp, putD_newI (kvT_keys ts) hn]
        refine ⟨ts ++ [(n, kind, a, b, wt)], p8, _, _, rfl, ?_, by rw [List.length_append, hi]; rfl, fun t ht => ?_, (s7.trans t8 (k := 818 + 15 * i)).le (by omega), by unfold kvT; rw [List.map_append]; rfl⟩
        · rw [List.map_append, List.nodup_append]
          refine ⟨tn, by simp, fun x hx y hy e => ?_⟩
          subst e
          simp at hy; subst hy
          exact hn hx
        · rcases List.mem_append.mp ht with ht | ht
          · exact te t ht
          · rw [List.mem_singleton.mp ht]; exact ⟨hes a (by simp), hes b (by simp)⟩
    · rintro G' μ' ⟨ts, p4, o6', o9, rfl, tn, hi, te, t4, rfl⟩
      rw [rng_len] at hi t4
      exact ⟨ts, p4, o6', o9, rfl, tn, by omega, te, t4.le (by omega), rfl⟩
  rintro _ _ ⟨ts, p2, o6', o9, rfl, tn, t10, te, t2, rfl⟩
  refine wss_fixD 4 (l := kd) (n3_kd kp kt) rfl (wss_fixD 5 (l := td) (kvs := kvT ts) (by rw [mdel_ne tk]; exact n3_td tp) rfl ?_)
  have efin : mdel (mdel (N3 μ kd td pn (kvK kn) (kvT ts) p2) kd) td = mset μ pn (penM p2) := by
    funext a
    unfold N3 mdel mset
    by_cases e1 : a = td
    · subst e1; simp [tp, nt]
    · by_cases e2 : a = kd
      · subst e2; simp [e1, kp, nk]
      · simp [e1, e2]
  rw [efin]
  refine wss_one (ws_ret (we_disp rfl rfl (by simp) (by decide) (wps_cons (.inr "knots") (we_str ⟨rfl, we_var 4 rfl (wps_cons (.inr "ties") (we_str ⟨rfl, we_var 5 rfl (wps_nil ?_)⟩))⟩))))
  exact q ⟨kn, ts, [], []⟩ p2 ⟨k4, kok.nd, t10, tn, te, kok.wo⟩ t2
end
end Ws
/-! LH: webs made; whether an order goes. -/
namespace Ws
open PySem PyProof.Rows PySem.Spec L2
section
variable {P : Program} {w : World} {K : PySem.W.Frag} {mg : Str → Option Value} {base : Heap} {T : TabS} {f : Addr} {fd : FuncData}
theorem sc59 : FnScope ["_law_state", "_law_knots", "_law_n"] ["_law_state"] (defScope (top 59)) := ⟨rfl, rfl, rfl, by decide +kernel, rfl, by decide +kernel, by decide +kernel⟩
def S_parts : DSp := fun ds μ Q => ∃ W, ds = [webD W] ∧ WIn W ∧ Q (.tup [.lst (keyed (knIn W)), .lst (keyed (tiIn W))]) μ
theorem d_parts (fr : Free mg) (F : FnP K "_law_parts" (top 59) f fd) (g : mg "_law_parts" = some (.ref f)) : DefAt P w K mg base T 1 "_law_parts" S_parts := by
  refine defAt_of F g (ps := ["_law_state"]) (fun _ _ _ _ _ _ us hl => match us, hl with | [_], _ => rfl) (fn_okD F sc59 (fun ds μ Q ⟨_, h, _⟩ => by rw [h]; rfl) fun cdv A outer0 s0 H E ds μ Q hr ⟨W, e, win, q⟩ => ?_)
  subst e
  have hu := hr.u1
  have e1 : (kvK W.knots).map (fun kv => kD kv.1) = W.knots.map fun p => D.int p.1 := by unfold kvK; rw [List.map_map]; rfl
  have e2 : (kvT W.ties).map (fun kv => kD kv.1) = W.ties.map fun p => D.int p.1 := by unfold kvT; rw [List.map_map]; rfl
  have f1 := win.few
  have f2 := win.ties
  have v1 : ∀ p ∈ W.knots, valD (kvK W.knots) (.inl p.1) = some (ptD p.2) := fun p hp => by
    unfold kvK; rw [valD_map, look_nd win.kn hp]; rfl
  have v2 : ∀ t ∈ W.ties, valD (kvT W.ties) (.inl t.1) = some (tieD t.2) := fun t ht => by
    unfold kvT; rw [valD_map, look_nd win.tn ht]; rfl
  have g1 : keyed (knIn W) = (W.knots.filter fun _ => true).map fun p => .tup [.int p.1, .str p.2.1, wsD p.2.2] := by rw [filter_true]; unfold keyed knIn; rw [List.map_map]; rfl
  have g2 : keyed (tiIn W) = (W.ties.filter fun _ => true).map fun t => .tup ([.int t.1] ++ [.str t.2.1, .int t.2.2.1, .int t.2.2.2.1, .int t.2.2.2.2]) := by rw [filter_true]; unfold keyed tiIn; rw [List.map_map]; rfl
  refine wss_cons (ws_lc 1 2 sc59.nd rfl (blkOk_by (by kernel_rfl)) (wi_keys (we_dget hu (we_var 0 rfl (we_str ⟨_, .inr "knots", .dic (kvK W.knots), .dic, rfl, rfl, _, rfl, by unfold kvK; rw [List.length_map, sizeLine_eq]; omega, ?_⟩)))))
  rw [e1]
  refine lc_fm W.knots (fun p => .int p.1) (fun _ => true) (fun p => .tup [.int p.1, .str p.2.1, wsD p.2.2]) ?_ fun p hp s H C cl fp => ⟨rfl, rfl, fun _ s H C cl fp => ?_⟩
  rotate_left
  · refine we_tup (wa_cons (we_var 2 rfl (wa_two (we_ix (we_dget hu (we_dget hu (we_var 0 rfl (we_str ⟨_, .inr "knots", .dic (kvK W.knots), .dic, rfl, rfl, we_var 2 rfl ⟨_, .inl p.1, _, .dic, rfl, v1 p hp, we_int ⟨_, 0, .str p.2.1, .tup, rfl, rfl, ?_⟩⟩⟩))))))))
    exact we_dictC rfl fr.dict (we_ix (we_dget hu (we_dget hu (we_var 0 rfl (we_str ⟨_, .inr "knots", .dic (kvK W.knots), .dic, rfl, rfl, we_var 2 rfl ⟨_, .inl p.1, _, .dic, rfl, v1 p hp, we_int ⟨_, 1, wsD p.2.2, .tup, rfl, rfl, _, .dic, by rw [sizeLine_eq]; show 3 ≤ 16777216; decide, rfl, rfl⟩⟩⟩)))))
  rw [← g1]
  refine wss_one (ws_ret (we_tup (wa_two (we_var 1 rfl (we_lc 2 sc59.nd rfl (blkOk_by (by kernel_rfl)) (wi_keys (we_dget hu (we_var 0 rfl (we_str ⟨_, .inr "ties", .dic (kvT W.ties), .dic, rfl, rfl, _, rfl, by unfold kvT; rw [List.length_map, sizeLine_eq]; omega, ?_⟩)))))))))
  rw [e2]
  refine lc_fm W.ties (fun p => .int p.1) (fun _ => true) (fun t => .tup ([.int t.1] ++ [.str t.2.1, .int t.2.2.1, .int t.2.2.2.1, .int t.2.2.2.2])) ?_ fun t ht s H C cl fp => ⟨rfl, rfl, fun _ s H C cl fp => ?_⟩
  rotate_left
  · exact we_catT (we_tup (wa_one (we_var 2 rfl ⟨z1, we_dget hu (we_dget hu (we_var 0 rfl (we_str ⟨_, .inr "ties", .dic (kvT W.ties), .dic, rfl, rfl, we_var 2 rfl ⟨_, .inl t.1, _, .dic, rfl, v2 t ht, _, _, rfl, rfl, by rw [sizeLine_eq]; show 5 ≤ 16777216; decide, rfl, rfl⟩⟩)))⟩)))
  rw [← g2]
  exact ⟨z2, q⟩
/-! ### _law_made -/
theorem sc60 : FnScope ["_law_web_here", "_law_knots", "_law_ties"] ["_law_web_here"] (defScope (top 60)) := ⟨rfl, rfl, rfl, by decide +kernel, rfl, by decide +kernel, by decide +kernel⟩
def S_made (C : Addr) : DSp := fun ds μ Q => ∃ W, ds = [webD W] ∧ WIn W ∧ ∀ a dx kn ts, μ a = none → kn.Perm W.knots → ts.Perm W.ties → Q (.ref a) (mset μ a (.mi C dx (webF (mkWb kn ts))))
theorem d_made {C : Addr} (mk : MkWeb P w K mg base T C) (hPa : DefAt P w K mg base T 1 "_law_parts" S_parts) (F : FnP K "_law_made" (top 60) f fd) (g : mg "_law_made" = some (.ref f)) : DefAt P w K mg base T 7 "_law_made" (S_made C) := by
  refine defAt_of F g (ps := ["_law_web_here"]) (fun _ _ _ _ _ _ us hl => match us, hl with | [_], _ => rfl) (fn_okD F sc60 (fun ds μ Q ⟨_, h, _⟩ => by rw [h]; rfl) fun cdv A outer0 s0 H E ds μ Q hr ⟨W, e, win, q⟩ => ?_)
  subst e
  refine wss_cons (ws_asg (ks := [1, 2]) (we_call hPa hr (wa_one (we_var 0 rfl ⟨W, rfl, win, wg_tup rfl ⟨_, rfl, rfl, wgs_cons (wg_name 1 sc60.nd (wgs_cons (wg_name 2 sc60.nd (wgs_nil ?_))))⟩⟩))))
  exact wss_one (ws_ret (we_web mk hr (wa_two (we_var 1 rfl (we_var 2 rfl ⟨W, rfl, win, q⟩)))))
/-! ### _law_goes -/
theorem vsR_mem (r : Row) (x : Str) : x ∈ vsR r ↔ x ∈ r.vars := by
  cases r with
  | p r => exact (prVars_mem r x).symm
  | no rs =>
    rw [no_vars_mem]
    unfold vsR
    rw [List.mem_flatMap]
theorem vsR_len {r : Row} (h : r.fine) : (vsR r).length ≤ 20 := by
  cases r with
  | p r => cases r <;> simp [vsR, PRow.vs]
  | no rs =>
    have h1 : (rs.flatMap PRow.vs).length ≤ rs.length * 2 := flat_len _ fun r _ => by cases r <;> simp [PRow.vs]
    have h2 : rs.length ≤ 10 := h.1
    show (rs.flatMap PRow.vs).length ≤ 20
    omega
/-- the variables of the rows that bind, as they come -/
def outL (rs : List Row) : List Str := (rs.filter Row.isB).flatMap vsR
theorem outL_mem (rs : List Row) (x : Str) : x ∈ outL rs ↔ x ∈ boundIn (outer rs) := by
  unfold outL
  rw [boundIn_mem, List.mem_flatMap]
  constructor
  · rintro ⟨r, h1, h2⟩
    obtain ⟨h3, h4⟩ := List.mem_filter.mp h1
    exact ⟨r, h3, h4, (vsR_mem r x).mp h2⟩
  · rintro ⟨r, h1, h2, h3⟩
    exact ⟨r, List.mem_filter.mpr ⟨h1, h2⟩, (vsR_mem r x).mpr h3⟩
theorem outL_len {rs : List Row} (h : ∀ r ∈ rs, r.fine) : (outL rs).length ≤ rs.length * 20 := by
  unfold outL
  have h1 := flat_len (f := vsR) (n := 20) (rs.filter Row.isB) fun r hr => vsR_len (h r (List.mem_filter.mp hr).1)
  have h2 := List.length_filter_le Row.isB rs
  have h3 := Nat.mul_le_mul_right 20 h2
  omega
/-- the variables that the first rows of an order bind -/
def bL (rs : List Row) (ns : List Nat) : List Str := (ns.filterMap fun n => rs[n]?).flatMap fun r => if r.isB = true then vsR r else []
theorem bL_mem (rs : List Row) (x : Str) (ns : List Nat) : x ∈ bL rs ns ↔ x ∈ bAfter rs [] ns := by
  unfold bL
  rw [bAfter_mem, List.mem_flatMap]
  constructor
  · rintro ⟨r, h1, h2⟩
    obtain ⟨n, h3, h4⟩ := List.mem_filterMap.mp h1
    by_cases hb : r.isB = true
    · rw [if_pos hb] at h2
      exact .inr ⟨n, h3, r, h4, hb, (vsR_mem r x).mp h2⟩
    · rw [if_neg hb] at h2; cases h2
  · rintro (h | ⟨n, h3, r, h4, hb, h5⟩)
    · cases h
    · exact ⟨r, List.mem_filterMap.mpr ⟨n, h3, h4⟩, by rw [if_pos hb]; exact (vsR_mem r x).mpr h5⟩
theorem ready_iff {r : Row} {bs out : List Str} {oL bL : List Str} (ho : ∀ x, x ∈ oL ↔ x ∈ out) (hb : ∀ x, x ∈ bL ↔ x ∈ bs) : ((vsR r).filter fun x => decide (x ∈ oL) && !decide (x ∈ bL)).isEmpty = ready r bs out := by
  rw [Bool.eq_iff_iff]
  unfold ready wantedBy
  rw [List.isEmpty_iff, List.filter_eq_nil_iff, List.all_eq_true]
  constructor
  · intro h x hx
    obtain ⟨h1, h2⟩ := List.mem_filter.mp hx
    have h3 := h x ((vsR_mem r x).mpr h1)
    rw [decide_eq_true ((ho x).mpr (of_decide_eq_true h2))] at h3
    simp at h3
    exact decide_eq_true ((hb x).mp h3)
  · intro h x hx h3
    obtain ⟨h4, h5⟩ := Bool.and_eq_true_iff.mp h3
    have h6 := h x (List.mem_filter.mpr ⟨(vsR_mem r x).mp hx, decide_eq_true ((ho x).mp (of_decide_eq_true h4))⟩)
    rw [decide_eq_true ((hb x).mpr (of_decide_eq_true h6))] at h5
    cases h5
theorem sc61 : FnScope ["_law_rows", "_law_order", "_law_outer", "_law_bound", "_law_row_here", "_law_at", "_law_v"] ["_law_rows", "_law_order"] (defScope (top 61)) := ⟨rfl, rfl, rfl, by decide +kernel, rfl, by decide +kernel, by decide +kernel⟩
def S_goes : DSp := fun ds μ Q => ∃ d1 d2, ∃ rs : List Row, ∃ ns : List Nat, ds = [d1, d2] ∧ FSq d1 (rs.map dRow) ∧ RowsOk rs ∧ FSq d2 (natsD ns) ∧ (∀ n ∈ ns, n < rs.length) ∧ ns.length ≤ 20 ∧ Q (.bl (goFrom rs (boundIn (outer rs)) [] ns)) μ
theorem d_goes (fr : Free mg) (hI : DefAt P w K mg base T 2 "_law_in_row" S_inR) (F : FnP K "_law_goes" (top 61) f fd) (g : mg "_law_goes" = some (.ref f)) : DefAt P w K mg base T 3 "_law_goes" S_goes := by
  refine defAt_of F g (ps := ["_law_rows", "_law_order"]) (fun _ _ _ _ _ _ us hl => match us, hl with | [_, _], _ => rfl) (fn_okD F sc61 (fun ds μ Q ⟨_, _, _, _, h, _⟩ => by rw [h]; rfl) fun cdv A outer0 s0 H E ds μ Q hr ⟨d1, d2, rs, ns, e, fs, rok, fs2, hlt, hns, q⟩ => ?_)
  subst e
  have hu := hr.u1
  have hfine := rok.2
  have hlen := rok.1
  refine wss_cons (ws_asg (ks := [2, 3]) (we_tup (wa_two (we_lst (wa_nil ⟨Nat.zero_le _, we_lst (wa_nil ⟨Nat.zero_le _, z2, wg_tup rfl ⟨_, rfl, rfl, wgs_cons (wg_name 2 sc61.nd (wgs_cons (wg_name 3 sc61.nd (wgs_nil ?_))))⟩⟩)⟩)))))
  -- the rows that bind
  refine wss_mid (fun G' μ' => (∃ o4, G' = [some d1, some d2, some (.lst ((outL rs).map .str)), some (.lst []), o4, none, none]) ∧ μ' = μ) ?_ ?_
  · refine ws_for (ks := [4]) rfl (wi_seq (we_var 0 rfl ⟨_, fs, fun hz => ⟨fun j G' μ' => (∃ o4, G' = [some d1, some d2, some (.lst ((outL (rs.take j)).map .str)), some (.lst []), o4, none, none]) ∧ μ' = μ, ⟨⟨_, rfl⟩, rfl⟩, ?_, ?_⟩⟩))
    · rintro j d G' μ' ed ⟨⟨o4, rfl⟩, rfl⟩
      rw [List.getElem?_map] at ed
      cases ex : rs[j]? with
      | none => rw [ex] at ed; cases ed
      | some r =>
        rw [ex] at ed; cases ed
        have hrm := List.mem_of_getElem? ex
        have hj : j < rs.length := (List.getElem?_eq_some_iff.mp ex).1
        have e1 : outL (rs.take (j + 1)) = outL (rs.take j) ++ if r.isB = true then vsR r else [] := by
          unfold outL
          rw [List.take_add_one, ex, Option.toList, List.filter_append, List.flatMap_append]
          by_cases hb : r.isB = true
          · simp [hb]
          · simp [hb]
        have h1 : (outL (rs.take j)).length ≤ 400 := by
          have := outL_len (rs := rs.take j) fun r hr => hfine r (List.mem_of_mem_take hr)
          rw [List.length_take] at this; omega
        have h2 := vsR_len (hfine r hrm)
        refine wg_name 4 sc61.nd (wss_one (ws_set 2 sc61.nd (we_catL (we_var 2 rfl (we_repL (we_call hI hr (wa_one (we_var 4 rfl ⟨r, rfl, hfine r hrm, we_intB rfl fr.int (we_in rfl (we_ix (we_var 4 rfl (we_int ⟨_, _, _, .tup, rfl, atI_zero, we_lstK bindingD ⟨_, _, .lst, in_binding r, _, rfl, _, _, .lst, rfl, ?_, ?_, ?_, ?_⟩⟩))))⟩))))))))
        · split <;> decide
        · split <;> decide
        · rw [List.length_map, sizeLine_eq]; split <;> simp <;> omega
        · refine ⟨_, _, .lst, .lst, ?_, ⟨some (dRow r), ?_⟩, rfl⟩
          · rw [List.length_map, sizeLine_eq]
            split <;> simp <;> omega
          · rw [e1]
            by_cases hb : r.isB = true
            · simp [hb]
            · simp [hb]
    · rintro _ _ ⟨⟨o4, rfl⟩, rfl⟩
      rw [List.length_map, List.take_length]
      exact ⟨⟨_, rfl⟩, rfl⟩
  rintro _ μ' ⟨⟨o4, rfl⟩, rfl⟩
  have bL_len : ∀ ms : List Nat, (bL rs ms).length ≤ ms.length * 20 := fun ms => by
    have h1 := flat_len (f := fun r : Row => if r.isB = true then vsR r else []) (n := 20) (ms.filterMap fun n => rs[n]?) fun r hr => by
      obtain ⟨n, hn, e⟩ := List.mem_filterMap.mp hr
      have := vsR_len (hfine r (List.mem_of_getElem? e))
      split
      · exact this
      · simp
    have h2 := List.length_filterMap_le (fun n => rs[n]?) ms
    have h3 := Nat.mul_le_mul_right 20 h2
    show ((ms.filterMap fun n => rs[n]?).flatMap fun r => if r.isB = true then vsR r else []).length ≤ _
    omega
  have hoL : (outL rs).length ≤ 400 := by have := outL_len hfine; omega
  refine wss_cons (ws_for (ks := [5]) rfl (wi_seq (we_var 1 rfl ⟨_, fs2, fun hz => ⟨fun j G' μ1 => (∃ o5, G' = [some d1, some d2, some (.lst ((outL rs).map .str)), some (.lst ((bL rs (ns.take j)).map .str)), o4, o5, none]) ∧ goFrom rs (boundIn (outer rs)) [] (ns.take j) = true ∧ μ1 = μ', ⟨⟨none, rfl⟩, rfl, rfl⟩, ?_, ?_⟩⟩)))
  · rintro j d G' _ ed ⟨⟨o5, rfl⟩, hgo, rfl⟩
    unfold natsD at ed
    rw [List.getElem?_map] at ed
    cases ex : ns[j]? with
    | none => rw [ex] at ed; cases ed
    | some n =>
      rw [ex] at ed; cases ed
      have hn : n ∈ ns := List.mem_of_getElem? ex
      have hnr := hlt n hn
      have hj : j < ns.length := (List.getElem?_eq_some_iff.mp ex).1
      have er : rs[n]? = some rs[n] := List.getElem?_eq_getElem hnr
      have erd : atI (rs.map dRow) ((n : Nat) : Int) = some (dRow rs[n]) := by rw [atI_nat, List.getElem?_map, er]; rfl
      have etk : ns.take (j + 1) = ns.take j ++ [n] := by rw [List.take_add_one, ex]; rfl
      have hrf := hfine _ (List.getElem_mem hnr)
      have hvl := vsR_len hrf
      have hbl := bL_len (ns.take j)
      rw [List.length_take] at hbl
      have ebL : bL rs (ns.take (j + 1)) = bL rs (ns.take j) ++ if rs[n].isB = true then vsR rs[n] else [] := by
        unfold bL
        rw [etk, List.filterMap_append, List.flatMap_append]
        simp [er]
      refine wg_name 5 sc61.nd (wss_one (ws_if (wt_in rfl (we_ix (we_ix (we_var 0 rfl (we_var 5 rfl ⟨_, _, _, fs.sq, rfl, erd, we_int ⟨_, _, _, .tup, rfl, atI_zero, we_lstK bindingD ⟨_, _, .lst, in_binding rs[n], ?_⟩⟩⟩)))))))
      cases hb : rs[n].isB with
      | true =>
        rw [if_pos rfl]
        refine wss_one (ws_set 3 sc61.nd (we_catL (we_var 3 rfl (we_call hI hr (wa_one (we_ix (we_var 0 rfl (we_var 5 rfl ⟨_, _, _, fs.sq, rfl, erd, rs[n], rfl, hrf, _, _, .lst, .lst, ?_, ⟨some (.int (n : Nat)), ?_⟩, ?_, rfl⟩))))))))
        · rw [List.length_map, List.length_map, sizeLine_eq]; omega
        · rw [ebL, if_pos hb, List.map_append]; rfl
        · rw [etk, goFrom_snoc, hgo, goFrom_B er hb]; rfl
      | false =>
        rw [if_neg (by simp)]
        have hgn : goFrom rs (boundIn (outer rs)) (bAfter rs [] (ns.take j)) [n] = ready rs[n] (bAfter rs [] (ns.take j)) (boundIn (outer rs)) := by
          rw [goFrom_N er (by rw [hb]; simp)]
          show (_ && true) = _
          rw [Bool.and_true]
        have hrdy := ready_iff (r := rs[n]) (oL := outL rs) (bL := bL rs (ns.take j)) (outL_mem rs) (fun x => bL_mem rs x (ns.take j))
        refine wss_one (ws_if (wt_neNil hu (we_lc 6 sc61.nd rfl (blkOk_by (by kernel_rfl)) (wi_seq (we_call hI hr (wa_one (we_ix (we_var 0 rfl (we_var 5 rfl ⟨_, _, _, fs.sq, rfl, erd, rs[n], rfl, hrf, _, .lst, fun hz2 => ?_⟩)))))))))
        refine lc_fm (vsR rs[n]) .str (fun x => decide (x ∈ outL rs) && !decide (x ∈ bL rs (ns.take j))) .str ?_ fun x hx s H C cl fp => ?_
        rotate_left
        · refine wt_w (wtw_and (wt_in rfl (we_var 6 rfl (we_var 2 rfl ⟨_, _, .lst, in_strs x (outL rs), ?_⟩))))
          cases h1 : decide (x ∈ outL rs) with
          | true =>
            rw [if_pos rfl]
            exact wtw_and1 (wt_notin rfl (we_var 6 rfl (we_var 3 rfl ⟨_, _, .lst, in_strs x (bL rs (ns.take j)), by rw [Bool.true_and], rfl, fun _ s H C cl fp => we_var 6 rfl ⟨rfl, rfl⟩⟩)))
          | false =>
            rw [if_neg (by simp)]
            exact ⟨by rw [Bool.false_and], rfl, fun hh => by rw [Bool.false_and] at hh; cases hh⟩
        refine ⟨_, .lst, ?_⟩
        have hemp : ∀ l : List Str, (l.map D.str).isEmpty = l.isEmpty := fun l => by cases l <;> rfl
        rw [hemp, hrdy]
        cases hrd : ready rs[n] (bAfter rs [] (ns.take j)) (boundIn (outer rs)) with
        | true =>
          rw [if_neg (by simp)]
          refine wss_nil ⟨⟨some (.int (n : Nat)), ?_⟩, ?_, rfl⟩
          · rw [ebL, if_neg (by rw [hb]; simp), List.append_nil]; rfl
          · rw [etk, goFrom_snoc, hgo, hgn, hrd]; rfl
        | false =>
          rw [if_pos (by rfl)]
          refine wss_one (ws_ret (we_bl ?_))
          have e2 : ns = ns.take j ++ n :: ns.drop (j + 1) := by
            conv => lhs; rw [← List.take_append_drop j ns]
            rw [List.drop_eq_getElem?_toList_append, ex]; rfl
          have e3 : goFrom rs (boundIn (outer rs)) [] ns = false := by
            rw [e2, goFrom_app, hgo, show n :: ns.drop (j + 1) = [n] ++ ns.drop (j + 1) from rfl, goFrom_app, hgn, hrd]; rfl
          rw [e3] at q
          exact q
  · rintro _ _ ⟨⟨o5, rfl⟩, hgo, rfl⟩
    have hl : (natsD ns).length = ns.length := by unfold natsD; rw [List.length_map]
    rw [hl, List.take_length] at hgo
    refine wss_one (ws_ret (we_bl ?_))
    rw [hgo] at q
    exact q
end
end Ws
/-! LI: shuffles, orders, what is no order. -/
namespace Ws
open PySem PyProof.Rows PySem.Spec L2
section
variable {P : Program} {w : World} {K : PySem.W.Frag} {mg : Str → Option Value} {base : Heap} {T : TabS} {f : Addr} {fd : FuncData}
/-! ### _law_shuffled -/
theorem erase_perm {ms : List Nat} {k n : Nat} (h : ms[k]? = some n) : (n :: ms.eraseIdx k).Perm ms := by
  induction ms generalizing k with
  | nil => cases h
  | cons m ms ih =>
    cases k with
    | zero => cases h; exact List.Perm.refl _
    | succ k =>
      rw [List.getElem?_cons_succ] at h
      rw [List.eraseIdx_cons_succ]
      exact (List.Perm.swap m n _).trans ((ih h).cons m)
theorem erase_nats (ns : List Nat) (j : Nat) : (natsD ns).eraseIdx j = natsD (ns.eraseIdx j) := by
  unfold natsD
  induction ns generalizing j with
  | nil => rfl
  | cons n ns ih => cases j with
    | zero => rfl
    | succ j => rw [List.map_cons, List.eraseIdx_cons_succ, ih, List.eraseIdx_cons_succ, List.map_cons]
theorem natsD_len (ns : List Nat) : (natsD ns).length = ns.length := by unfold natsD; rw [List.length_map]
theorem natsD_at (ns : List Nat) (k : Nat) : (natsD ns)[k]? = (ns[k]?).map fun n => .int (n : Nat) := by unfold natsD; rw [List.getElem?_map]
theorem sc62 : FnScope ["_law_pen_here", "_law_some", "_law_left", "_law_found"] ["_law_pen_here", "_law_some"] (defScope (top 62)) := ⟨rfl, rfl, rfl, by decide +kernel, rfl, by decide +kernel, by decide +kernel⟩
def S_shuffled : DSp := fun ds μ Q => ∃ pn p d, ∃ ns : List Nat, ds = [.ref pn, d] ∧ μ pn = some (penM p) ∧ PenR p 20 ∧ FSq d (natsD ns) ∧ ns.length ≤ 20 ∧ ∀ (ms : List Nat) p', ms.Perm ns → p.to 20 p' → Q (.lst (natsD ms)) (mset μ pn (penM p'))
theorem d_shuffled (fr : Free mg) (hD : DefAt P w K mg base T 1 "_law_draw" S_draw) (F : FnP K "_law_shuffled" (top 62) f fd) (g : mg "_law_shuffled" = some (.ref f)) : DefAt P w K mg base T 2 "_law_shuffled" S_shuffled := by
  refine defAt_of F g (ps := ["_law_pen_here", "_law_some"]) (fun _ _ _ _ _ _ us hl => match us, hl with | [_, _], _ => rfl) (fn_okD F sc62 (fun ds μ Q ⟨_, _, _, _, h, _⟩ => by rw [h]; rfl) fun cdv A outer0 s0 H E ds μ Q hr ⟨pn, p, d, ns, e, em, ok, fs, hns, q⟩ => ?_)
  subst e
  have hu := hr.u1
  refine wss_cons (ws_par 2 3 (hw := by kernel_rfl) rfl sc62.nd (we_listM rfl fr.list (we_var 1 rfl ⟨_, fs.sq, fun la nla => we_lstM (wa_nil ⟨Nat.zero_le _, fun lf nlf => ?_⟩)⟩)))
  have ap : la ≠ pn := by rintro rfl; rw [em] at nla; cases nla
  have fa : lf ≠ la := by rintro rfl; rw [mset_same] at nlf; cases nlf
  have nlf' : μ lf = none := by rw [mset_ne fa] at nlf; exact nlf
  have fp : lf ≠ pn := by rintro rfl; rw [em] at nlf'; cases nlf'
  let st : List Nat → List Nat → Pen → Mu := fun left found p => mset (mset (mset μ la (.ml (natsD left))) lf (.ml (natsD found))) pn (penM p)
  have st1 : ∀ a b c, st a b c la = some (.ml (natsD a)) := fun a b c => by show mset _ _ _ _ = _; rw [mset_ne ap, mset_ne (Ne.symm fa), mset_same]
  have st2 : ∀ a b c, st a b c lf = some (.ml (natsD b)) := fun a b c => by show mset _ _ _ _ = _; rw [mset_ne fp, mset_same]
  have st3 : ∀ a b c, st a b c pn = some (penM c) := fun a b c => mset_same
  have up1 : ∀ a b c a', mset (st a b c) la (.ml (natsD a')) = st a' b c := fun a b c a' => by
    show mset (mset _ pn _) la _ = _
    rw [mset_comm (Ne.symm ap), mset_comm fa, mset_mset]
  have up2 : ∀ a b c b', mset (st a b c) lf (.ml (natsD b')) = st a b' c := fun a b c b' => by
    show mset (mset _ pn _) lf _ = _
    rw [mset_comm (Ne.symm fp), mset_mset]
  have up3 : ∀ a b c c', mset (st a b c) pn (penM c') = st a b c' := fun a b c c' => mset_mset
  have e0 : mset (mset μ la (.ml (natsD ns))) lf (.ml []) = st ns [] p := by
    show _ = mset (mset _ lf _) pn _
    funext a
    by_cases h : a = pn
    · subst h; rw [mset_same, mset_ne (Ne.symm fp), mset_ne (Ne.symm ap), em]
    · rw [mset_ne h]; rfl
  rw [e0]
  refine wss_cons (ws_while (fun n G' μ' => ∃ left found p', n = left.length ∧ G' = [some (.ref pn), some d, some (.ref la), some (.ref lf)] ∧ (found ++ left).Perm ns ∧ p.to found.length p' ∧ μ' = st left found p') ns.length ⟨ns, [], p, rfl, rfl, List.Perm.refl _, .refl _ _, rfl⟩ ?_)
  rintro n _ _ ⟨left, found, p1, rfl, rfl, hperm, t1, rfl⟩
  have hlen := hperm.length_eq
  rw [List.length_append] at hlen
  refine wt_neNil hu (we_var 2 rfl ⟨_, .ml (st1 _ _ _), ?_⟩)
  cases left with
  | nil =>
    refine wss_fixL 3 (l := lf) (st2 _ _ _) rfl ?_
    rw [List.append_nil] at hperm
    refine WSs.weak (ν := mset μ pn (penM p1)) (wss_one (ws_ret (we_var 3 rfl (q found p1 hperm (t1.le (by rw [List.length_nil] at hlen; omega)))))) fun a o e => ?_
    by_cases h1 : a = pn
    · subst h1
      rw [mset_same] at e
      rw [mdel_ne (Ne.symm fp)]
      rw [st3]; exact e
    · rw [mset_ne h1] at e
      have h2 : a ≠ lf := by rintro rfl; rw [nlf'] at e; cases e
      have h3 : a ≠ la := by rintro rfl; rw [nla] at e; cases e
      rw [mdel_ne h2]
      show mset (mset _ lf _) pn _ a = _
      rw [mset_ne h1, mset_ne h2, mset_ne h3]; exact e
  | cons n0 left0 =>
    refine wss_one (ws_expr (we_append (we_var 3 rfl ⟨lf, rfl, ⟨_, st2 _ _ _⟩, we_popAt (we_var 2 rfl ⟨la, rfl, ⟨_, st1 _ _ _⟩, we_call hD hr (wa_two (we_var 0 rfl (we_len rfl fr.len (we_var 2 rfl ⟨_, .ml (st1 _ _ _), pn, p1, (n0 :: left0).length, by rw [natsD_len], st3 _ _ _, (ok.to t1 (k := 1) (by rw [List.length_cons] at hlen; omega)).ok, by simp, by omega, fun k p2 hk t2 => ?_⟩))))⟩)⟩)))
    rw [up3]
    refine ⟨_, k, .int ((n0 :: left0)[k] : Nat), st1 _ _ _, rfl, by omega, by rw [natsD_at, List.getElem?_eq_getElem hk]; rfl, ?_⟩
    rw [erase_nats, up1]
    have hpe : ((n0 :: left0)[k] :: (n0 :: left0).eraseIdx k).Perm (n0 :: left0) := erase_perm (List.getElem?_eq_getElem hk)
    have hle := hpe.length_eq
    rw [List.length_cons] at hle
    refine ⟨natsD found, st2 _ _ _, by rw [natsD_len, sizeLine_eq]; omega, _, by omega, (n0 :: left0).eraseIdx k, found ++ [(n0 :: left0)[k]], p2, rfl, rfl, ?_, ?_, ?_⟩
    · rw [List.append_assoc]
      exact (List.Perm.append_left found hpe).trans hperm
    · rw [List.length_append, List.length_singleton]; exact t1.trans t2
    · rw [show natsD found ++ [.int ((n0 :: left0)[k] : Nat)] = natsD (found ++ [(n0 :: left0)[k]]) by unfold natsD; rw [List.map_append]; rfl, up2]
/-! ### _law_orders -/
theorem sc63 : FnScope ["_law_pen_here", "_law_rows", "_law_k", "_law_found", "_law_longer", "_law_order", "_law_at"] ["_law_pen_here", "_law_rows"] (defScope (top 63)) := ⟨rfl, rfl, rfl, by decide +kernel, rfl, by decide +kernel, by decide +kernel⟩
def ordD (ms : List Nat) : D := .lst (natsD ms)
def S_orders : DSp := fun ds μ Q => ∃ pn p d es, ds = [.ref pn, d] ∧ μ pn = some (penM p) ∧ PenR p 200 ∧ FSq d es ∧ es.length ≤ 20 ∧ ∀ (L : List (List Nat)) p', L.length ≤ 8 → (∀ ms ∈ L, ms.Perm (List.range es.length)) → p.to 200 p' → Q (.lst (L.map ordD)) (mset μ pn (penM p'))
def fac : Nat → Nat
  | 0 => 1
  | n + 1 => fac n * (n + 1)
theorem natsD_to (ms : List Nat) (k : Nat) : cutD (natsD ms) none (some (k : Int)) = natsD (ms.take k) := by
  unfold natsD; rw [cutD_map, cut_to]
theorem natsD_from (ms : List Nat) (k : Nat) : cutD (natsD ms) (some (k : Int)) none = natsD (ms.drop k) := by
  unfold natsD; rw [cutD_map, cut_from]
theorem natsD_app (a b : List Nat) : natsD a ++ natsD b = natsD (a ++ b) := by unfold natsD; rw [List.map_append]
theorem ins_perm (ms : List Nat) (j k : Nat) : (ms.take j ++ [k] ++ ms.drop j).Perm (ms ++ [k]) := by
  have h2 : (ms.take j ++ ([k] ++ ms.drop j)).Perm (ms.take j ++ (ms.drop j ++ [k])) := List.Perm.append_left _ List.perm_append_comm
  rw [← List.append_assoc (ms.take j) (ms.drop j) [k], List.take_append_drop] at h2
  rw [List.append_assoc]
  exact h2
def grown (k : Nat) (ms : List Nat) : List (List Nat) := (List.range (ms.length + 1)).map fun j => ms.take j ++ [k] ++ ms.drop j
theorem flat_le {α β : Type} {f : α → List β} {n : Nat} : ∀ xs : List α, (∀ x ∈ xs, (f x).length ≤ n) → (xs.flatMap f).length ≤ xs.length * n
  | [], _ => Nat.zero_le _
  | x :: xs, h => by
    have h1 := h x List.mem_cons_self
    have h2 := flat_le xs fun y hy => h y (List.mem_cons_of_mem _ hy)
    rw [List.flatMap_cons, List.length_append, List.length_cons, Nat.add_mul, Nat.one_mul]
    omega
theorem d_orders (fr : Free mg) (hS : DefAt P w K mg base T 2 "_law_shuffled" S_shuffled) (F : FnP K "_law_orders" (top 63) f fd) (g : mg "_law_orders" = some (.ref f)) : DefAt P w K mg base T 3 "_law_orders" S_orders := by
  refine defAt_of F g (ps := ["_law_pen_here", "_law_rows"]) (fun _ _ _ _ _ _ us hl => match us, hl with | [_, _], _ => rfl) (fn_okD F sc63 (fun ds μ Q ⟨_, _, _, _, h, _⟩ => by rw [h]; rfl) fun cdv A outer0 s0 H E ds μ Q hr ⟨pn, p, d, es, e, em, ok, fs, hes, q⟩ => ?_)
  subst e
  refine wss_cons (ws_if (wt_gt (we_len rfl fr.len (we_var 1 rfl ⟨_, fs.sq, we_int ⟨_, _, rfl, rfl, ?_⟩⟩))))
  by_cases h3 : (3 : Int) < (es.length : Int)
  · rw [decide_eq_true h3, if_pos rfl]
    refine wss_one (ws_ret (we_lc 2 sc63.nd rfl (blkOk_by (by kernel_rfl)) (wi_range fr.range (we_int ⟨_, rfl, by decide, by decide, ?_⟩))))
    refine ⟨fun j acc μ' => ∃ L p', acc = L.map ordD ∧ L.length = j ∧ (∀ ms ∈ L, ms.Perm (List.range es.length)) ∧ p.to (20 * j) p' ∧ μ' = mset μ pn (penM p'), ⟨[], p, rfl, rfl, fun _ h => (nomatch h), .refl _ _, (mset_self em).symm⟩, ?_, ?_⟩
    · rintro j d acc μ' ed ⟨L, p1, rfl, hj, hL, t1, rfl⟩ hle sA HA CA clA fpA sB HB CB clB fpB
      have hj8 : j < 8 := (rng_at ed).1
      refine we_call hS hr (wa_two (we_var 0 rfl (we_listRange rfl rfl rfl fr.list fr.range (we_len rfl fr.len (we_var 1 rfl ⟨_, fs.sq, es.length, rfl, by omega, pn, p1, _, List.range es.length, rfl, mset_same, ok.to t1 (k := 20), .lst, by rw [List.length_range]; omega, fun ms p2 hp t2 => ?_⟩)))))
      rw [mset_mset]
      refine ⟨L ++ [ms], p2, by rw [List.map_append]; rfl, by rw [List.length_append, hj]; rfl, fun x hx => ?_, t1.trans t2, rfl⟩
      rcases List.mem_append.mp hx with hx | hx
      · exact hL x hx
      · rw [List.mem_singleton.mp hx]; exact hp
    · rintro acc μ' ⟨L, p1, rfl, hj, hL, t1, rfl⟩ hle
      have h8 : (rngD (8 : Int).toNat).length = 8 := rng_len 8
      rw [h8] at hj t1
      exact q L p1 (by omega) hL (t1.le (by omega))
  rw [decide_eq_false h3, if_neg Bool.false_ne_true]
  have hn : es.length ≤ 3 := by omega
  refine wss_nil ?_
  refine wss_cons (ws_set 3 sc63.nd (we_lst (wa_one (we_lst (wa_nil ⟨Nat.zero_le _, by rw [sizeLine_eq]; decide, ?_⟩)))))
  refine wss_cons (ws_for (ks := [2]) rfl (wi_range fr.range (we_len rfl fr.len (we_var 1 rfl ⟨_, fs.sq, _, rfl, by omega, by omega, fun i G' μ' => ∃ L o2 o4 o5, G' = [some (.ref pn), some d, o2, some (.lst (L.map ordD)), o4, o5, none] ∧ L.length = fac i ∧ (∀ ms ∈ L, ms.Perm (List.range i)) ∧ μ' = μ,
    ⟨[[]], none, none, none, rfl, rfl, fun ms h => by rw [List.mem_singleton.mp h]; exact List.Perm.refl _, rfl⟩, ?_, ?_⟩))))
  · rintro i d1 G' μ' ed ⟨L, o2, o4, o5, rfl, hf, hL, rfl⟩
    obtain ⟨hi, rfl⟩ := rng_at ed
    have hf6 : L.length ≤ 6 ∧ i ≤ 2 := by
      rw [hf]
      match i, (show i < 3 by omega) with
      | 0, _ => decide
      | 1, _ => decide
      | 2, _ => decide
    have hgl : ∀ ms ∈ L, (grown i ms).length = i + 1 := fun ms h => by
      unfold grown
      rw [List.length_map, List.length_range, (hL ms h).length_eq, List.length_range]
    have hall : (L.flatMap (grown i)).length = L.length * (i + 1) := by
      clear hf ed
      induction L with
      | nil => simp
      | cons ms L ih =>
        rw [List.flatMap_cons, List.length_append, hgl ms List.mem_cons_self, ih (fun x hx => hL x (List.mem_cons_of_mem _ hx)) ⟨by have := hf6.1; rw [List.length_cons] at this; omega, hf6.2⟩ fun x hx => hgl x (List.mem_cons_of_mem _ hx), List.length_cons, Nat.add_mul, Nat.one_mul]
        omega
    refine wg_name 2 sc63.nd (wss_cons (ws_set 4 sc63.nd (we_lstM (wa_nil ⟨Nat.zero_le _, fun ll nl => ?_⟩))))
    refine wss_mid (fun G' μ1 => ∃ o5', G' = [some (.ref pn), some d, some (.int (i : Nat)), some (.lst (L.map ordD)), some (.ref ll), o5', none] ∧ μ1 = mset μ' ll (.ml ((L.flatMap (grown i)).map ordD))) ?_ ?_
    · refine ws_for (ks := [5]) rfl (wi_seq (we_var 3 rfl ⟨_, .lst, fun hz => ⟨fun j G' μ1 => ∃ o5', G' = [some (.ref pn), some d, some (.int (i : Nat)), some (.lst (L.map ordD)), some (.ref ll), o5', none] ∧ μ1 = mset μ' ll (.ml (((L.take j).flatMap (grown i)).map ordD)), ⟨o5, rfl, rfl⟩, ?_, ?_⟩⟩))
      · rintro j d1 G' μ1 ed1 ⟨o5', rfl, rfl⟩
        rw [List.getElem?_map] at ed1
        cases ex : L[j]? with
        | none => rw [ex] at ed1; cases ed1
        | some ms =>
          rw [ex] at ed1; cases ed1
          have hms : ms ∈ L := List.mem_of_getElem? ex
          have hml : ms.length = i := by rw [(hL ms hms).length_eq, List.length_range]
          have etk : ((L.take (j + 1)).flatMap (grown i)) = ((L.take j).flatMap (grown i)) ++ grown i ms := by
            rw [List.take_add_one, ex, Option.toList, List.flatMap_append]; simp
          have hsz : ((L.take (j + 1)).flatMap (grown i)).length ≤ 18 := by
            have h1 : ((L.take (j + 1)).flatMap (grown i)).length ≤ (L.take (j + 1)).length * (i + 1) := flat_le _ fun x hx => Nat.le_of_eq (hgl x (List.mem_of_mem_take hx))
            have h2 : (L.take (j + 1)).length ≤ 6 := by rw [List.length_take]; omega
            have h3 := Nat.mul_le_mul h2 (show i + 1 ≤ 3 by omega)
            omega
          refine wg_name 5 sc63.nd (wss_one (ws_expr (we_extend (we_var 4 rfl ⟨ll, rfl, ⟨_, mset_same⟩, we_lc 6 sc63.nd rfl (blkOk_by (by kernel_rfl)) (wi_range fr.range (we_add (we_len rfl fr.len (we_var 5 rfl ⟨_, .lst, we_int ⟨_, _, rfl, rfl, _, rfl, by rw [natsD_len]; omega, by rw [natsD_len]; omega, ?_⟩⟩))))⟩))))
          rw [show (((natsD ms).length : Int) + 1).toNat = ms.length + 1 by rw [natsD_len]; omega]
          refine lc_fm (List.range (ms.length + 1)) (fun n => .int (n : Nat)) (fun _ => true) (fun n => ordD (ms.take n ++ [i] ++ ms.drop n)) ?_ fun n hn s H C cl fp => ⟨rfl, rfl, fun _ s H C cl fp => ?_⟩
          rotate_left
          · refine we_catL (we_catL (we_slL (we_var 5 rfl (wo_none (wo_some (we_var 6 rfl ⟨_, rfl, _, .lst, we_lst (wa_one (we_var 2 rfl ⟨by rw [sizeLine_eq]; show 1 ≤ 16777216; decide, _, _, .lst, .lst, ?_, we_slL (we_var 5 rfl (wo_some (we_var 6 rfl ⟨_, rfl, wo_none ⟨_, .lst, _, _, .lst, .lst, ?_, ?_, rfl⟩⟩)))⟩))⟩))))))
            · rw [natsD_to, natsD_len, List.length_take, sizeLine_eq]; show min n ms.length + 1 ≤ _; omega
            · rw [natsD_to, natsD_from, List.length_append, natsD_len, natsD_len, List.length_take, List.length_drop, sizeLine_eq]; show min n ms.length + 1 + (ms.length - n) ≤ _; omega
            · rw [natsD_to, natsD_from]
              show D.lst (natsD (ms.take n) ++ natsD [i] ++ natsD (ms.drop n)) = _
              rw [natsD_app, natsD_app]; rfl
          · rw [filter_true]
            refine ⟨_, _, mset_same, .lst, ?_, some (ordD ms), ?_, ?_⟩
            · rw [etk, List.length_append] at hsz
              have h1 := hgl ms hms
              rw [List.length_map, List.length_map, List.length_range, sizeLine_eq]
              unfold grown at hsz h1
              rw [List.length_map, List.length_range] at hsz
              unfold grown
              omega
            · rfl
            · rw [mset_mset, etk, List.map_append]
              unfold grown
              rw [List.map_map (g := ordD)]; rfl
      · rintro G' μ1 ⟨o5', rfl, rfl⟩
        rw [List.length_map, List.take_length]
        exact ⟨_, rfl, rfl⟩
    rintro _ _ ⟨o5', rfl, rfl⟩
    refine wss_fixL 4 (l := ll) mset_same rfl ?_
    rw [mdel_mset nl]
    refine wss_one (ws_set 3 sc63.nd (we_var 4 rfl ⟨L.flatMap (grown i), _, _, _, rfl, ?_, ?_, rfl⟩))
    · rw [hall, hf]; rfl
    · intro x hx
      obtain ⟨ms, h1, h2⟩ := List.mem_flatMap.mp hx
      obtain ⟨n, h3, rfl⟩ := List.mem_map.mp h2
      refine (ins_perm ms n i).trans ?_
      rw [List.range_succ]
      exact (hL ms h1).append_right [i]
  · rintro G' μ' ⟨L, o2, o4, o5, rfl, hf, hL, rfl⟩
    rw [rng_len] at hf hL
    rw [Int.toNat_natCast] at hf hL
    have hq := q L p (by
      rw [hf]
      match es.length, hn with
      | 0, _ => decide
      | 1, _ => decide
      | 2, _ => decide
      | 3, _ => decide) hL (.refl _ _)
    rw [mset_self em] at hq
    exact wss_one (ws_ret (we_var 3 rfl hq))
end
end Ws
/-! LJ: what is no order, what is told. -/
namespace Ws
open PySem PyProof.Rows PySem.Spec L2
section
variable {X : Cx} {T : TabL} {G : GE} {μ : Mu} {a b : Expr} {pos : Pos} {Q : D → Mu → Prop}
/-- a + b, a list that changes -/
theorem we_catLM (h : WE X T G μ a fun d1 μ1 => WE X T G μ1 b fun d2 μ2 => ∃ ds es, SqLi μ2 d1 ds ∧ SqLi μ2 d2 es ∧ ds.length + es.length ≤ sizeLine ∧ ∀ p, μ2 p = none → Q (.ref p) (mset μ2 p (.ml (ds ++ es)))) : WE X T G μ (.BinOp a .Add b pos) Q :=
  we_op op_cat (h.mono fun d1 μ1 h1 => h1.mono fun d2 μ2 ⟨ds, es, q1, q2, hz, q⟩ F0 F R H x y s hs r1 r2 => by
    obtain ⟨l, vs, rfl, hq, rr⟩ := q1.at hs r1
    obtain ⟨l', vs', rfl, hq', rr'⟩ := q2.at hs r2
    exact ⟨l, l', vs, vs', rfl, rfl, hq, hq', by rw [← rr.length, ← rr'.length]; exact hz, fun p n => (fin_new hs n (.ml (rr.append rr')) (q p (hs.noM n))).back s⟩)
end
/-- told, but no order of n -/
def NotOrd (n : Nat) (d : D) : Prop := OrdTold d ∧ ¬ ∃ ms : List Nat, FSq d (natsD ms) ∧ ms.Perm (List.range n)
theorem natsD_told (ms : List Nat) : ∀ e ∈ natsD ms, Told e := fun e h => by
  obtain ⟨n, _, rfl⟩ := List.mem_map.mp h
  exact .of rfl
theorem fsq_lst {es ds : List D} (h : FSq (.lst es) ds) : ds = es := by cases h; rfl
theorem fsq_tup {es ds : List D} (h : FSq (.tup es) ds) : ds = es := by cases h; rfl
theorem notOrd_len {n : Nat} {es : List D} (h : ∀ e ∈ es, Told e) (hn : es.length ≠ n) : NotOrd n (.lst es) :=
  ⟨⟨.of rfl, fun ds hd => by rw [fsq_lst hd]; exact h⟩, fun ⟨ms, hf, hp⟩ => hn (by
    rw [← fsq_lst hf, natsD_len, hp.length_eq, List.length_range])⟩
theorem notOrd_mem {n : Nat} {es : List D} (h : ∀ e ∈ es, Told e) {e : D} (he : e ∈ es) (hn : ∀ k : Nat, k < n → e ≠ .int k) : NotOrd n (.lst es) :=
  ⟨⟨.of rfl, fun ds hd => by rw [fsq_lst hd]; exact h⟩, fun ⟨ms, hf, hp⟩ => by
    rw [← fsq_lst hf] at he
    obtain ⟨k, hk, rfl⟩ := List.mem_map.mp he
    exact hn k (List.mem_range.mp (hp.mem_iff.mp hk)) rfl⟩
theorem notOrd_no {n : Nat} {d : D} (h : Told d) (hn : ∀ ds, ¬ FSq d ds) : NotOrd n d := ⟨⟨h, fun ds hd => absurd hd (hn ds)⟩, fun ⟨ms, hf, _⟩ => hn _ hf⟩
theorem natsD_from1 (ms : List Nat) (k : Nat) : cutD (natsD ms) (some ((k : Int) + 1)) none = natsD (ms.drop (k + 1)) := natsD_from ms (k + 1)
section
variable {P : Program} {w : World} {K : PySem.W.Frag} {mg : Str → Option Value} {base : Heap} {T : TabS} {f : Addr} {fd : FuncData}
/-! ### _law_none -/
theorem sc64 : FnScope ["_law_pen_here", "_law_order", "_law_at", "_law_some", "_law_odd", "_law_k"] ["_law_pen_here", "_law_order"] (defScope (top 64)) := ⟨rfl, rfl, rfl, by decide +kernel, rfl, by decide +kernel, by decide +kernel⟩
def S_none : DSp := fun ds μ Q => ∃ pn p, ∃ ms : List Nat, ∃ n : Nat, ds = [.ref pn, ordD ms] ∧ μ pn = some (penM p) ∧ PenR p 1 ∧ ms.Perm (List.range n) ∧ 0 < n ∧ n ≤ 20 ∧ ∀ (things : List D) p', things.length ≤ 30 → (∀ d ∈ things, NotOrd n d) → p.to 1 p' → Q (.lst things) (mset μ pn (penM p'))
def odds (m : Nat) : List D := [.int (-1), .non, .str (toString (m : Int)), .lst [.int m], .tup [.int 0]]
def things1 (A B ms : List Nat) (m n : Nat) : List D := [.lst (natsD A ++ natsD B), .lst (natsD ms ++ [.int m]), .lst (natsD A ++ [.int n] ++ natsD B)]
def things2 (A B : List Nat) (m : Nat) : List D := (odds m).map fun o => .lst (natsD A ++ [o] ++ natsD B)
def things3 (ms : List Nat) : List D := [.lst [], .tup [], .non, .int 0, .str "0", .dic [], .dic [(.inl 0, .bl true)], .lst (List.replicate ms.length [D.non]).flatten, .lst (natsD ms ++ [.int (-1)])]
def bitD (k : Nat) : D := if k < 2 then .bl (k != 0) else .int k
def things4 (ms : List Nat) : List D := [.lst (ms.map bitD)]
theorem things_no {n k : Nat} {ms : List Nat} (hp : ms.Perm (List.range n)) (hn : 0 < n) (hk : k < ms.length) {m : Nat} : ∀ d ∈ things1 (ms.take k) (ms.drop (k + 1)) ms m n ++ things2 (ms.take k) (ms.drop (k + 1)) m ++ things3 ms ++ things4 ms, NotOrd n d := by
  have hl : ms.length = n := by rw [hp.length_eq, List.length_range]
  have ta := natsD_told (ms.take k)
  have tb := natsD_told (ms.drop (k + 1))
  have tm := natsD_told ms
  have lab : (natsD (ms.take k)).length + (natsD (ms.drop (k + 1))).length + 1 = n := by rw [natsD_len, natsD_len, List.length_take, List.length_drop]; omega
  have tab : ∀ o : D, Told o → ∀ e ∈ natsD (ms.take k) ++ [o] ++ natsD (ms.drop (k + 1)), Told e := fun o ho e he => by
    rcases List.mem_append.mp he with he | he
    · rcases List.mem_append.mp he with he | he
      · exact ta e he
      · rw [List.mem_singleton.mp he]; exact ho
    · exact tb e he
  have mab : ∀ o : D, o ∈ natsD (ms.take k) ++ [o] ++ natsD (ms.drop (k + 1)) := fun o => List.mem_append_left _ (List.mem_append_right _ List.mem_cons_self)
  have tms : ∀ o : D, Told o → ∀ e ∈ natsD ms ++ [o], Told e := fun o ho e he => by
    rcases List.mem_append.mp he with he | he
    · exact tm e he
    · rw [List.mem_singleton.mp he]; exact ho
  intro d hd
  rcases List.mem_append.mp hd with hd | hd
  · rcases List.mem_append.mp hd with hd | hd
    · rcases List.mem_append.mp hd with hd | hd
      · unfold things1 at hd
        simp only [List.mem_cons, List.not_mem_nil, or_false] at hd
        rcases hd with rfl | rfl | rfl
        · refine notOrd_len (fun e he => (List.mem_append.mp he).elim (ta e) (tb e)) ?_
          rw [List.length_append]; omega
        · refine notOrd_len (tms _ (.of rfl)) ?_
          rw [List.length_append, natsD_len, List.length_singleton]; omega
        · exact notOrd_mem (tab _ (.of rfl)) (mab _) fun j hj e => by cases e; omega
      · unfold things2 at hd
        obtain ⟨o, ho, rfl⟩ := List.mem_map.mp hd
        unfold odds at ho
        simp only [List.mem_cons, List.not_mem_nil, or_false] at ho
        rcases ho with rfl | rfl | rfl | rfl | rfl
        · exact notOrd_mem (tab _ (.of rfl)) (mab _) fun j hj e => by have := D.int.inj e; omega
        · exact notOrd_mem (tab _ (.of rfl)) (mab _) fun j hj e => by cases e
        · exact notOrd_mem (tab _ (.of rfl)) (mab _) fun j hj e => by cases e
        · exact notOrd_mem (tab _ (.of rfl)) (mab _) fun j hj e => by cases e
        · exact notOrd_mem (tab _ .tup) (mab _) fun j hj e => by cases e
    · unfold things3 at hd
      simp only [List.mem_cons, List.not_mem_nil, or_false] at hd
      rcases hd with rfl | rfl | rfl | rfl | rfl | rfl | rfl | rfl | rfl
      · exact notOrd_len (fun _ h => (nomatch h)) (by rw [List.length_nil]; omega)
      · exact ⟨⟨.tup, fun ds hd => by rw [fsq_tup hd]; exact fun _ h => (nomatch h)⟩, fun ⟨ns, hf, hq⟩ => by
          have h1 := fsq_tup hf
          have h2 := congrArg List.length h1
          rw [natsD_len, hq.length_eq, List.length_range, List.length_nil] at h2
          omega⟩
      · exact notOrd_no (.of rfl) fun ds h => by cases h
      · exact notOrd_no (.of rfl) fun ds h => by cases h
      · exact notOrd_no (.of rfl) fun ds h => by cases h
      · exact notOrd_no (.of rfl) fun ds h => by cases h
      · exact notOrd_no (.of rfl) fun ds h => by cases h
      · have hmem : ∀ e ∈ (List.replicate ms.length [D.non]).flatten, e = .non := fun e he => by
          obtain ⟨l, h1, h2⟩ := List.mem_flatten.mp he
          rw [List.eq_of_mem_replicate h1] at h2
          exact List.mem_singleton.mp h2
        refine notOrd_mem (e := .non) (fun e he => by rw [hmem e he]; exact .of rfl) ?_ fun j hj e => by cases e
        exact List.mem_flatten.mpr ⟨[.non], List.mem_replicate.mpr ⟨by omega, rfl⟩, List.mem_cons_self⟩
      · refine notOrd_len (tms _ (.of rfl)) ?_
        rw [List.length_append, natsD_len, List.length_singleton]; omega
  · unfold things4 at hd
    rw [List.mem_singleton.mp hd]
    refine notOrd_mem (e := .bl false) (fun e he => ?_) ?_ fun j hj e => by cases e
    · obtain ⟨j, _, rfl⟩ := List.mem_map.mp he
      unfold bitD
      split <;> exact .of rfl
    · exact List.mem_map.mpr ⟨0, hp.mem_iff.mpr (List.mem_range.mpr hn), rfl⟩
theorem d_none (fr : Free mg) (hD : DefAt P w K mg base T 1 "_law_draw" S_draw) (F : FnP K "_law_none" (top 64) f fd) (g : mg "_law_none" = some (.ref f)) : DefAt P w K mg base T 2 "_law_none" S_none := by
  refine defAt_of F g (ps := ["_law_pen_here", "_law_order"]) (fun _ _ _ _ _ _ us hl => match us, hl with | [_, _], _ => rfl) (fn_okD F sc64 (fun ds μ Q ⟨_, _, _, _, h, _⟩ => by rw [h]; rfl) fun cdv A outer0 s0 H E ds μ Q hr ⟨pn, p, ms, n, e, em, ok, hp, hn, hn2, q⟩ => ?_)
  subst e
  have hl : ms.length = n := by rw [hp.length_eq, List.length_range]
  refine wss_cons (ws_set 2 sc64.nd (we_call hD hr (wa_two (we_var 0 rfl (we_len rfl fr.len (we_var 1 rfl ⟨_, .lst, pn, p, n, by rw [natsD_len, hl], em, ok.ok, hn, by omega, fun k p1 hk t1 => ?_⟩))))))
  have hk' : k < ms.length := by omega
  have hno := things_no hp hn hk' (m := ms[k])
  have hat : atI (natsD ms) (k : Int) = some (.int (ms[k] : Nat)) := by rw [atI_nat, natsD_at, List.getElem?_eq_getElem hk']; rfl
  have hmk : ms[k] < n := List.mem_range.mp (hp.mem_iff.mp (List.getElem_mem hk'))
  have l1 : (natsD (ms.take k)).length ≤ 20 := by rw [natsD_len, List.length_take]; omega
  have l2 : (natsD (ms.drop (k + 1))).length ≤ 20 := by rw [natsD_len, List.length_drop]; omega
  have l3 : (natsD ms).length ≤ 20 := by rw [natsD_len]; omega
  have e1 : cutD (natsD ms) none (some (k : Int)) = natsD (ms.take k) := natsD_to ms k
  have e2 : cutD (natsD ms) (some ((k : Int) + 1)) none = natsD (ms.drop (k + 1)) := natsD_from1 ms k
  generalize ha : natsD (ms.take k) = tA at l1 e1
  generalize hb : natsD (ms.drop (k + 1)) = tB at l2 e2
  -- the first three
  refine wss_cons (ws_set 3 sc64.nd (we_lst (wa_cons (we_catL (we_slL (we_var 1 rfl (wo_none (wo_some (we_var 2 rfl ⟨_, rfl, _, .lst, we_slL (we_var 1 rfl (wo_some (we_add (we_var 2 rfl (we_int ⟨_, _, rfl, rfl, _, rfl, wo_none ⟨_, .lst, _, _, .lst, .lst, ?_, ?_⟩⟩)))))⟩)))))))))
  · rw [e1, e2, sizeLine_eq]; omega
  refine wa_cons (we_catL (we_var 1 rfl (we_lst (wa_one (we_ix (we_var 1 rfl (we_var 2 rfl ⟨_, _, _, .lst, rfl, hat, by rw [sizeLine_eq]; show 1 ≤ 16777216; decide, _, _, .lst, .lst, ?_, ?_⟩)))))))
  · rw [sizeLine_eq]; show _ + 1 ≤ _; omega
  refine wa_one (we_catL (we_catL (we_slL (we_var 1 rfl (wo_none (wo_some (we_var 2 rfl ⟨_, rfl, _, .lst, we_lst (wa_one (we_len rfl fr.len (we_var 1 rfl ⟨_, .lst, by rw [sizeLine_eq]; show 1 ≤ 16777216; decide, _, _, .lst, .lst, ?_, we_slL (we_var 1 rfl (wo_some (we_add (we_var 2 rfl (we_int ⟨_, _, rfl, rfl, _, rfl, wo_none ⟨_, .lst, _, _, .lst, .lst, ?_, by rw [sizeLine_eq]; show 3 ≤ 16777216; decide, ?_⟩⟩)))))⟩)))⟩)))))))
  · rw [e1, sizeLine_eq]; show _ + 1 ≤ _; omega
  · rw [e1, e2, List.length_append, sizeLine_eq]; show _ + 1 + _ ≤ _; omega
  rw [e1, e2, natsD_len, hl]
  -- the odd ones
  have hlog : ((ms[k] : Nat) : Int).natAbs.log2 < 1920 := by
    rw [Int.natAbs_natCast]
    have h1 : ms[k] ≤ 20 := by omega
    have h2 : ms[k].log2 ≤ ms[k] := Nat.log2_le_self _
    omega
  refine wss_cons (ws_set 3 sc64.nd (we_catL (we_var 3 rfl (we_lc 4 sc64.nd rfl (blkOk_by (by kernel_rfl)) (wi_seq (we_lst (wa_cons (we_neg (we_int ⟨_, rfl, wa_cons (we_non (wa_cons (we_strI rfl fr.str (we_ix (we_var 1 rfl (we_var 2 rfl ⟨_, _, _, .lst, rfl, hat, _, rfl, hlog, ?_⟩))))))⟩)))))))))
  refine wa_cons (we_lst (wa_one (we_ix (we_var 1 rfl (we_var 2 rfl ⟨_, _, _, .lst, rfl, hat, by rw [sizeLine_eq]; show 1 ≤ 16777216; decide, wa_one (we_tup (wa_one (we_int ⟨by rw [sizeLine_eq]; show 1 ≤ 16777216; decide, by rw [sizeLine_eq]; show 5 ≤ 16777216; decide, odds ms[k], .lst, fun _ => ?_⟩)))⟩)))))
  have hid : (odds ms[k]).map id = odds ms[k] := List.map_id _
  rw [← hid]
  refine lc_fm (odds ms[k]) id (fun _ => true) (fun o => .lst (tA ++ [o] ++ tB)) ?_ fun o ho s H C cl fp => ⟨rfl, rfl, fun _ s H C cl fp => ?_⟩
  rotate_left
  · refine we_catL (we_catL (we_slL (we_var 1 rfl (wo_none (wo_some (we_var 2 rfl ⟨_, rfl, _, .lst, we_lst (wa_one (we_var 4 rfl ⟨by rw [sizeLine_eq]; show 1 ≤ 16777216; decide, _, _, .lst, .lst, ?_, we_slL (we_var 1 rfl (wo_some (we_add (we_var 2 rfl (we_int ⟨_, _, rfl, rfl, _, rfl, wo_none ⟨_, .lst, _, _, .lst, .lst, ?_, ?_, rfl⟩⟩)))))⟩))⟩))))))
    · rw [e1, sizeLine_eq]; show _ + 1 ≤ _; omega
    · rw [e1, e2, List.length_append, sizeLine_eq]; show _ + 1 + _ ≤ _; omega
    · rw [e1, e2]; rfl
  rw [filter_true]
  refine ⟨_, _, .lst, .lst, by rw [sizeLine_eq, List.length_map]; show 3 + 5 ≤ 16777216; decide, ?_⟩
  -- and more
  refine wss_cons (ws_set 3 sc64.nd (we_catLM (we_var 3 rfl (we_lst (wa_cons (we_lst (wa_nil ⟨Nat.zero_le _, wa_cons (we_tup (wa_nil ⟨Nat.zero_le _, wa_cons (we_non (wa_cons (we_int (wa_cons (we_str (wa_cons (we_dict0 (wa_cons (we_disp rfl rfl (by simp) (by decide) (wps_cons (.inl 0) (we_int ⟨rfl, we_bl (wps_nil (wa_cons (we_repL (we_lst (wa_one (we_non ⟨by rw [sizeLine_eq]; show 1 ≤ 16777216; decide, we_len rfl fr.len (we_var 1 rfl ⟨_, .lst, _, ((natsD ms).length : Int), .lst, rfl, by omega, by omega, ?_, wa_one (we_catL (we_var 1 rfl (we_lst (wa_one (we_neg (we_int ⟨_, rfl, by rw [sizeLine_eq]; show 1 ≤ 16777216; decide, _, _, .lst, .lst, ?_, by rw [sizeLine_eq]; show 9 ≤ 16777216; decide, _, _, .lst, .lst, ?_, fun sl ns => ?_⟩))))))⟩)⟩))))))⟩)))))))))))⟩))⟩)))))))
  · rw [Int.toNat_natCast, sizeLine_eq]; show 1 * _ ≤ _; omega
  · rw [sizeLine_eq]; show _ + 1 ≤ _; omega
  · rw [List.length_append, sizeLine_eq, List.length_map]; show 3 + 5 + 9 ≤ 16777216; decide
  have sp : sl ≠ pn := by rintro rfl; rw [mset_same] at ns; cases ns
  have ns0 : μ sl = none := by rw [mset_ne sp] at ns; exact ns
  refine wss_cons (ws_expr (we_append (we_var 3 rfl ⟨sl, rfl, ⟨_, mset_same⟩, we_lc 5 sc64.nd rfl (blkOk_by (by kernel_rfl)) (wi_seq (we_var 1 rfl ⟨_, .lst, fun _ => ?_⟩))⟩)))
  refine lc_fm ms (fun n => .int (n : Nat)) (fun _ => true) bitD ?_ fun j hj s H C cl fp => ⟨rfl, rfl, fun _ s H C cl fp => ?_⟩
  rotate_left
  · refine we_if (wt_lt (we_var 5 rfl (we_int ⟨_, _, rfl, rfl, ?_⟩)))
    by_cases hj2 : ((j : Nat) : Int) < 2
    · rw [decide_eq_true hj2, if_pos rfl]
      match j, (show j < 2 by omega) with
      | 0, _ => exact we_ix (we_lst (wa_cons (we_bl (wa_one (we_bl ⟨by rw [sizeLine_eq]; show 2 ≤ 16777216; decide, we_intB rfl fr.int (we_eq (we_var 5 rfl (we_int ⟨true, rfl, _, rfl, _, _, _, .lst, rfl, rfl, rfl, rfl⟩)))⟩)))))
      | 1, _ => exact we_ix (we_lst (wa_cons (we_bl (wa_one (we_bl ⟨by rw [sizeLine_eq]; show 2 ≤ 16777216; decide, we_intB rfl fr.int (we_eq (we_var 5 rfl (we_int ⟨false, rfl, _, rfl, _, _, _, .lst, rfl, rfl, rfl, rfl⟩)))⟩)))))
    · rw [decide_eq_false hj2, if_neg Bool.false_ne_true]
      refine we_var 5 rfl ⟨?_, rfl⟩
      unfold bitD
      rw [if_neg (by omega)]
  rw [filter_true]
  refine ⟨_, mset_same, ?_, ?_⟩
  · rw [List.length_append, List.length_append, sizeLine_eq, List.length_map]; show 3 + 5 + 9 < 16777216; decide
  rw [mset_mset]
  refine wss_fixL 3 (l := sl) mset_same rfl ?_
  rw [mdel_mset ns]
  refine wss_one (ws_ret (we_var 3 rfl (q _ p1 ?_ ?_ t1)))
  · rw [List.length_append, List.length_append, List.length_append, List.length_map]; show 3 + 5 + 9 + 1 ≤ 30; decide
  · unfold things1 things2 things3 things4 at hno
    rw [ha, hb] at hno
    rw [natsD_len, Int.toNat_natCast]
    exact hno
/-! ### _law_told -/
theorem sc65 : FnScope ["_law_engine", "_law_question_here", "_law_order", "_law_error", "_law_found", "e"] ["_law_engine", "_law_question_here", "_law_order"] (defScope (top 65)) := ⟨rfl, rfl, rfl, by decide +kernel, rfl, by decide +kernel, by decide +kernel⟩
def S_told (C : Addr) : DSp := fun ds μ Q => ∃ d W shown rs od ys0, ds = [d, dQ shown rs, od] ∧ WebAt C μ d W ∧ WbOk W ∧ QOk shown rs ∧ FewK W rs ∧ AllBound rs ∧ OrdTold od ∧ ys0.Perm (varsIn (outer rs)) ∧
  (OrdOk rs od → ∀ ys, AnsOf ((allB W rs ys0).map (shownOf shown)) ys → Q (.lst (ys.map tupI)) μ) ∧ (¬ OrdOk rs od → Q (.str "none") μ)
theorem d_told {C NP : Addr} (Z : Prg P w K mg base T C NP) (F : FnP K "_law_told" (top 65) f fd) (g : mg "_law_told" = some (.ref f)) : DefAt P w K mg base T 17 "_law_told" (S_told C) := by
  refine defAt_of F g (ps := ["_law_engine", "_law_question_here", "_law_order"]) (fun _ _ _ _ _ _ us hl => match us, hl with | [_, _, _], _ => rfl) (fn_okD F sc65 (fun ds μ Q ⟨_, _, _, _, _, _, h, _⟩ => by rw [h]; rfl) fun cdv A outer0 s0 H E ds μ Q hr ⟨d, W, sh, rs, od, ys0, e, wa, ok, qok, fk, ab, ot, hy0, hyes, hno⟩ => ?_)
  subst e
  refine wss_cons (ws_set 3 sc65.nd (we_non ?_))
  refine wss_try (i := 5) (C := NP) (c := .ref NP) (fun μ1 => μ1 = μ ∧ ¬ OrdOk rs od) rfl rfl sc65.nd rfl rfl rfl ⟨rfl, by decide, .inl Z.np⟩ Z.exm (fun pn xe lb rb tk po => ?_) (fun a oe pn T' μ' hT h => ?_)
  · refine wss_one (ws_set 4 sc65.nd (we_callX Z.ansBy hr tk (wa_cons (we_var 0 rfl (wa_two (we_var 1 rfl (we_var 2 rfl ⟨d, W, sh, rs, od, ys0, rfl, wa, ok, qok, fk, ab, ot, hy0, fun ho ys ha => ?_, fun hn => ⟨rfl, hn⟩⟩)))))))
    refine wss_cons (ws_if (wt_isN (we_var 3 rfl ⟨true, fun _ => rfl, fun h => absurd rfl h, ?_⟩)))
    exact wss_one (ws_ret (we_var 4 rfl (hyes ho ys ha)))
  · obtain ⟨rfl, hn⟩ := h
    refine wss_one (ws_set 3 sc65.nd (we_var 5 rfl fun lb hlb => ?_))
    refine wss_cons (ws_if (wt_isN (we_var 3 rfl ⟨false, (fun h => nomatch h), fun _ => rfl, ?_⟩)))
    refine wss_nil ?_
    exact wss_one (ws_ret (we_ifT (wt_val (we_isiE rfl Z.fr.isinstance (we_var 3 rfl (we_ty Z.ae rfl ⟨a, NP, _, true, rfl, hlb, Z.exc, rfl, Z.kit, true, rfl, rfl, we_str (hno hn)⟩))))))
end
end Ws
/-! LK: filled questions, the pen's making, the law. -/
namespace Ws
open PySem PyProof.Rows PySem.Spec L2
theorem bound_same {rs rs' : List Row} (h : ∀ r, r ∈ rs' ↔ r ∈ rs) (x : Str) : x ∈ boundIn (outer rs') ↔ x ∈ boundIn (outer rs) := by
  rw [boundIn_mem, boundIn_mem]
  exact ⟨fun ⟨r, a, b⟩ => ⟨r, (h r).mp a, b⟩, fun ⟨r, a, b⟩ => ⟨r, (h r).mpr a, b⟩⟩
theorem QF.same {U shown : List Str} {rs rs' : List Row} (q : QF U shown rs) (h : ∀ r, r ∈ rs' ↔ r ∈ rs) (l1 : 1 ≤ rs'.length) (l8 : rs'.length ≤ 8) : QF U shown rs' :=
  ⟨fun r hr => q.fine r ((h r).mp hr), l1, l8, fun r hr => q.vars r ((h r).mp hr), fun r hr hP x hx => (bound_same h x).mpr (q.bound r ((h r).mp hr) hP x hx), fun x hx => by
    obtain ⟨r, a, b⟩ := (vin_mem _ x).mp (q.sh x hx)
    obtain ⟨c, d⟩ := List.mem_filter.mp a
    exact (vin_mem _ x).mpr ⟨r, List.mem_filter.mpr ⟨(h r).mpr c, d⟩, b⟩, q.s4⟩
theorem rows_to (rs : List Row) (k : Nat) : cutD (rs.map dRow) none (some (k : Int)) = (rs.take k).map dRow := by rw [cutD_map, cut_to]
theorem rows_from (rs : List Row) (k : Nat) : cutD (rs.map dRow) (some (k : Int)) none = (rs.drop k).map dRow := by rw [cutD_map, cut_from]
section
variable {P : Program} {w : World} {K : PySem.W.Frag} {mg : Str → Option Value} {base : Heap} {T : TabS} {f : Addr} {fd : FuncData}
/-! ### _law_filled -/
theorem sc66 : FnScope ["_law_pen_here", "_law_question_here", "_law_rows", "_law_some", "_law_row_here", "_law_at"] ["_law_pen_here", "_law_question_here"] (defScope (top 66)) := ⟨rfl, rfl, rfl, by decide +kernel, rfl, by decide +kernel, by decide +kernel⟩
def S_filled : DSp := fun ds μ Q => ∃ pn p shown rs, ds = [.ref pn, dQ shown rs] ∧ μ pn = some (penM p) ∧ PenR p 20 ∧ rs.length ≤ 8 ∧ (∃ r ∈ rs, r.isP = true) ∧ ∀ rs' p', (∀ r, r ∈ rs' ↔ r ∈ rs) → 1 ≤ rs'.length → rs'.length ≤ 8 → p.to 20 p' → Q (dQ shown rs') (mset μ pn (penM p'))
theorem d_filled (fr : Free mg) (hD : DefAt P w K mg base T 1 "_law_draw" S_draw) (hP : DefAt P w K mg base T 2 "_law_pick" S_pick) (F : FnP K "_law_filled" (top 66) f fd) (g : mg "_law_filled" = some (.ref f)) : DefAt P w K mg base T 3 "_law_filled" S_filled := by
  refine defAt_of F g (ps := ["_law_pen_here", "_law_question_here"]) (fun _ _ _ _ _ _ us hl => match us, hl with | [_, _], _ => rfl) (fn_okD F sc66 (fun ds μ Q ⟨_, _, _, _, h, _⟩ => by rw [h]; rfl) fun cdv A outer0 s0 H E ds μ Q hr ⟨pn, p, shown, rs, e, em, ok, l8, ⟨r0, hr0, hP0⟩, q⟩ => ?_)
  subst e
  refine wss_cons (ws_set 2 sc66.nd (we_ix (we_var 1 rfl (we_int ⟨_, _, .tup (rs.map dRow), .tup, rfl, rfl, ?_⟩))))
  refine wss_cons (ws_lc 3 4 sc66.nd rfl (blkOk_by (by kernel_rfl)) (wi_seq (we_var 2 rfl ⟨_, .tup, fun hz => ?_⟩)))
  refine lc_fm rs dRow Row.isP dRow ?_ fun r _ s H C cl fp => ?_
  rotate_left
  · refine wt_ne (we_ix (we_var 4 rfl (we_int ⟨_, _, _, .tup, rfl, atI_zero, we_str ⟨_, scal_str, ?_, rfl, fun hp s H C cl fp => we_var 4 rfl ⟨rfl, rfl⟩⟩⟩)))
    rw [kd_no]; simp
  have hin : r0 ∈ rs.filter Row.isP := List.mem_filter.mpr ⟨hr0, hP0⟩
  have hne : (rs.filter Row.isP).map dRow ≠ [] := fun h => by
    rw [List.map_eq_nil_iff] at h
    rw [h] at hin; cases hin
  have hfl := List.length_filter_le Row.isP rs
  have h1 : 1 ≤ rs.length := List.length_pos_iff.mpr fun h => by rw [h] at hr0; cases hr0
  refine wss_cons (ws_while (fun n G' μ' => ∃ cur o5 p', n + cur.length = 8 ∧ G' = [some (.ref pn), some (dQ shown rs), some (.tup (cur.map dRow)), some (.lst ((rs.filter Row.isP).map dRow)), none, o5] ∧ (∀ r, r ∈ cur ↔ r ∈ rs) ∧ 1 ≤ cur.length ∧ p.to (2 * (cur.length - rs.length)) p' ∧ rs.length ≤ cur.length ∧ μ' = mset μ pn (penM p')) (8 - rs.length) ⟨rs, none, p, by omega, rfl, fun _ => Iff.rfl, h1, .refl _ _, Nat.le_refl _, (mset_self em).symm⟩ ?_)
  rintro n _ _ ⟨cur, o5, p1, hn, rfl, hm, hc1, t1, hle, rfl⟩
  refine wt_lt (we_len rfl fr.len (we_var 2 rfl ⟨_, .tup, we_int ⟨_, _, rfl, rfl, ?_⟩⟩))
  rw [List.length_map]
  by_cases h8 : (cur.length : Int) < 8
  · rw [decide_eq_true h8, if_pos rfl]
    refine wss_cons (ws_set 5 sc66.nd (we_call hD hr (wa_two (we_var 0 rfl (we_add (we_len rfl fr.len (we_var 2 rfl ⟨_, .tup, we_int ⟨_, _, rfl, rfl, pn, p1, cur.length + 1, by rw [List.length_map]; rfl, mset_same, (ok.to t1 (k := 2)).ok, by omega, by omega, fun k p2 hk t2 => ?_⟩⟩)))))))
    rw [mset_mset]
    have t3 := t1.trans t2 (k := 2 * (cur.length - rs.length) + 1)
    refine wss_one (ws_set 2 sc66.nd (we_catT (we_catT (we_slT (we_var 2 rfl (wo_none (wo_some (we_var 5 rfl ⟨_, rfl, _, rfl, we_tup (wa_one (we_call hP hr (wa_two (we_var 0 rfl (we_var 3 rfl ⟨pn, p2, _, _, rfl, mset_same, ok.to t3 (k := 1), .lst, hne, by rw [List.length_map]; omega, fun e he p3 t4 => ?_⟩)))))⟩))))))))
    rw [mset_mset]
    obtain ⟨r, hrr, rfl⟩ := List.mem_map.mp he
    refine ⟨by rw [sizeLine_eq]; show 1 ≤ 16777216; decide, _, _, rfl, rfl, ?_, we_slT (we_var 2 rfl (wo_some (we_var 5 rfl ⟨_, rfl, wo_none ⟨_, rfl, _, _, rfl, rfl, ?_, ?_⟩⟩)))⟩
    · rw [rows_to, List.length_map, List.length_take, sizeLine_eq]; show _ + 1 ≤ _; omega
    · rw [rows_to, rows_from, List.length_append, List.length_map, List.length_map, List.length_take, List.length_drop, sizeLine_eq]; show _ + 1 + _ ≤ _; omega
    rw [rows_to, rows_from]
    have hlen : (cur.take k ++ [r] ++ cur.drop k).length = cur.length + 1 := by
      rw [List.length_append, List.length_append, List.length_take, List.length_drop, List.length_singleton]; omega
    refine ⟨n - 1, by omega, cur.take k ++ [r] ++ cur.drop k, _, p3, by rw [hlen]; omega, by rw [List.map_append, List.map_append]; rfl, fun x => ?_, by rw [hlen]; omega, t3.trans t4 (by rw [hlen]; omega), by rw [hlen]; omega, rfl⟩
    rw [← hm x]
    have e1 : x ∈ cur ↔ x ∈ cur.take k ∨ x ∈ cur.drop k := by rw [← List.mem_append, List.take_append_drop]
    rw [List.mem_append, List.mem_append, List.mem_singleton, e1]
    constructor
    · rintro ((h | h) | h)
      · exact .inl h
      · subst h; exact e1.mp ((hm x).mpr (List.mem_filter.mp hrr).1)
      · exact .inr h
    · rintro (h | h)
      · exact .inl (.inl h)
      · exact .inr h
  · rw [decide_eq_false h8, if_neg Bool.false_ne_true]
    refine wss_one (ws_ret (we_tup (wa_two (we_ix (we_var 1 rfl (we_int ⟨_, _, .tup (shown.map .str), .tup, rfl, rfl, we_var 2 rfl ⟨by rw [sizeLine_eq]; show 2 ≤ 16777216; decide, q cur p1 hm hc1 (by omega) (t1.le (by omega))⟩⟩))))))
end
end Ws
/-! LL: promises that see what others own; the pen's making. -/
namespace Ws
open PySem PyProof.Rows PySem.Spec L2
/-! ### promises that see what others own -/
def SpR (K : PySem.W.Frag) (T : TabS) (S : Hp → DSp) : Sp := fun vs H Q _ => ∃ F μ R ds P, Hs K (tab0 T) F μ R H ∧ Reps K F ds vs ∧ S R ds μ P ∧ ∀ v H', Fin K (tab0 T) F R P v H' → Q v H'
structure DefAtR (P : Program) (w : World) (K : PySem.W.Frag) (mg : Str → Option Value) (base : Heap) (T : TabS) (k : Nat) (x : Str) (S : Hp → DSp) : Prop where
  ex : ∃ f fd ps, mg x = some (.ref f) ∧ PySem.W.keepIn K (.ref f) = true ∧ Binds K fd ps [] ∧ FnOk P w K mg base CX0 k f fd ps (SpR K T S)
theorem fn_okR {P : Program} {w : World} {K : PySem.W.Frag} {mg : Str → Option Value} {base : Heap} {T : TabS} {x qual : Str} {params : Arguments} {body : List Stmt} {scope : Scope} {dvs : List V} {kws : List (Str × V)} {f : Addr} {fd : FuncData} {N ps : List Str} {k : Nat} {S : Hp → DSp}
    (F : FunD K x qual params body scope dvs kws f fd) (sc : FnScope N ps scope) (len : ∀ R ds μ Q, S R ds μ Q → ds.length = ps.length)
    (hbody : ∀ (cdv : Value) (A : Around) (outer : List Env) (s : Shared) (H : Hp) (E : XK) (ds : List D) (μ : Mu) (Q : D → Mu → Prop) (lb rb : Hp), Room k (A.deeper (envOfC qual scope s.heap.objs.size f cdv)) → S rb ds μ Q →
      WSs (cxOf CX0 P w K mg base N qual scope f cdv A outer s H E).nox ⟨T, lb, rb⟩ (startG N ds) μ body { nx := fun _ μ' => Q .non μ', rt := Q }) : FnOk P w K mg base CX0 (k + 1) f fd ps (SpR K T S) := by
  refine F.ok sc (fun vs H Q E h => ?_) (fun cdv A outer s H vs Q E hr h => ?_)
  · obtain ⟨F, μ, R, ds, P', h1, h2, h3, _⟩ := h
    rw [← h2.length]; exact len _ _ _ _ h3
  · obtain ⟨F', μ, R, ds, P', h1, h2, h3, h4⟩ := h
    refine ⟨_, (pssW body).nox, ?_⟩
    have q := hbody cdv A outer s H E ds μ P' F' R hr h3 F' R H (start N vs) (h1.up (T := ⟨T, F', R⟩) (Same.refl _) (Same.refl _)) (envr_start h2)
    exact wSs_mono q ⟨fun σ' H' ⟨F2, G2, μ2, a, b, c, d⟩ => h4 _ _ ⟨F2, .non, μ2, a.base, b, .non, d⟩, fun v H' ⟨F2, d2, μ2, a, b, c, d⟩ => h4 v H' ⟨F2, d2, μ2, a.base, b, c, d⟩, fun _ _ ⟨_, _, _, _, _, _, z⟩ => z, fun _ _ ⟨_, _, _, _, _, _, z⟩ => z⟩
section
variable {X : Cx} {T : TabL} {G : GE} {μ : Mu} {pos p p2 : Pos} {e : Expr} {es : List Expr} {lo hi : Option Expr} {Q : D → Mu → Prop} {E : DE}
theorem we_callR {k j : Nat} {x : Str} {S : Hp → DSp} (d : DefAtR X.prog X.w X.K X.mg X.base T.l k x S) (hm2 : ∀ R R' ds μ Q, Same R R' → S R ds μ Q → S R' ds μ Q) (hr : Room j X.A) (h : WA X T G μ (e :: es) fun ds μ1 => S T.rb ds μ1 Q) (hk : k ≤ j := by decide) (hg : Gl X x := by rfl) (hdb : (x == ("__debug__" : Str)) = false := by decide)
    (he : starEach (e :: es) X.env = (false, eval e X.env) :: starEach es X.env := by rfl) (hpl : (backTo pos (starEach es X.env)).any (·.1) = false := by rfl) : WE X T G μ (.Call (.Name x p) (e :: es) [] pos) Q := by
  obtain ⟨f, fd, ps, hm, hkp, hb, F⟩ := d.ex
  refine WE.of (pe_call F (hr.mono hk) hg hm hkp hb .nil pass0 (paW (e :: es)) hdb he hpl) fun F R H σ hs hv => wA_mono (h F R H σ hs hv) fun vs H1 ⟨F1, ds, μ1, hs1, s1, r, q⟩ => ?_
  exact ⟨F1, μ1, R, ds, Q, hs1.base, by rw [List.append_nil]; exact r, hm2 _ _ _ _ _ hs1.rb q, fun v H' z => (z.up hs1.lb hs1.rb).back s1⟩
theorem sql_up {K : PySem.W.Frag} {R H : Hp} {a : Addr} {xs : List V} (h : SqL K R a xs) (m : ∀ b o, R b = some o → H b = some o) : SqL K H a xs := by
  rcases h with (h | ⟨o, h⟩) | h
  · exact .inl (.inl (m _ _ h))
  · exact .inl (.inr ⟨o, m _ _ h⟩)
  · exact .inr h
theorem reps_ints {K : PySem.W.Frag} {F : Hp} : ∀ ns : List Int, Reps K F (ns.map D.int) (ns.map V.int)
  | [] => .nil
  | n :: ns => .cons (.int n) (reps_ints ns)
/-- len of a list of others -/
theorem we_lenR {x : Str} (hx : x = "len") (hm : X.mg "len" = none) (h : WE X T G μ e fun d μ1 => ∃ a, ∃ ns : List Int, d = .ref a ∧ SqL X.K T.rb a (ns.map V.int) ∧ Q (.int ns.length) μ1) (hg : Gl X "len" := by rfl)
    (he : starEach [e] X.env = (false, eval e X.env) :: starEach [] X.env := by rfl) : WE X T G μ (.Call (.Name x p) [e] [] pos) Q := by
  subst hx
  refine we_callB call_len_seq hm PySem.boot_len (wa_one (h.mono fun d μ1 ⟨a, ns, ed, hq, q⟩ F0 F R H vs s hs r => ?_) he) hg (by decide) (by decide) he (by rfl)
  subst ed
  cases r with
  | cons r t =>
    cases t
    cases r
    exact ⟨a, _, rfl, .inl (sql_up hq fun b o z => hs.r _ _ (hs.rb _ _ z)), by rw [List.length_map]; exact (fin_now hs (.int _) q).back s⟩
/-- a slice of a list of others -/
theorem we_slR (h : WE X T G μ e fun d μ1 => WO X T G μ1 lo fun i μ2 => WO X T G μ2 hi fun j μ3 => ∃ a, ∃ ns : List Int, d = .ref a ∧ SqL X.K T.rb a (ns.map V.int) ∧ Q (.lst (cutD (ns.map .int) i j)) μ3) : WE X T G μ (.Subscript e (.Slice lo hi none p2) pos) Q :=
  we_slice sl_list (h.mono fun d μ1 h1 F R H σ hs he => wO_mono (h1 F R H σ hs he) fun i H1 ⟨F1, μ2, hs1, s1, h2⟩ => ⟨F1, μ2, hs1, s1, fun F R H σ hs he => wO_mono (h2 F R H σ hs he) fun j H2 ⟨F2, μ3, hs2, s2, a, ns, ed, hq, q⟩ => ⟨F2, μ3, hs2, s2, fun F0 F R H x s hs r => by
    subst ed
    cases r
    exact ⟨a, _, rfl, sql_up hq fun b o z => hs.r _ _ (hs.rb _ _ z), fun p n => (fin_lst hs n ((reps_ints ns).cut i j) q).back s⟩⟩⟩)
/-- where nothing is raised -/
theorem takesD_no {C : Addr} : TakesD X T C G (fun _ => False) :=
  ⟨fun _ _ _ _ => False, fun u s' ⟨a, B, sI, pins, σ, H, cls, d, e, I, nb, up, sky, na, os, ag, w⟩ => w.elim, fun _ _ _ _ _ _ _ h => h⟩
end
/-! ### answers, compared -/
def ansP (ys : List (List Int)) : PyData := .list (ys.map fun t => .tuple (t.map .int))
theorem pd_ans : ∀ ys : List (List Int), pds (ys.map tupI) = some (ys.map fun t => .tuple (t.map .int))
  | [] => rfl
  | y :: ys => by
    have h1 : pd (tupI y) = some (.tuple (y.map .int)) := by
      show (pds (y.map D.int)).map PyData.tuple = _
      rw [pd_ints]; rfl
    show (match pd (tupI y), pds (ys.map tupI) with | some x, some xs => some (x :: xs) | _, _ => none) = _
    rw [h1, pd_ans ys]; rfl
theorem pd_ansL (ys : List (List Int)) : pd (.lst (ys.map tupI)) = some (ansP ys) := by
  show (pds (ys.map tupI)).map PyData.list = _
  rw [pd_ans]; rfl
theorem eqv_ansAll : ∀ ys : List (List Int), PyData.eqvAll (ys.map fun t => .tuple (t.map .int)) (ys.map fun t => .tuple (t.map .int)) = true
  | [] => by simp [PyData.eqvAll]
  | y :: ys => by
    show PyData.eqvAll (.tuple (y.map .int) :: ys.map _) (.tuple (y.map .int) :: ys.map _) = true
    rw [PyData.eqvAll, eqv_ansAll ys, PyData.eqv, eqv_ints]; simp
theorem eqv_ans (ys : List (List Int)) : PyData.eqv (ansP ys) (ansP ys) = true := by unfold ansP; rw [PyData.eqv]; exact eqv_ansAll ys
theorem canLay_ans : ∀ ys : List (List Int), PyData.canLayAll0 (ys.map fun t => .tuple (t.map .int)) = true
  | [] => by simp [PyData.canLayAll0]
  | y :: ys => by
    show PyData.canLayAll0 (.tuple (y.map .int) :: ys.map _) = true
    rw [PyData.canLayAll0, canLay_ans ys, PyData.canLay0, canLay_ints]; rfl
theorem depth_ans : ∀ ys : List (List Int), PyData.depthAll (ys.map fun t => .tuple (t.map .int)) ≤ 1
  | [] => by simp [PyData.depthAll]
  | y :: ys => by
    show PyData.depthAll (.tuple (y.map .int) :: ys.map _) ≤ 1
    rw [PyData.depthAll, PyData.depth, PySem.W.depth_ints]
    have := depth_ans ys
    omega
theorem shaped_ans (ys : List (List Int)) : SeqAt.shaped (ansP ys) = true := by
  unfold SeqAt.shaped ansP
  rw [PyData.canLay0, canLay_ans, PyData.depth, Bool.true_and]
  have := depth_ans ys
  exact decide_eq_true (by omega)
def noneP : PyData := .str "none"
theorem pd_none : pd (.str "none") = some noneP := rfl
theorem shaped_none : SeqAt.shaped noneP = true := by decide +kernel
theorem eqv_none : PyData.eqv noneP noneP = true := by decide +kernel
/-- the due answer and what is told, as data -/
theorem same_data (b : Bool) (ys : List (List Int)) (μ : Mu) : ∃ x, PdOf μ (if b = true then .lst (ys.map tupI) else .str "none") x ∧ SeqAt.shaped x = true ∧ PyData.eqv x x = true := by
  cases b with
  | true => exact ⟨ansP ys, .inl (pd_ansL ys), shaped_ans ys, eqv_ans ys⟩
  | false => exact ⟨noneP, .inl pd_none, shaped_none, eqv_none⟩
theorem ltL_irr : ∀ a : List Int, ltL a a = false
  | [] => rfl
  | x :: xs => by rw [ltL, ltL_irr xs]; simp
theorem ltL_asym : ∀ a b : List Int, ltL a b = true → ltL b a = false
  | [], [], h => by cases h
  | [], _ :: _, _ => rfl
  | _ :: _, [], h => by cases h
  | x :: xs, y :: ys, h => by
    rw [ltL, Bool.or_eq_true, Bool.and_eq_true] at h
    rw [ltL]
    rcases h with h | ⟨h1, h2⟩
    · have h1 := of_decide_eq_true h
      rw [decide_eq_false (by omega), decide_eq_false (by omega)]; rfl
    · have h3 := of_decide_eq_true h1
      rw [ltL_asym xs ys h2, decide_eq_false (by omega)]; simp
theorem sorted_same : ∀ {xs ys : List (List Int)}, xs.Pairwise (fun a b => ltL a b = true) → ys.Pairwise (fun a b => ltL a b = true) → (∀ t, t ∈ xs ↔ t ∈ ys) → xs = ys
  | [], [], _, _, _ => rfl
  | [], y :: ys, _, _, h => by have := (h y).mpr List.mem_cons_self; cases this
  | x :: xs, [], _, _, h => by have := (h x).mp List.mem_cons_self; cases this
  | x :: xs, y :: ys, p, q, h => by
    obtain ⟨p1, p2⟩ := List.pairwise_cons.mp p
    obtain ⟨q1, q2⟩ := List.pairwise_cons.mp q
    have e : x = y := by
      rcases List.mem_cons.mp ((h x).mp List.mem_cons_self) with e | e
      · exact e
      · rcases List.mem_cons.mp ((h y).mpr List.mem_cons_self) with e' | e'
        · exact e'.symm
        · have h1 := ltL_asym _ _ (q1 x e)
          rw [p1 y e'] at h1; cases h1
    subst e
    have out : ∀ {l : List (List Int)}, (∀ b ∈ l, ltL x b = true) → x ∉ l := fun hl hm => by
      have := hl x hm
      rw [ltL_irr] at this; cases this
    rw [sorted_same p2 q2 fun t => ⟨fun ht => ?_, fun ht => ?_⟩]
    · rcases List.mem_cons.mp ((h t).mp (List.mem_cons_of_mem _ ht)) with e | e
      · subst e; exact absurd ht (out p1)
      · exact e
    · rcases List.mem_cons.mp ((h t).mpr (List.mem_cons_of_mem _ ht)) with e | e
      · subst e; exact absurd ht (out q1)
      · exact e
theorem ans_uniq {ts xs ys : List (List Int)} (h : AnsOf ts xs) (k : AnsOf ts ys) : xs = ys := sorted_same h.1 k.1 fun t => (h.2 t).trans (k.2 t).symm
section
variable {P : Program} {w : World} {K : PySem.W.Frag} {mg : Str → Option Value} {base : Heap} {T : TabS} {f : Addr} {fd : FuncData}
theorem defAtR_of {x qual : Str} {params : Arguments} {body : List Stmt} {scope : Scope} {f : Addr} {fd : FuncData} {ps : List Str} {k : Nat} {S : Hp → DSp} (F : FunD K x qual params body scope [] [] f fd) (g : mg x = some (.ref f))
    (hb : ∀ (kV doc pm : Value) (an : Option Addr) (cdv ct : Value) (us : List Value), us.length = ps.length → bindArgs (PySem.W.fnOf x qual params body scope .none kV doc pm an cdv ct) ⟨us, []⟩ = pure (ps.zip us)) (ok : FnOk P w K mg base CX0 k f fd ps (SpR K T S)) : DefAtR P w K mg base T k x S :=
  ⟨f, fd, ps, g, F.kp, F.bindsN hb, ok⟩
theorem sc47 : FnScope ["_law_script"] ["_law_script"] (defScope (top 47)) := ⟨rfl, rfl, rfl, by decide +kernel, rfl, by decide +kernel, by decide +kernel⟩
def S_pen (K : PySem.W.Frag) (R : Hp) : DSp := fun ds μ Q => ∃ a, ∃ ns : List Int, ds = [.ref a] ∧ SqL K R a (ns.map V.int) ∧ ∀ pn p, μ pn = none → p.cells.length ≤ 63 → p.turn = 0 → Q (.ref pn) (mset μ pn (penM p))
theorem S_pen_up (R R' : Hp) (ds : List D) (μ : Mu) (Q : D → Mu → Prop) (m : Same R R') (h : S_pen K R ds μ Q) : S_pen K R' ds μ Q :=
  let ⟨a, ns, e, hq, q⟩ := h
  ⟨a, ns, e, sql_up hq m, q⟩
theorem d_lawpen (fr : Free mg) (F : FnP K "_law_pen" (top 47) f fd) (g : mg "_law_pen" = some (.ref f)) : DefAtR P w K mg base T 1 "_law_pen" (S_pen K) := by
  refine defAtR_of F g (ps := ["_law_script"]) (fun _ _ _ _ _ _ us hl => match us, hl with | [_], _ => rfl) (fn_okR F sc47 (fun R ds μ Q ⟨_, _, h, _⟩ => by rw [h]; rfl) fun cdv A outer0 s0 H E ds μ Q lb rb hr ⟨a, ns, e, hq, q⟩ => ?_)
  subst e
  refine wss_one (ws_ret (we_dispM rfl rfl (by simp) (by decide) (wps_cons (.inr "cells") (we_str ⟨rfl, we_list rfl fr.list (we_slR (we_var 0 rfl (wo_none (wo_some (we_int ⟨_, rfl, a, ns, rfl, hq, _, .lst, wps_cons (.inr "turn") (we_str ⟨rfl, we_int (wps_cons (.inr "rest") (we_str ⟨rfl, we_int (wps_nil fun pn np => ?_)⟩))⟩)⟩)))))⟩))))
  have e1 : cutD (ns.map D.int) none (some 63) = (ns.take 63).map .int := by
    have := cut_to ns 63
    rw [cutD_map]
    exact congrArg (List.map D.int) this
  rw [e1]
  exact q pn ⟨ns.take 63, 0, 0⟩ np (by show (ns.take 63).length ≤ 63; rw [List.length_take]; omega) rfl
end
end Ws
/-! LM: the law. -/
namespace Ws
open PySem PyProof.Rows PySem.Spec L2
/-! ### a question's facts -/
theorem qf_ok {U shown : List Str} {rs : List Row} {W : Wb} (q : QF U shown rs) (hk : W.knots.length ≤ 4) (hU : U.length ≤ 4) (hU3 : W.knots.length = 4 → U.length ≤ 3) : QOk shown rs ∧ FewK W rs := by
  have h1 : ∀ l : List Row, (∀ r ∈ l, r ∈ rs) → (varsIn l).length ≤ U.length := fun l hl => nodup_sub_lenA _ U (vin_nodup l) fun x hx => by
    obtain ⟨r, a, b⟩ := (vin_mem l x).mp hx
    exact q.vars r (hl r a) x b
  have h2 := h1 rs fun _ h => h
  have h3 := h1 (outer rs) fun r h => (List.mem_filter.mp h).1
  refine ⟨⟨⟨by have := q.l8; omega, q.fine⟩, by omega, q.sh, by have := q.s4; omega⟩, ?_⟩
  unfold FewK
  generalize hn : (varsIn (outer rs)).length = n at h3
  by_cases h4 : W.knots.length = 4
  · have h5 := hU3 h4
    rw [h4]
    have : 4 ^ n ≤ 4 ^ 3 := Nat.pow_le_pow_right (by decide) (by omega)
    omega
  · have h6 : W.knots.length ^ n ≤ 3 ^ n := Nat.pow_le_pow_left (by omega) n
    have h7 : 3 ^ n ≤ 3 ^ 4 := Nat.pow_le_pow_right (by decide) (by omega)
    omega
theorem ord_iff {rs : List Row} {ms : List Nat} {d : D} (hp : ms.Perm (List.range rs.length)) (hf : FSq d (natsD ms)) : OrdOk rs d ↔ goFrom rs (boundIn (outer rs)) [] ms = true := by
  constructor
  · rintro ⟨ns, h1, _, h3⟩
    rw [natsD_inj (hf.uniq h1)]; exact h3
  · exact fun h => ⟨ms, hf, hp, h⟩
theorem notOrd_not {rs : List Row} {d : D} (h : NotOrd rs.length d) : ¬ OrdOk rs d := fun ⟨ns, h1, h2, _⟩ => h.2 ⟨ns, h1, h2⟩
theorem told_nats {d : D} {ms : List Nat} (hf : FSq d (natsD ms)) : OrdTold d := by
  refine ⟨?_, fun ds hd => ?_⟩
  · cases hf
    · exact .of rfl
    · exact .tup
  · rw [hd.uniq hf]; exact natsD_told ms
/-- the alone question -/
theorem qf_alone {U ks ws ks' ws' : List Str} {r : PRow} (post : RowPost ks ws ks' ws' r) (hU : ∀ x, x ∈ ks ∨ x ∈ ws → x ∈ U) : QF U [] [.no [r]] where
  fine := fun x hx => by
    rw [List.mem_singleton.mp hx]
    exact ⟨(by show 1 ≤ 10; decide), fun y hy => by rw [List.mem_singleton.mp hy]; exact post.ok⟩
  l1 := Nat.le_refl 1
  l8 := (by show 1 ≤ 8; decide)
  vars := fun x hx y hy => by
    rw [List.mem_singleton.mp hx] at hy
    obtain ⟨pr, h1, h2⟩ := no_vars_mem.mp hy
    rw [List.mem_singleton.mp h1] at h2
    exact hU y (post.un y (.inl (post.vs y h2)))
  bound := fun x hx hP => by rw [List.mem_singleton.mp hx] at hP; cases hP
  sh := fun _ h => nomatch h
  s4 := by decide
def S_law (K : PySem.W.Frag) (R : Hp) : DSp := fun ds μ Q => ∃ a, ∃ ns : List Int, ds = [.ref a] ∧ SqL K R a (ns.map V.int) ∧ ∀ μ', Q (.bl true) μ'
section
variable {P : Program} {w : World} {K : PySem.W.Frag} {mg : Str → Option Value} {base : Heap} {T : TabS} {f : Addr} {fd : FuncData}
theorem sc67 : FnScope ["_law_script", "_law_pen_here", "_law_turn", "_law_scene_here", "_law_web_here", "_law_engine", "_law_again", "_law_question_here", "_law_due", "_law_rows", "_law_order", "_law_kept", "_law_told_here", "_law_thing"] ["_law_script"] (defScope (top 67)) := ⟨rfl, rfl, rfl, by decide +kernel, rfl, by decide +kernel, by decide +kernel⟩
structure Law (P : Program) (w : World) (K : PySem.W.Frag) (mg : Str → Option Value) (base : Heap) (T : TabS) (C : Addr) : Prop where
  pen : DefAtR P w K mg base T 1 "_law_pen" (S_pen K)
  draw : DefAt P w K mg base T 1 "_law_draw" S_draw
  scene : DefAt P w K mg base T 4 "_law_scene" S_scene
  web : DefAt P w K mg base T 4 "_law_web" S_web
  made : DefAt P w K mg base T 7 "_law_made" (S_made C)
  question : DefAt P w K mg base T 5 "_law_question" S_question
  row : DefAt P w K mg base T 4 "_law_row" S_row
  goes : DefAt P w K mg base T 3 "_law_goes" S_goes
  shuffled : DefAt P w K mg base T 2 "_law_shuffled" S_shuffled
  orders : DefAt P w K mg base T 3 "_law_orders" S_orders
  none : DefAt P w K mg base T 2 "_law_none" S_none
  told : DefAt P w K mg base T 17 "_law_told" (S_told C)
  filled : DefAt P w K mg base T 3 "_law_filled" S_filled
theorem ok_law {C NP : Addr} (Z : Prg P w K mg base T C NP) (L : Law P w K mg base T C) (F : FnP K "law" (top 67) f fd) : FnOk P w K mg base CX0 18 f fd ["_law_script"] (SpR K T (S_law K)) := by
  refine fn_okR F sc67 (fun R ds μ Q ⟨_, _, h, _⟩ => by rw [h]; rfl) fun cdv A outer0 s0 H E ds μ Q lb rb hr ⟨a, ns, e, hq, q⟩ => ?_
  subst e
  have hu := hr.u1
  have fr := Z.fr
  refine wss_cons (ws_set 1 sc67.nd (we_callR L.pen S_pen_up hr (wa_one (we_var 0 rfl ⟨a, ns, rfl, hq, fun pn p0 np p63 pt => ?_⟩))))
  refine wss_cons (ws_for (ks := [2]) rfl (wi_range fr.range (we_add (we_int (we_min rfl fr.min rfl (we_int (we_lenR rfl fr.len (we_var 0 rfl ⟨a, ns, rfl, hq, _, _, rfl, rfl, _, _, rfl, rfl, _, rfl, ?_, ?_, fun i G' μ' => ∃ o2 o3 o4 o5 o6 o7 o8 o9 o10 o11 o12 o13 p', G' = [some (.ref a), some (.ref pn), o2, o3, o4, o5, o6, o7, o8, o9, o10, o11, o12, o13] ∧ p0.to (3000 * i) p' ∧ μ' = mset μ pn (penM p'),
    ⟨_, _, _, _, _, _, _, _, _, _, _, _, p0, rfl, .refl _ _, rfl⟩, ?_, ?_⟩))))))))
  · split <;> omega
  · split <;> omega
  · rintro i d G' μ' ed ⟨o2, o3, o4, o5, o6, o7, o8, o9, o10, o11, o12, o13, p1, rfl, t1, rfl⟩
    obtain ⟨hi, rfl⟩ := rng_at ed
    have hi5 : i < 5 := by
      refine Nat.lt_of_lt_of_le hi ?_
      split <;> omega
    have ok0 : PenR p0 20000 := ⟨p63, by rw [pt]; decide⟩
    have ok1 : PenR p1 3000 := ok0.to t1
    refine wg_name 2 sc67.nd (wss_cons (ws_set 3 sc67.nd (we_call L.scene hr (wa_one (we_var 1 rfl ⟨pn, p1, rfl, mset_same, ok1.less (by decide), fun sn s p2 nsn sok t2 => ?_⟩)))))
    have sp : sn ≠ pn := by rintro rfl; rw [mset_same] at nsn; cases nsn
    rw [mset_ne sp] at nsn
    rw [mset_comm (μ := μ) (Ne.symm sp), mset_mset]
    have es : ∀ p, (mset (mset μ sn (.md (scK s))) pn (penM p)) sn = some (.md (scK s)) := fun p => by rw [mset_ne sp]; exact mset_same
    have ok2 : PenR p2 2940 := ok1.to t2
    refine wss_cons (ws_set 4 sc67.nd (we_call L.web hr (wa_cons (we_var 1 rfl (wa_cons (we_var 3 rfl (wa_two (we_int (we_int ⟨pn, sn, p2, s, rfl, mset_same, ok2.less (by decide), es _, sok.r, fun W0 p3 win t3 => ?_⟩)))))))))
    rw [mset_mset]
    have ok3 : PenR p3 1940 := ok2.to t3
    refine wss_cons (ws_dput hu (we_slL (we_dget hu (we_var 3 rfl (we_str ⟨scK s, .inr "vars", _, .md (es _), rfl, sc_vars s, wo_none (wo_some (we_add (we_int (we_intB rfl fr.int (we_ltI (we_lenD rfl fr.len (we_dget hu (we_var 4 rfl (we_str ⟨_, .inr "knots", .dic (kvK W0.knots), .dic, rfl, rfl, _, .dic, we_int ⟨_, _, rfl, rfl, _, rfl, _, _, rfl, rfl, _, rfl, _, .lst, we_var 3 rfl (we_str ⟨sn, scK s, .inr "vars", rfl, rfl, es _, sc_len s, ?_⟩)⟩⟩)))))))))⟩)))))
    have hm : ∃ m : Nat, ((3 : Int) + if decide (((kvK W0.knots).length : Int) < 4) = true then 1 else 0) = (m : Int) ∧ 1 ≤ m ∧ m ≤ 4 ∧ (W0.knots.length = 4 → m ≤ 3) := by
      have hl : (kvK W0.knots).length = W0.knots.length := by unfold kvK; rw [List.length_map]
      rw [hl]
      by_cases h4 : (W0.knots.length : Int) < 4
      · rw [decide_eq_true h4, if_pos rfl]
        exact ⟨4, rfl, by decide, by decide, fun h => by omega⟩
      · rw [decide_eq_false h4, if_neg Bool.false_ne_true]
        exact ⟨3, rfl, by decide, by decide, fun h => by decide⟩
    obtain ⟨m, hm0, hm1, hm4, hm3⟩ := hm
    rw [hm0, cutD_map, cut_to, put_vars, mset_over sp]
    generalize hs2 : ({ s with vars := s.vars.take m } : Sc) = s2
    have hv : s2.vars.length = m := by
      rw [← hs2]
      show (s.vars.take m).length = m
      rw [List.length_take, sok.v]; omega
    have scr : ScR s2 := by rw [← hs2]; exact ⟨sok.k0, sok.k1, sok.t0, sok.t1, sok.n0, sok.n1⟩
    refine wss_cons (ws_set 5 sc67.nd (we_call L.made hr (wa_one (we_var 4 rfl ⟨W0, rfl, win, fun ea dx kn ts nea hk ht => ?_⟩))))
    have ep : ea ≠ pn := by rintro rfl; rw [mset_same] at nea; cases nea
    rw [mset_ne ep] at nea
    have en : ea ≠ sn := by rintro rfl; rw [mset_same] at nea; cases nea
    rw [mset_comm (Ne.symm ep)]
    have wok : WbOk (mkWb kn ts) := mkWb_ok (win.perm (V := ⟨kn, ts, [], []⟩) hk ht)
    have hkl : (mkWb kn ts).knots.length = W0.knots.length := hk.length_eq
    have hk4 : (mkWb kn ts).knots.length ≤ 4 := wok.few
    have hk3 : (mkWb kn ts).knots.length = 4 → s2.vars.length ≤ 3 := fun h => by rw [hv]; exact hm3 (by rw [← hkl]; exact h)
    have hv4 : s2.vars.length ≤ 4 := by omega
    have hv0 : 0 < s2.vars.length := by omega
    have hes : ∀ p, (mset (mset (mset μ sn (.md (scK s2))) ea (.mi C dx (webF (mkWb kn ts)))) pn (penM p)) sn = some (.md (scK s2)) := fun p => by rw [mset_ne sp, mset_ne (Ne.symm en)]; exact mset_same
    have hea : ∀ p, WebAt C (mset (mset (mset μ sn (.md (scK s2))) ea (.mi C dx (webF (mkWb kn ts)))) pn (penM p)) (.ref ea) (mkWb kn ts) := fun p => ⟨ea, dx, rfl, by rw [mset_ne ep]; exact mset_same⟩
    have hback : ∀ p, MSame (mset μ pn (penM p)) (mset (mset (mset μ sn (.md (scK s2))) ea (.mi C dx (webF (mkWb kn ts)))) pn (penM p)) := fun p b o e => by
      by_cases h1 : b = pn
      · subst h1; rw [mset_same] at e ⊢; exact e
      · rw [mset_ne h1] at e ⊢
        have h2 : b ≠ ea := by rintro rfl; rw [mset_ne en] at nea; rw [nea] at e; cases e
        have h3 : b ≠ sn := by rintro rfl; rw [nsn] at e; cases e
        rw [mset_ne h2, mset_ne h3]; exact e
    generalize mset (mset μ sn (.md (scK s2))) ea (.mi C dx (webF (mkWb kn ts))) = ν at hes hea hback ⊢
    generalize hW : mkWb kn ts = W at wok hk4 hk3 hea
    clear hW hkl hm0 hm3 hs2
    refine wss_one (ws_post (ws_for (ks := [6]) rfl (wi_range fr.range (we_int ⟨_, rfl, by decide, by decide, fun j G' μ' => ∃ o6 o7 o8 o9 o10 o11 o12 o13 p', G' = [some (.ref a), some (.ref pn), some (.int (i : Nat)), some (.ref sn), some (webD W0), some (.ref ea), o6, o7, o8, o9, o10, o11, o12, o13] ∧ p3.to (700 * j) p' ∧ μ' = mset ν pn (penM p'),
      ⟨_, _, _, _, _, _, _, _, p3, rfl, .refl _ _, rfl⟩, ?_, ?_⟩))))
    · rintro j d G' μ' ed ⟨o6, o7, o8, o9, o10, o11, o12, o13, p4, rfl, t4, rfl⟩
      obtain ⟨hj, rfl⟩ := rng_at ed
      have hj2 : j < 2 := hj
      have ok4 : PenR p4 700 := ok3.to t4
      refine wg_name 6 sc67.nd (wss_cons (ws_set 7 sc67.nd (we_call L.question hr (wa_two (we_var 1 rfl (we_var 3 rfl ⟨pn, sn, p4, s2, rfl, mset_same, ok4.less (by decide), hes _, scr, hv0, by omega, fun shown rs p5 qf hp t5 => ?_⟩))))))
      rw [mset_mset]
      -- filled or not
      refine wss_mid (fun G' μ' => ∃ rs p', G' = [some (.ref a), some (.ref pn), some (.int (i : Nat)), some (.ref sn), some (webD W0), some (.ref ea), some (.int (j : Nat)), some (dQ shown rs), o8, o9, o10, o11, o12, o13] ∧ QF s2.vars shown rs ∧ p4.to 321 p' ∧ μ' = mset ν pn (penM p')) ?_ ?_
      · refine ws_set 7 sc67.nd (we_if (wt_eq (we_call L.draw hr (wa_two (we_var 1 rfl (we_int ⟨pn, p5, 4, rfl, mset_same, (ok4.to t5 (k := 1)).ok, by decide, by decide, fun k p6 hk t6 => we_int ⟨_, scal_int, ?_⟩⟩))))))
        rw [mset_mset]
        have t56 := t5.trans t6 (k := 301)
        by_cases hk0 : (k : Int) = 0
        · rw [decide_eq_true hk0, if_pos rfl]
          refine we_call L.filled hr (wa_two (we_var 1 rfl (we_var 7 rfl ⟨pn, p6, shown, rs, rfl, mset_same, ok4.to t56, qf.l8, hp, fun rs' p7 h1 h2 h3 t7 => ⟨rs', p7, rfl, qf.same h1 h2 h3, t56.trans t7, mset_mset⟩⟩)))
        · rw [decide_eq_false hk0, if_neg Bool.false_ne_true]
          exact we_var 7 rfl ⟨rs, p6, rfl, qf, t56.le (by decide), rfl⟩
      rintro _ _ ⟨rs1, p6, rfl, qf1, t6, rfl⟩
      clear qf hp t5
      have ok6 : PenR p6 370 := ok4.to t6
      -- one row of the sort no, alone
      refine wss_mid (fun G' μ' => ∃ shown rs p', G' = [some (.ref a), some (.ref pn), some (.int (i : Nat)), some (.ref sn), some (webD W0), some (.ref ea), some (.int (j : Nat)), some (dQ shown rs), o8, o9, o10, o11, o12, o13] ∧ QF s2.vars shown rs ∧ p6.to 21 p' ∧ μ' = mset ν pn (penM p')) ?_ ?_
      · refine ws_if (wt_eq (we_call L.draw hr (wa_two (we_var 1 rfl (we_int ⟨pn, p6, 8, rfl, mset_same, ok6.ok, by decide, by decide, fun k p7 hk t7 => we_int ⟨_, scal_int, ?_⟩⟩)))))
        rw [mset_mset]
        have ok7 : PenR p7 369 := ok6.to t7
        by_cases hk0 : (k : Int) = 0
        · rw [decide_eq_true hk0, if_pos rfl]
          refine wss_one (ws_post (ws_set 7 sc67.nd (we_tup (wa_two (we_tup (wa_nil ⟨Nat.zero_le _, we_tup (wa_one (we_tup (wa_two (we_str (we_tup (wa_one (we_call L.row hr (wa_cons (we_var 1 rfl (wa_cons (we_var 3 rfl (wa_two (we_lstM (wa_nil ⟨Nat.zero_le _, fun kl nk => we_listM rfl fr.list (we_dget hu (we_var 3 rfl (we_str ⟨scK s2, .inr "vars", _, ?_, rfl, sc_vars s2, _, .lst, fun wl nw => ?_⟩)))⟩))))))))))))))⟩))))))
          · refine .md ?_
            have : sn ≠ kl := by rintro rfl; rw [hes] at nk; cases nk
            rw [mset_ne this]; exact hes _
          have kp : kl ≠ pn := by rintro rfl; rw [mset_same] at nk; cases nk
          have sk : sn ≠ kl := by rintro rfl; rw [hes] at nk; cases nk
          rw [mset_ne kp] at nk
          have wk : wl ≠ kl := by rintro rfl; rw [mset_same] at nw; cases nw
          rw [mset_ne wk] at nw
          have wp : wl ≠ pn := by rintro rfl; rw [mset_same] at nw; cases nw
          have sw : sn ≠ wl := by rintro rfl; rw [hes] at nw; cases nw
          rw [mset_ne wp] at nw
          refine ⟨pn, sn, kl, wl, p7, s2, [], s2.vars, rfl, ?_, ok7.less (by decide), ?_, scr, ?_, mset_same, Ne.symm wk, fun _ h => ?_, ?_, fun r ks' ws' p8 post t8 => ?_⟩
          · rw [mset_ne (Ne.symm wp), mset_ne (Ne.symm kp)]; exact mset_same
          · rw [mset_ne sw, mset_ne sk]; exact hes _
          · rw [mset_ne (Ne.symm wk)]; exact mset_same
          · rw [h] at hv0; cases hv0
          · rw [List.length_nil]; omega
          refine ⟨by rw [sizeLine_eq]; show 1 ≤ 16777216; decide, by rw [sizeLine_eq]; show 2 ≤ 16777216; decide, by rw [sizeLine_eq]; show 1 ≤ 16777216; decide, by rw [sizeLine_eq]; show 2 ≤ 16777216; decide, mset ν pn (penM p8), ?_, [], [.no [r]], p8, rfl, qf_alone post fun x h => h.elim (fun h => nomatch h) id, t7.trans t8, rfl⟩
          intro b o e
          unfold St3
          by_cases h1 : b = pn
          · subst h1; rw [mset_same] at e ⊢; exact e
          · rw [mset_ne h1] at e ⊢
            have h2 : b ≠ wl := by rintro rfl; rw [nw] at e; cases e
            have h3 : b ≠ kl := by rintro rfl; rw [nk] at e; cases e
            rw [mset_ne h2, mset_ne h3, mset_ne h2, mset_ne h3, mset_ne h1]; exact e
        · rw [decide_eq_false hk0, if_neg Bool.false_ne_true]
          exact wss_nil ⟨shown, rs1, p7, rfl, qf1, t7.le (by decide), rfl⟩
      rintro _ _ ⟨sh, rs, p7, rfl, qf, t7, rfl⟩
      clear qf1
      have ok7 : PenR p7 340 := ok6.to t7
      obtain ⟨qok, fk⟩ := qf_ok (W := W) qf hk4 hv4 hk3
      have ab := qf.bound
      have rok := qok.rows
      have l8 := qf.l8
      have l1 := qf.l1
      -- the due answer
      refine wss_cons (ws_par 8 9 (hw := by kernel_rfl) rfl sc67.nd (we_call Z.ans hr (wa_two (we_var 5 rfl (we_var 7 rfl ⟨.ref ea, W, sh, rs, varsIn (outer rs), rfl, hea _, wok, qok, fk, List.Perm.refl _, fun ys hys => we_ix (we_var 7 rfl (we_int ⟨_, 1, .tup (rs.map dRow), .tup, rfl, rfl, ?_⟩))⟩)))))
      have hrng : ∀ ms : List Nat, ms.Perm (List.range rs.length) → (∀ n ∈ ms, n < rs.length) ∧ ms.length ≤ 20 := fun ms hp => ⟨fun n hn => List.mem_range.mp (hp.mem_iff.mp hn), by rw [hp.length_eq, List.length_range]; omega⟩
      refine wss_cons (ws_if (wt_w (wtw_or (wt_neD hr.units (we_callX Z.ansBy hr takesD_no (wa_cons (we_var 5 rfl (wa_cons (we_var 7 rfl (wa_one (we_call Z.plan hr (wa_one (we_var 7 rfl ⟨sh, rs, rfl, rok, fun ord hp hgo => ⟨.ref ea, W, sh, rs, .tup (natsD ord), varsIn (outer rs), rfl, hea _, wok, qok, fk, ab, told_nats .tup, List.Perm.refl _, fun ho ys2 hys2 => ?_, fun hn => hn ((ord_iff hp .tup).mpr hgo)⟩⟩)))))))))))))
      cases ans_uniq hys hys2
      refine we_var 8 rfl ⟨ansP ys, ansP ys, .inl (pd_ansL ys), .inl (pd_ansL ys), shaped_ans ys, shaped_ans ys, ?_⟩
      rw [eqv_ans, Bool.not_true, if_neg Bool.false_ne_true]
      refine wtw_or1 (wt_not (wt_val (we_call L.goes hr (wa_two (we_var 9 rfl (we_call Z.plan hr (wa_one (we_var 7 rfl ⟨sh, rs, rfl, rok, fun ord2 hp2 hgo2 => ⟨.tup (rs.map dRow), .tup (natsD ord2), rs, ord2, rfl, .tup, rok, .tup, (hrng _ hp2).1, (hrng _ hp2).2, _, rfl, ?_⟩⟩))))))))
      rw [hgo2, Bool.not_true, if_neg Bool.false_ne_true]
      refine wss_nil ?_
      clear hgo2 hp2 ord2 ho hgo hp ord hys2
      -- the orders
      refine wss_mid (fun G' μ' => ∃ o10 o11 o12 p', G' = [some (.ref a), some (.ref pn), some (.int (i : Nat)), some (.ref sn), some (webD W0), some (.ref ea), some (.int (j : Nat)), some (dQ sh rs), some (.lst (ys.map tupI)), some (.tup (rs.map dRow)), o10, o11, o12, o13] ∧ p7.to 210 p' ∧ μ' = mset ν pn (penM p')) ?_ ?_
      · refine ws_for (ks := [10]) rfl (wi_seq (we_call L.orders hr (wa_two (we_var 1 rfl (we_var 9 rfl ⟨pn, p7, .tup (rs.map dRow), rs.map dRow, rfl, mset_same, ok7.less (by decide), .tup, by rw [List.length_map]; omega, fun OL p8 hL8 hLp t8 => ⟨_, .lst, fun hz => ⟨fun q G' μ' => ∃ o10 o11 o12 p', G' = [some (.ref a), some (.ref pn), some (.int (i : Nat)), some (.ref sn), some (webD W0), some (.ref ea), some (.int (j : Nat)), some (dQ sh rs), some (.lst (ys.map tupI)), some (.tup (rs.map dRow)), o10, o11, o12, o13] ∧ p7.to (200 + q) p' ∧ μ' = mset ν pn (penM p'),
          ⟨_, _, _, p8, rfl, t8, mset_mset⟩, ?_, ?_⟩⟩⟩)))))
        · rintro q1 d1 G' μ' ed1 ⟨o10, o11, o12, p9, rfl, t9, rfl⟩
          rw [List.getElem?_map] at ed1
          cases ex : OL[q1]? with
          | none => rw [ex] at ed1; cases ed1
          | some ms =>
            rw [ex] at ed1; cases ed1
            have hq8 : q1 < OL.length := (List.getElem?_eq_some_iff.mp ex).1
            have hpm : ms.Perm (List.range rs.length) := by
              have := hLp ms (List.mem_of_getElem? ex)
              rw [List.length_map] at this; exact this
            have ok9 : PenR p9 130 := ok7.to t9
            refine wg_name 10 sc67.nd (wss_cons (ws_set 11 sc67.nd (we_list rfl fr.list (we_var 10 rfl ⟨_, .lst, ?_⟩))))
            -- what is told
            refine wss_mid (fun G' μ' => ∃ p', G' = [some (.ref a), some (.ref pn), some (.int (i : Nat)), some (.ref sn), some (webD W0), some (.ref ea), some (.int (j : Nat)), some (dQ sh rs), some (.lst (ys.map tupI)), some (.tup (rs.map dRow)), some (ordD ms), some (ordD ms), some (if goFrom rs (boundIn (outer rs)) [] ms = true then .lst (ys.map tupI) else .str "none"), o13] ∧ p7.to (200 + (q1 + 1)) p' ∧ μ' = mset ν pn (penM p')) ?_ ?_
            · refine ws_set 12 sc67.nd (we_call L.told hr (wa_cons (we_var 5 rfl (wa_two (we_var 7 rfl (we_ix (we_lst (wa_two (we_var 10 rfl (we_tuple rfl fr.tuple (we_var 10 rfl ⟨_, .lst, by rw [sizeLine_eq]; show 2 ≤ 16777216; decide, we_call L.draw hr (wa_two (we_var 1 rfl (we_int ⟨pn, p9, 2, rfl, mset_same, ok9.ok, by decide, by decide, fun k p10 hk t10 => ?_⟩)))⟩)))))))))))
              rw [mset_mset]
              have pickO : ∃ od, atI [D.lst (natsD ms), .tup (natsD ms)] (k : Int) = some od ∧ FSq od (natsD ms) := by
                match k, hk with
                | 0, _ => exact ⟨_, rfl, .lst⟩
                | 1, _ => exact ⟨_, rfl, .tup⟩
              obtain ⟨od, hod, hf⟩ := pickO
              refine ⟨_, _, od, .lst, rfl, hod, .ref ea, W, sh, rs, od, varsIn (outer rs), rfl, hea _, wok, qok, fk, ab, told_nats hf, List.Perm.refl _, fun ho ys2 hys2 => ?_, fun hn => ?_⟩
              · cases ans_uniq hys hys2
                exact ⟨p10, by rw [if_pos ((ord_iff hpm hf).mp ho)]; rfl, t9.trans t10, rfl⟩
              · exact ⟨p10, by rw [if_neg fun h => hn ((ord_iff hpm hf).mpr h)]; rfl, t9.trans t10, rfl⟩
            rintro _ _ ⟨p10, rfl, t10, rfl⟩
            refine wss_one (ws_if (wt_w (wtw_or (wt_neD hr.units (we_var 12 rfl (we_if (wt_val (we_call L.goes hr (wa_two (we_var 9 rfl (we_var 10 rfl ⟨.tup (rs.map dRow), ordD ms, rs, ms, rfl, .tup, rok, .lst, (hrng _ hpm).1, (hrng _ hpm).2, _, rfl, ?_⟩)))))))))))
            obtain ⟨x, hx1, hx2, hx3⟩ := same_data (goFrom rs (boundIn (outer rs)) [] ms) ys (mset ν pn (penM p10))
            generalize goFrom rs (boundIn (outer rs)) [] ms = b at hx1
            have hy : pd (ordD ms) = some (.list ((ms.map fun n : Nat => (n : Int)).map PyData.int)) := by
              have e : natsD ms = (ms.map fun n : Nat => (n : Int)).map D.int := by unfold natsD; rw [List.map_map]; rfl
              unfold ordD
              rw [e]
              show (pds _).map PyData.list = _
              rw [pd_ints]; rfl
            have hy2 := shaped_ints (ms.map fun n : Nat => (n : Int))
            have hy3 := eqv_lints (ms.map fun n : Nat => (n : Int)) (ms.map fun n : Nat => (n : Int))
            rw [decide_eq_true rfl] at hy3
            cases b with
            | true =>
              rw [if_pos rfl]
              refine we_var 8 rfl ⟨x, x, hx1, hx1, hx2, hx2, ?_⟩
              rw [hx3, Bool.not_true, if_neg Bool.false_ne_true]
              refine wtw_or1 (wt_neD hr.units (we_var 10 rfl (we_var 11 rfl ⟨_, _, .inl hy, .inl hy, hy2, hy2, ?_⟩)))
              rw [hy3, Bool.not_true, if_neg Bool.false_ne_true]
              exact wss_nil ⟨_, _, _, p10, rfl, t10, rfl⟩
            | false =>
              rw [if_neg Bool.false_ne_true]
              refine we_str ⟨x, x, hx1, hx1, hx2, hx2, ?_⟩
              rw [hx3, Bool.not_true, if_neg Bool.false_ne_true]
              refine wtw_or1 (wt_neD hr.units (we_var 10 rfl (we_var 11 rfl ⟨_, _, .inl hy, .inl hy, hy2, hy2, ?_⟩)))
              rw [hy3, Bool.not_true, if_neg Bool.false_ne_true]
              exact wss_nil ⟨_, _, _, p10, rfl, t10, rfl⟩
        · rintro _ _ ⟨o10, o11, o12, p9, rfl, t9, rfl⟩
          rw [List.length_map] at t9
          exact ⟨o10, o11, o12, p9, rfl, t9.le (by omega), rfl⟩
      rintro _ _ ⟨o10, o11, o12, p8, rfl, t8, rfl⟩
      have ok8 : PenR p8 130 := ok7.to t8
      -- what is no order
      refine wss_one (ws_for (ks := [13]) rfl (wi_seq (we_call L.none hr (wa_two (we_var 1 rfl (we_call L.shuffled hr (wa_two (we_var 1 rfl (we_listRange rfl rfl rfl fr.list fr.range (we_len rfl fr.len (we_var 9 rfl ⟨_, .tup, rs.length, by rw [List.length_map], by omega, pn, p8, _, List.range rs.length, rfl, mset_same, ok8.less (by decide), .lst, by rw [List.length_range]; omega, fun ms p9 hpm t9 => ⟨pn, p9, ms, rs.length, rfl, mset_same, ok8.to t9, hpm, l1, by omega, fun things p10 hl30 hno t10 => ⟨_, .lst, fun hz => ⟨fun q G' μ' => ∃ o13, G' = [some (.ref a), some (.ref pn), some (.int (i : Nat)), some (.ref sn), some (webD W0), some (.ref ea), some (.int (j : Nat)), some (dQ sh rs), some (.lst (ys.map tupI)), some (.tup (rs.map dRow)), o10, o11, o12, o13] ∧ μ' = mset ν pn (penM p10),
          ⟨_, rfl, by rw [mset_mset, mset_mset]⟩, ?_, ?_⟩⟩⟩⟩)))))))))))
      · rintro q1 d1 G' μ' ed1 ⟨o13, rfl, rfl⟩
        have hn := hno d1 (List.mem_of_getElem? ed1)
        refine wg_name 13 sc67.nd (wss_one (ws_if (wt_ne (we_call L.told hr (wa_cons (we_var 5 rfl (wa_two (we_var 7 rfl (we_var 13 rfl ⟨.ref ea, W, sh, rs, d1, varsIn (outer rs), rfl, hea _, wok, qok, fk, ab, hn.1, List.Perm.refl _, fun ho => absurd ho (notOrd_not hn), fun _ => we_str ⟨_, scal_str, ?_⟩⟩)))))))))
        rw [decide_eq_true (show Str.ofString "none" = Str.ofString "none" from rfl), Bool.not_true, if_neg Bool.false_ne_true]
        exact wss_nil ⟨_, rfl, rfl⟩
      · rintro _ _ ⟨o13, rfl, rfl⟩
        have s6 := t4.trans t6 (k := 700 * j + 321)
        have s7 := s6.trans t7 (k := 700 * j + 342)
        have s8 := s7.trans t8 (k := 700 * j + 552)
        have s9 := s8.trans t9 (k := 700 * j + 572)
        exact ⟨_, _, _, _, _, _, _, _, p10, rfl, s9.trans t10, rfl⟩
    · rintro _ _ ⟨o6, o7, o8, o9, o10, o11, o12, o13, p4, rfl, t4, rfl⟩
      have h2 : (rngD (2 : Int).toNat).length = 2 := rng_len 2
      rw [h2] at t4
      exact ⟨_, hback p4, _, _, _, _, _, _, _, _, _, _, _, _, p4, rfl, ((t1.trans t2 (k := 3000 * i + 60)).trans t3 (k := 3000 * i + 1060)).trans t4, rfl⟩
  · rintro _ _ ⟨o2, o3, o4, o5, o6, o7, o8, o9, o10, o11, o12, o13, p1, rfl, t1, rfl⟩
    exact wss_one (ws_ret (we_bl (q _)))
end
end Ws
/-! Hd3: the law's promise from what the head says; the end. -/
namespace Ws
open PySem PyProof.Rows PySem.Spec L2
section
variable {P : Program} {w : World} {K : PySem.W.Frag} {mg : Str → Option Value} {base h : Heap}
theorem law_of (KX : K.In h) (G : h.Ns mainGlobals mg) (c : He.SaysX fa defs tabs tf ex w h K) (Z : Prg P w K mg base (tabS K) (Ca K) (NPa K)) : Law P w K mg base (tabS K) (Ca K) := by
  have cd := c.t.d
  have ft : ∀ {f : He.Fa}, f ∈ fa → f.ok K = true := fun hf => cd.facts hf
  have glo : ∀ x : Str, He.Fa.glo x ∈ fa → mg x = some (.ref (He.ga K x)) := fun x hf => He.glo_ok KX G (ft hf)
  have gl : ∀ (n : Nat) (d : He.DefD), defs[n]? = some d → d.at_.2.isNone = true → He.Fa.glo d.at_.1 ∈ fa := fun n d hd hn => List.mem_append_right _ (List.mem_map.mpr ⟨d, List.mem_filter.mpr ⟨List.mem_of_getElem? hd, hn⟩, rfl⟩)
  have fr := Z.fr
  obtain ⟨fd47, F47⟩ := cd.def_ 33 (d := dF "_law_pen" 47) rfl
  have F47 : FnP K "_law_pen" (top 47) (He.ga K "_law_pen") fd47 := F47
  have g47 := glo "_law_pen" (gl 33 _ rfl rfl)
  obtain ⟨fd48, F48⟩ := cd.def_ 34 (d := dF "_law_draw" 48) rfl
  have F48 : FnP K "_law_draw" (top 48) (He.ga K "_law_draw") fd48 := F48
  have g48 := glo "_law_draw" (gl 34 _ rfl rfl)
  obtain ⟨fd49, F49⟩ := cd.def_ 35 (d := dF "_law_pick" 49) rfl
  have F49 : FnP K "_law_pick" (top 49) (He.ga K "_law_pick") fd49 := F49
  have g49 := glo "_law_pick" (gl 35 _ rfl rfl)
  obtain ⟨fd50, F50⟩ := cd.def_ 36 (d := dF "_law_names" 50) rfl
  have F50 : FnP K "_law_names" (top 50) (He.ga K "_law_names") fd50 := F50
  have g50 := glo "_law_names" (gl 36 _ rfl rfl)
  obtain ⟨fd51, F51⟩ := cd.def_ 37 (d := dF "_law_worth" 51) rfl
  have F51 : FnP K "_law_worth" (top 51) (He.ga K "_law_worth") fd51 := F51
  have g51 := glo "_law_worth" (gl 37 _ rfl rfl)
  obtain ⟨fd52, F52⟩ := cd.def_ 38 (d := dF "_law_scene" 52) rfl
  have F52 : FnP K "_law_scene" (top 52) (He.ga K "_law_scene") fd52 := F52
  have g52 := glo "_law_scene" (gl 38 _ rfl rfl)
  obtain ⟨fd53, F53⟩ := cd.def_ 39 (d := dF "_law_variable" 53) rfl
  have F53 : FnP K "_law_variable" (top 53) (He.ga K "_law_variable") fd53 := F53
  have g53 := glo "_law_variable" (gl 39 _ rfl rfl)
  obtain ⟨fd54, F54⟩ := cd.def_ 40 (d := dF "_law_row" 54) rfl
  have F54 : FnP K "_law_row" (top 54) (He.ga K "_law_row") fd54 := F54
  have g54 := glo "_law_row" (gl 40 _ rfl rfl)
  obtain ⟨fd55, F55⟩ := cd.def_ 41 (d := dF "_law_question" 55) rfl
  have F55 : FnP K "_law_question" (top 55) (He.ga K "_law_question") fd55 := F55
  have g55 := glo "_law_question" (gl 41 _ rfl rfl)
  obtain ⟨fd56, F56⟩ := cd.def_ 42 (d := dF "_law_in_row" 56) rfl
  have F56 : FnP K "_law_in_row" (top 56) (He.ga K "_law_in_row") fd56 := F56
  have g56 := glo "_law_in_row" (gl 42 _ rfl rfl)
  obtain ⟨fd57, F57⟩ := cd.def_ 43 (d := dF "_law_number" 57) rfl
  have F57 : FnP K "_law_number" (top 57) (He.ga K "_law_number") fd57 := F57
  have g57 := glo "_law_number" (gl 43 _ rfl rfl)
  obtain ⟨fd58, F58⟩ := cd.def_ 44 (d := dF "_law_web" 58) rfl
  have F58 : FnP K "_law_web" (top 58) (He.ga K "_law_web") fd58 := F58
  have g58 := glo "_law_web" (gl 44 _ rfl rfl)
  obtain ⟨fd59, F59⟩ := cd.def_ 45 (d := dF "_law_parts" 59) rfl
  have F59 : FnP K "_law_parts" (top 59) (He.ga K "_law_parts") fd59 := F59
  have g59 := glo "_law_parts" (gl 45 _ rfl rfl)
  obtain ⟨fd60, F60⟩ := cd.def_ 46 (d := dF "_law_made" 60) rfl
  have F60 : FnP K "_law_made" (top 60) (He.ga K "_law_made") fd60 := F60
  have g60 := glo "_law_made" (gl 46 _ rfl rfl)
  obtain ⟨fd61, F61⟩ := cd.def_ 47 (d := dF "_law_goes" 61) rfl
  have F61 : FnP K "_law_goes" (top 61) (He.ga K "_law_goes") fd61 := F61
  have g61 := glo "_law_goes" (gl 47 _ rfl rfl)
  obtain ⟨fd62, F62⟩ := cd.def_ 48 (d := dF "_law_shuffled" 62) rfl
  have F62 : FnP K "_law_shuffled" (top 62) (He.ga K "_law_shuffled") fd62 := F62
  have g62 := glo "_law_shuffled" (gl 48 _ rfl rfl)
  obtain ⟨fd63, F63⟩ := cd.def_ 49 (d := dF "_law_orders" 63) rfl
  have F63 : FnP K "_law_orders" (top 63) (He.ga K "_law_orders") fd63 := F63
  have g63 := glo "_law_orders" (gl 49 _ rfl rfl)
  obtain ⟨fd64, F64⟩ := cd.def_ 50 (d := dF "_law_none" 64) rfl
  have F64 : FnP K "_law_none" (top 64) (He.ga K "_law_none") fd64 := F64
  have g64 := glo "_law_none" (gl 50 _ rfl rfl)
  obtain ⟨fd65, F65⟩ := cd.def_ 51 (d := dF "_law_told" 65) rfl
  have F65 : FnP K "_law_told" (top 65) (He.ga K "_law_told") fd65 := F65
  have g65 := glo "_law_told" (gl 51 _ rfl rfl)
  obtain ⟨fd66, F66⟩ := cd.def_ 52 (d := dF "_law_filled" 66) rfl
  have F66 : FnP K "_law_filled" (top 66) (He.ga K "_law_filled") fd66 := F66
  have g66 := glo "_law_filled" (gl 52 _ rfl rfl)
  have pD := d_draw (P := P) (w := w) (base := base) (T := tabS K) fr F48 g48
  have pP := d_pick fr pD F49 g49
  have pS := d_pickS fr pD F49 g49
  have pN := d_names fr pD pP pS F50 g50
  have pW := d_worth fr pD pP F51 g51
  have pSc := d_scene fr pD pN F52 g52
  have pV := d_variable fr pD pP F53 g53
  have pR := d_row fr pD pP pV pW F54 g54
  have pQ := d_question fr pD pP pR F55 g55
  have pI1 := d_inP (P := P) (w := w) (base := base) (T := tabS K) F56 g56
  have pI := d_inR pI1 F56 g56
  have pNu := d_number fr pD F57 g57
  have pWe := d_web fr pD pP pW pNu F58 g58
  have pPa := d_parts (P := P) (w := w) (base := base) (T := tabS K) fr F59 g59
  have pMa := d_made Z.web pPa F60 g60
  have pGo := d_goes fr pI F61 g61
  have pSh := d_shuffled fr pD F62 g62
  have pOr := d_orders fr pSh F63 g63
  have pNo := d_none fr pD F64 g64
  have pTo := d_told Z F65 g65
  have pFi := d_filled fr pD pP F66 g66
  exact ⟨d_lawpen fr F47 g47, pD, pSc, pWe, pMa, pQ, pR, pGo, pSh, pOr, pNo, pTo, pFi⟩
/-- what the law is given -/
theorem law_given {H : Hp} {a : Addr} {ns : List Int} (hT : ∀ p ∈ tf.map (He.cT K), H p.2 = some (.tbl #[])) (hS : SqL K H a (ns.map V.int)) : SpR K (tabS K) (S_law K) [.ref a] H (fun v _ => v = .bl true) fun _ _ _ => False := by
  have tb : LamX.Tabs (tabS K) H := fun p hp => by
    unfold tabS at hp
    simp only [List.mem_cons, List.not_mem_nil, or_false] at hp
    rcases hp with rfl | rfl
    · exact .nil (hT _ (List.mem_map.mpr ⟨("Web", some "__init__"), by unfold tf; simp, rfl⟩))
    · exact .nil (hT _ (List.mem_map.mpr ⟨("step_of", none), by unfold tf; simp, rfl⟩))
  have key : ∀ R : Hp, (∀ b o, R b = some o → H b = some o) → (∀ b o, R b = some o → (∀ ps, o ≠ .tbl ps) ∧ ∀ c q, o ≠ LamX.CodeO c q) → SqL K R a (ns.map V.int) → SpR K (tabS K) (S_law K) [.ref a] H (fun v _ => v = .bl true) fun _ _ _ => False := fun R h1 h2 h3 =>
    ⟨fun _ => none, fun _ => none, R, [.ref a], fun d _ => d = .bl true, ⟨fun _ _ z => (nomatch z), fun _ _ z => (nomatch z), h1, fun _ => .inl rfl, fun _ => .inl rfl, fun _ => .inl rfl, tb, fun _ _ z => (nomatch z), h2, fun _ _ z => (nomatch z), fun _ _ z => (nomatch z)⟩, .cons (.ref a) .nil, ⟨a, ns, rfl, h3, fun _ => rfl⟩,
      fun v H' ⟨F, d, μ, hs, sm, r, e⟩ => by subst e; cases r; rfl⟩
  rcases hS with (z | ⟨o, z⟩) | z
  · refine key (upd (fun _ => none) a (.lst (ns.map V.int))) (fun b o e => ?_) (fun b o e => ?_) (.inl (.inl upd_same))
    · by_cases hb : b = a
      · subst hb; rw [upd_same] at e; cases e; exact z
      · rw [upd_ne hb] at e; cases e
    · by_cases hb : b = a
      · subst hb; rw [upd_same] at e; cases e
        exact ⟨(fun ps h => nomatch h), fun c q h => nomatch h⟩
      · rw [upd_ne hb] at e; cases e
  · refine key (upd (fun _ => none) a (.frz o (.lst (ns.map V.int)))) (fun b u e => ?_) (fun b u e => ?_) (.inl (.inr ⟨o, upd_same⟩))
    · by_cases hb : b = a
      · subst hb; rw [upd_same] at e; cases e; exact z
      · rw [upd_ne hb] at e; cases e
    · by_cases hb : b = a
      · subst hb; rw [upd_same] at e; cases e
        exact ⟨(fun ps h => nomatch h), fun c q h => nomatch h⟩
      · rw [upd_ne hb] at e; cases e
  · exact key (fun _ => none) (fun _ _ e => nomatch e) (fun _ _ e => nomatch e) (.inr z)
theorem facts {P : Program} {w : World} {K : PySem.W.Frag} {h : Heap} {mg : Str → Option Value} {f : Addr} (KX : K.In h) (G : h.Ns mainGlobals mg) (hfa : mg ("law" : Str) = some (.ref f)) (c : He.SaysX fa defs tabs tf ex w h K) :
    ∃ fd : FuncData, (∀ (s : Shared) (v : Value), BindsTo s fd ⟨[v], []⟩ [("_law_script", v)]) ∧ ∀ base : Heap, (∀ p ∈ tf.map (He.cT K), LamX.TabB base mg p.1 p.2) → FnOk P w K mg base CX0 18 f fd ["_law_script"] (SpR K (tabS K) (S_law K)) := by
  have cd := c.t.d
  obtain ⟨fd, F⟩ := cd.def_ 53 (d := dF "law" 67) rfl
  have F : FnP K "law" (top 67) (He.ga K "law") fd := F
  have gl : ∀ (n : Nat) (d : He.DefD), defs[n]? = some d → d.at_.2.isNone = true → He.Fa.glo d.at_.1 ∈ fa := fun n d hd hn => List.mem_append_right _ (List.mem_map.mpr ⟨d, List.mem_filter.mpr ⟨List.mem_of_getElem? hd, hn⟩, rfl⟩)
  have e := hfa.symm.trans (He.glo_ok KX G (cd.facts (gl 53 _ rfl rfl)))
  cases e
  have b := FunD.bindsA (ps := ["_law_script"]) F fun _ _ _ _ _ _ us hl => match us, hl with | [_], _ => rfl
  refine ⟨fd, fun s v => b s [v] rfl, fun base TB => ?_⟩
  have Z := prg_of (P := P) (base := base) KX G c TB
  exact ok_law Z (law_of KX G c Z) F
end
end Ws
/-! Hd4: the end. -/
open PySem PySem.W PySem.Calls PyProof.Rows
theorem PySem.Challenge.cw_websplit_k26_whole_searched_by_any_order_holds : PySem.Challenge.rw_websplit_k26_whole_searched_by_any_order.Holds := by
  w_on; o_law
  refine HandSHeadRun.head_any (r := OpenLaw.row PySem.Challenge.rw_websplit_k26_whole_searched_by_any_order) (q := view (OpenLaw.row PySem.Challenge.rw_websplit_k26_whole_searched_by_any_order).prog [67]) (H := Ws.hk) (ob := Ws.ob) (M := 20000) (loose := Ws.loose) (d := HandSHeadRun.topDef (OpenLaw.row PySem.Challenge.rw_websplit_k26_whole_searched_by_any_order).prog 67) (kwd := []) Ws.ob_eq
    (by kernel_rfl) (fun s => by kernel_rfl) Ws.run (by kernel_rfl) (by kernel_rfl) (by kernel_rfl) (by rfl) (by first | assumption | decide +kernel) (by decide +kernel) ⟨rfl, rfl, rfl, rfl, rfl, by decide +kernel⟩ ?hw ?hc
  case hw => w_witness2
  case hc =>
    refine LamX.walk_ofTsE (l := PySem.Challenge.rw_websplit_k26_whole_searched_by_any_order) (n := 63) (k := 18) (x := "_law_script") (CX := fun _ => L2.CX0) rfl (by decide) (by kernel_rfl) ⟨rfl, by decide, by decide⟩ ?F (fun _ _ _ _ _ z => z)
    intro w mg f h Y G hmg0
    obtain ⟨K, KX, c⟩ := Y
    have hmg : mg ("law" : PySem.Str) = some (.ref f) := by
      have e : (HandSHeadRun.topDef (OpenLaw.row PySem.Challenge.rw_websplit_k26_whole_searched_by_any_order).prog 67).name = ("law" : PySem.Str) := by kernel_rfl
      rw [← e]
      exact hmg0
    obtain ⟨fd, hb, hF⟩ := Ws.facts (P := (PySem.Challenge.rw_websplit_k26_whole_searched_by_any_order).prog) (w := w) KX G hmg c
    refine ⟨K, KX, fd, Ws.tf.map (He.cT K), Ws.SpR K (Ws.tabS K) (Ws.S_law K), fun p hp => ?_, fun p hp => ?_, fun p hp => ?_, hb, fun H a ns _ _ hT hS => Ws.law_given hT hS, fun base _ _ TB => hF base TB⟩
    · obtain ⟨q, hq, rfl⟩ := List.mem_map.mp hp
      exact c.empty q hq
    · obtain ⟨q, hq, rfl⟩ := List.mem_map.mp hp
      exact c.out q hq
    · obtain ⟨q, hq, rfl⟩ := List.mem_map.mp hp
      exact PySem.W.codeHd_of_K KX (c.hd q hq)
