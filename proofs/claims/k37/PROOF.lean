import PyProof.Rows.All
import Wide.All
import OpenK.AllK
import Wide.FinOn
import KE.KStateDown
import PySem.Challenge.RW_goesout_k37_whole_excess_by_all_requests
import HandS.ForMost
import HandS.Nested
import HandS.Words
import HandS.Base
import HandS.Call
import HandS.Ends
import HandS.More
import HandS.WordsExc
import HandS.Defaults
import HandS.Head0
import HandS.Head1
import HandS.Head2
import HandS.HeadEnd
import HandS.HeadHook1
import HandS.HeadHook2
import HandS.HeadHook3
import HandS.HeadHook4
import HandS.HeadWalk
import HandS.Style
import HandS.IsInst
import HandS.TupAny
import HandS.TupMul
import HandS.Conv
import HandS.RaiseMore
import KE.KIndexOf
import KE.KDictKeyed
import KE.KDictWalk
import KE.KDictDisplayH
import KE.KDictPairs
import HandS.DictTup
import KE.KDictItemsList
import KE.KDictSum
import KE.KDictCopyH
import KE.SortKeyHeap
import PyProof.MinMaxWalk
import PyProof.WalkInts
import PyProof.WalksMore
import HandS.CallLocal
import KE.KLam
import HandS.TupLe
import HandS.Exc
set_option Elab.async false
set_option linter.all false
set_option maxRecDepth 100000
set_option maxHeartbeats 1000000
/-! H0: the statements of the program's top. -/
namespace G
open PySem PySem.Spec PyProof.Rows L2
def topS (i : Nat) : Stmt := PySem.Challenge.pw_goesout_k37_whole_excess_by_all_requests.main.body.getD i (.Pass ⟨0, 0, 0, 0⟩)
abbrev sInit : Stmt := inClass (topS 15) 0
abbrev sSince : Stmt := inClass (topS 15) 1
end G
set_option maxHeartbeats 0
/-! H1: the head: facts by names, the run. Written by h1.py. -/
namespace GH
open PySem PySem.Spec PyProof.Rows L2 LamX G
def dF (x : Str) (i : Nat) : He.DefD := ⟨(x, none), x, x, defArgs (topS i), defBody (topS i), defScope (topS i), [], []⟩
def fn0 : List He.DefD := [dF "graph_of" 11, dF "followed" 12, dF "end_of" 13, dF "around_of" 14, dF "improved" 16, dF "climbed" 17, dF "are_prices" 18, dF "is_whole" 24, dF "is_order" 25, dF "is_move" 26, dF "are_moves" 27, dF "is_label_row" 28, dF "is_rule" 29, dF "need_rule" 30, dF "is_thing" 31, dF "first_state" 32, dF "is_row" 33, dF "is_state_of" 34, dF "arranged" 35, dF "step" 36]
def fn1 : List He.DefD := [dF "need_rules" 38, dF "named" 39, dF "first_pair" 40, dF "start" 41, dF "is_pair" 42, dF "how_many" 43, dF "moved_by" 44, dF "steps_of" 45, dF "moved" 46, dF "walk_of" 47, dF "need_walk" 48, dF "walked" 49, dF "all_steps" 50, dF "gain" 52, dF "excess" 53, dF "excess_of" 54, dF "shows_most" 55, dF "shows_excess" 56, dF "is_requests" 59, dF "need_requests" 60]
def fn2 : List He.DefD := [dF "run_of" 61, dF "checked_run" 62, dF "hits" 63, dF "misses" 64, dF "need_greater" 66, dF "is_within" 67, dF "nested" 68, dF "_law_both" 70, dF "_law_grows" 71, dF "_law_rows_up_to" 72, dF "_law_pen" 73, dF "_law_cell_at" 74, dF "_law_draw" 75, dF "_law_front" 76, dF "_law_one_label" 77, dF "_law_queue" 78, dF "_law_recent" 79, dF "_law_newest" 80, dF "_law_mixed" 81, dF "_law_moves" 82]
def fn3 : List He.DefD := [dF "_law_drawn" 83, dF "_law_pick" 84, dF "_law_rising_two" 85, dF "_law_wishes" 86, dF "_law_more" 87, dF "_law_most_right" 88, dF "_law_right" 89, dF "law" 90]
def fnR : List He.DefD := [⟨("Record", some "__init__"), "__init__", "Record.__init__", defArgs sInit, defBody sInit, defScope sInit, [], []⟩, ⟨("Record", some "since"), "since", "Record.since", defArgs sSince, defBody sSince, defScope sSince, [], []⟩]
def fnA : List He.DefD := fn0 ++ (fn1 ++ (fn2 ++ (fn3 ++ (fnR))))
def faF : List He.Fa := [.free "isinstance", .free "int", .free "bool", .free "len", .free "range", .free "tuple", .free "list", .free "dict", .free "sorted", .free "max", .free "min", .free "sum", .free "all", .free "repr"]
def faI : List He.Fa := [.int "BLANK" (-1), .int "MOST_PLACES" (4), .int "MOST_LABELS" (16), .int "MOST_THING" (99), .int "MOST_NODES" (2000), .int "MOST_REQUESTS" (60)]
def faR : List He.Fa := [.glo "Record", .cls "Record", .noat "Record" "node", .noat "Record" "value", .noat "Record" "before", .noat "Record" "walk", .meth "Record" "since", .mkr "Record"]
def faG0 : List He.Fa := [.glo "graph_of", .glo "followed", .glo "end_of", .glo "around_of", .glo "improved", .glo "climbed", .glo "are_prices", .glo "is_whole", .glo "is_order", .glo "is_move", .glo "are_moves", .glo "is_label_row", .glo "is_rule", .glo "need_rule", .glo "is_thing", .glo "first_state", .glo "is_row", .glo "is_state_of", .glo "arranged", .glo "step"]
def faG1 : List He.Fa := [.glo "need_rules", .glo "named", .glo "first_pair", .glo "start", .glo "is_pair", .glo "how_many", .glo "moved_by", .glo "steps_of", .glo "moved", .glo "walk_of", .glo "need_walk", .glo "walked", .glo "all_steps", .glo "gain", .glo "excess", .glo "excess_of", .glo "shows_most", .glo "shows_excess", .glo "is_requests", .glo "need_requests"]
def faG2 : List He.Fa := [.glo "run_of", .glo "checked_run", .glo "hits", .glo "misses", .glo "need_greater", .glo "is_within", .glo "nested", .glo "_law_both", .glo "_law_grows", .glo "_law_rows_up_to", .glo "_law_pen", .glo "_law_cell_at", .glo "_law_draw", .glo "_law_front", .glo "_law_one_label", .glo "_law_queue", .glo "_law_recent", .glo "_law_newest", .glo "_law_mixed", .glo "_law_moves"]
def faG3 : List He.Fa := [.glo "_law_drawn", .glo "_law_pick", .glo "_law_rising_two", .glo "_law_wishes", .glo "_law_more", .glo "_law_most_right", .glo "_law_right", .glo "law"]
def faA : List He.Fa := faF ++ (faI ++ (faR ++ (faG0 ++ (faG1 ++ (faG2 ++ (faG3))))))
def tfA : List He.Defn := [("steps_of", none), ("improved", none), ("shows_most", none)]
def exA (K : PySem.W.Frag) : Bool := decide ((He.cT K ("steps_of", none)).2 ≠ (He.cT K ("improved", none)).2) && (decide ((He.cT K ("steps_of", none)).2 ≠ (He.cT K ("shows_most", none)).2) && decide ((He.cT K ("improved", none)).2 ≠ (He.cT K ("shows_most", none)).2))
abbrev R : PySem.W.OpenRow := PySem.W.OpenLaw.row PySem.Challenge.rw_goesout_k37_whole_excess_by_all_requests
abbrev qv : Program := PySem.W.view R.prog [90]
/-- what an object leads to: a dict's values, a function's code, a class's names and bases -/
def refsM (o : Obj) : List Addr := match o.data with
  | .dict es _ => es.toList.flatMap fun e => He.refV e.val
  | .func fd => He.refV fd.code
  | .cls cd => cd.ns :: cd.mro.flatMap He.refV
  | _ => []
def nextM (g : Addr → Option Obj) (as : List Addr) : List Addr := as.flatMap fun a => match g a with
  | some o => refsM o
  | none => []
def asM (g : Addr → Option Obj) : List Addr := [mainGlobals] ++ (nextM g [mainGlobals] ++ (nextM g (nextM g [mainGlobals]) ++ (nextM g (nextM g (nextM g [mainGlobals])) ++ nextM g (nextM g (nextM g (nextM g [mainGlobals]))))))
def kM (g : Addr → Option Obj) : PySem.W.Frag := He.frG g (asM g)
/-- one def's table: empty, not looked at -/
def tabM (g : Addr → Option Obj) (K : PySem.W.Frag) (p : He.Defn) : Bool := PySem.W.codeHdIn K (He.cT K p).1 (He.cT K p).2 && ((K.lookup (He.cT K p).2).isNone && (match g (He.cT K p).2 with
  | some o => He.emptyTab o
  | none => false))
def obM (g : Addr → Option Obj) (K : PySem.W.Frag) : He.AlD × Bool := (He.obsD faA fnA K, exA K && tfA.all (tabM g K))
structure SaysM (h : Heap) (K : PySem.W.Frag) : Prop where
  d : He.SaysD faA fnA K
  more : exA K = true
  hd : ∀ p ∈ tfA, PySem.W.codeHdIn K (He.cT K p).1 (He.cT K p).2 = true
  out : ∀ p ∈ tfA, K.lookup (He.cT K p).2 = none
  emp : ∀ p ∈ tfA, h.get? (He.cT K p).2 = some { cls := .none, data := .fields #[] }
theorem saysM_of {h : Heap} {K : PySem.W.Frag} (e : obM h.get? K = (He.valD fnA, true)) : SaysM h K := by
  have e1 : He.obsD faA fnA K = He.valD fnA := congrArg Prod.fst e
  have e2 : (exA K && tfA.all (tabM h.get? K)) = true := congrArg Prod.snd e
  have e3 := Bool.and_eq_true_iff.mp e2
  have key : ∀ p ∈ tfA, PySem.W.codeHdIn K (He.cT K p).1 (He.cT K p).2 = true ∧ K.lookup (He.cT K p).2 = none ∧ h.get? (He.cT K p).2 = some { cls := .none, data := .fields #[] } := fun p hp => by
    have q := Bool.and_eq_true_iff.mp (List.all_eq_true.mp e3.2 p hp)
    have r := Bool.and_eq_true_iff.mp q.2
    refine ⟨q.1, Option.isNone_iff_eq_none.mp r.1, ?_⟩
    have z := r.2
    split at z
    · rename_i o ho
      rw [ho, He.emptyTab_eq z]
    · cases z
  exact ⟨e1, e3.1, fun p hp => (key p hp).1, fun p hp => (key p hp).2.1, fun p hp => (key p hp).2.2⟩
abbrev hk : PySem.W.Hook where
  α := He.AlD × Bool
  obs := fun s => obM s.heap.get? (kM s.heap.get?)
  val := fun _ => (He.valD fnA, true)
  says := fun _ h => ∃ K : PySem.W.Frag, K.In h ∧ SaysM h K
  of := fun _ s e => ⟨kM s.heap.get?, He.frG_in, saysM_of e⟩
  keeps := fun _ _ _ ⟨K, hK, c⟩ k => ⟨K, PySem.W.Frag.In.keeps hK k, ⟨c.d, c.more, c.hd, c.out, fun p hp => k _ _ (c.emp p hp)⟩⟩
def ob (s : PySem.W.SharedT) : He.AlD × Bool := obM (HandSHeadRun.getT s) (kM (HandSHeadRun.getT s))
theorem ob_eq (s : PySem.W.SharedT) : ob s = hk.obs s.abs := by
  have e : HandSHeadRun.getT s = s.abs.heap.get? := funext (HandSHeadRun.getT_eq s)
  show obM (HandSHeadRun.getT s) (kM (HandSHeadRun.getT s)) = obM s.abs.heap.get? (kM s.abs.heap.get?)
  rw [e]
def names0 : List Str := ["GoesError", "NoPlaces", "NoRule", "NoRequests", "NoArrangement", "NoNumber", "NoWalk", "TooMany", "MOST_NODES", "graph_of", "followed", "end_of"]
def names1 : List Str := ["around_of", "Record", "improved", "climbed", "are_prices", "MOST_PLACES", "MOST_LABELS", "MOST_THING", "BLANK", "is_whole", "is_order", "is_move"]
def names2 : List Str := ["are_moves", "is_label_row", "is_rule", "need_rule", "is_thing", "first_state", "is_row", "is_state_of", "arranged", "step", "need_rules", "named"]
def names3 : List Str := ["first_pair", "start", "is_pair", "how_many", "moved_by", "steps_of", "moved", "walk_of", "need_walk", "walked", "all_steps", "gain"]
def names4 : List Str := ["excess", "excess_of", "shows_most", "shows_excess", "MOST_REQUESTS", "is_requests", "need_requests", "run_of", "checked_run", "hits", "misses", "need_greater"]
def names5 : List Str := ["is_within", "nested", "_law_both", "_law_grows", "_law_rows_up_to", "_law_pen", "_law_cell_at", "_law_draw", "_law_front", "_law_one_label", "_law_queue", "_law_recent"]
def names6 : List Str := ["_law_newest", "_law_mixed", "_law_moves", "_law_drawn", "_law_pick", "_law_rising_two", "_law_wishes", "_law_more", "_law_most_right", "_law_right"]
def names : List Str := names0 ++ (names1 ++ (names2 ++ (names3 ++ (names4 ++ (names5 ++ (names6))))))
abbrev dL : DefRec := HandSHeadRun.topDef R.prog 90
theorem h_open : PySem.W.opening R.prog = PySem.W.plainProg R.prog.main.scope.names := by kernel_rfl
theorem h_fence (s : Shared) : fenceModules? R.prog s = some s := by kernel_rfl
theorem h_def : PySem.W.defOf qv R.name = some (dL, []) := by kernel_rfl
theorem h_the : R.prog.theDef R.name = some (dL.params, dL.body, dL.scope) := by kernel_rfl
theorem h_kw : PySem.W.kwWritten? dL.params.kwonlyargs dL.params.kw_defaults = some [] := by kernel_rfl
theorem h_dflt : dL.params.defaults = [] := by kernel_rfl
theorem h_name : dL.name = ("law" : Str) := by kernel_rfl
theorem run (w : World) : HandSHeadRun.RunEq R qv hk ob 20000 names w := by
  intro os
  kernel_rfl
end GH
set_option maxHeartbeats 1000000
/-! G1: values at the data level, environments of slots, judgements that carry no heap. -/
namespace G
open PySem PySem.Spec PyProof.Rows L2 LamX NdefX

/-! ### values -/
structure Ob where
  p : V → Hp → Prop
  mono : ∀ (v : V) (H H' : Hp), Same H H' → p v H → p v H'

inductive Vl where
  | non | bl (b : Bool) | int (i : Int) | str (x : Str) | tup (xs : List Vl) | tud (xs : List Vl) | lst (xs : List Vl) | ob (o : Ob)

mutual
def rep (K : PySem.W.Frag) (H : Hp) : Vl → V → Prop
  | .non, v => v = .non
  | .bl b, v => v = .bl b
  | .int i, v => v = .int i
  | .str x, v => v = .str x
  | .tup xs, v => ∃ a vs, v = .ref a ∧ SqT K H a vs ∧ reps K H xs vs
  | .tud xs, v => ∃ a vs o, v = .ref a ∧ H a = some (.frz o (.tup vs)) ∧ o.dict = none ∧ reps K H xs vs
  | .lst xs, v => ∃ a vs, v = .ref a ∧ H a = some (.lst vs) ∧ reps K H xs vs
  | .ob o, v => o.p v H
def reps (K : PySem.W.Frag) (H : Hp) : List Vl → List V → Prop
  | [], vs => vs = []
  | x :: xs, vs => ∃ v r, vs = v :: r ∧ rep K H x v ∧ reps K H xs r
end

section
variable {K : PySem.W.Frag} {H H' : Hp}
theorem Same.sqT {a : Addr} {xs : List V} (e : Same H H') (h : SqT K H a xs) : SqT K H' a xs := by
  rcases h with (h | ⟨o, h⟩) | h
  · exact .inl (.inl (e _ _ h))
  · exact .inl (.inr ⟨o, e _ _ h⟩)
  · exact .inr h
mutual
theorem rep_mono (e : Same H H') : ∀ (x : Vl) (v : V), rep K H x v → rep K H' x v
  | .non, _, h => h
  | .bl _, _, h => h
  | .int _, _, h => h
  | .str _, _, h => h
  | .tup xs, _, ⟨a, vs, e1, e2, e3⟩ => ⟨a, vs, e1, Same.sqT e e2, reps_mono e xs vs e3⟩
  | .tud xs, _, ⟨a, vs, o, e1, e2, e4, e3⟩ => ⟨a, vs, o, e1, e _ _ e2, e4, reps_mono e xs vs e3⟩
  | .lst xs, _, ⟨a, vs, e1, e2, e3⟩ => ⟨a, vs, e1, e _ _ e2, reps_mono e xs vs e3⟩
  | .ob o, v, h => o.mono v H H' e h
theorem reps_mono (e : Same H H') : ∀ (xs : List Vl) (vs : List V), reps K H xs vs → reps K H' xs vs
  | [], _, h => h
  | x :: xs, _, ⟨v, r, e1, e2, e3⟩ => ⟨v, r, e1, rep_mono e x v e2, reps_mono e xs r e3⟩
end
theorem reps_length : ∀ {xs : List Vl} {vs : List V}, reps K H xs vs → xs.length = vs.length
  | [], _, h => by have h : _ = [] := h; subst h; rfl
  | x :: xs, _, ⟨v, r, e1, e2, e3⟩ => by subst e1; simp [reps_length e3]
theorem reps_get : ∀ {xs : List Vl} {vs : List V} {i : Nat} {x : Vl}, reps K H xs vs → xs[i]? = some x → ∃ v, vs[i]? = some v ∧ rep K H x v
  | [], _, _, _, _, e => by simp at e
  | y :: xs, _, 0, x, ⟨v, r, e1, e2, e3⟩, e => by
    subst e1; simp at e; subst e; exact ⟨v, rfl, e2⟩
  | y :: xs, _, i + 1, x, ⟨v, r, e1, e2, e3⟩, e => by
    subst e1
    have e : xs[i]? = some x := by simpa using e
    obtain ⟨u, h1, h2⟩ := reps_get e3 e
    exact ⟨u, by simpa using h1, h2⟩
theorem reps_at : ∀ {xs : List Vl} {vs : List V} {i : Nat} {v : V}, reps K H xs vs → vs[i]? = some v → ∃ x, xs[i]? = some x ∧ rep K H x v
  | [], _, _, _, h, e => by have h : _ = [] := h; subst h; simp at e
  | y :: xs, _, 0, x, ⟨v, r, e1, e2, e3⟩, e => by
    subst e1; simp at e; subst e; exact ⟨y, rfl, e2⟩
  | y :: xs, _, i + 1, x, ⟨v, r, e1, e2, e3⟩, e => by
    subst e1
    have e : r[i]? = some x := by simpa using e
    obtain ⟨u, h1, h2⟩ := reps_at e3 e
    exact ⟨u, by simpa using h1, h2⟩
theorem reps_append : ∀ {xs ys : List Vl} {vs ws : List V}, reps K H xs vs → reps K H ys ws → reps K H (xs ++ ys) (vs ++ ws)
  | [], _, _, _, h, h2 => by have h : _ = [] := h; subst h; exact h2
  | x :: xs, ys, _, ws, ⟨v, r, e1, e2, e3⟩, h2 => by
    subst e1
    exact ⟨v, r ++ ws, rfl, e2, reps_append e3 h2⟩
theorem reps_snoc {xs : List Vl} {vs : List V} {x : Vl} {v : V} (h : reps K H xs vs) (h2 : rep K H x v) : reps K H (xs ++ [x]) (vs ++ [v]) := reps_append h ⟨v, [], rfl, h2, rfl⟩
theorem reps_take : ∀ {xs : List Vl} {vs : List V} (n : Nat), reps K H xs vs → reps K H (xs.take n) (vs.take n)
  | _, _, 0, _ => rfl
  | [], _, n + 1, h => by have h : _ = [] := h; subst h; rfl
  | x :: xs, _, n + 1, ⟨v, r, e1, e2, e3⟩ => by subst e1; exact ⟨v, r.take n, rfl, e2, reps_take n e3⟩
theorem reps_drop : ∀ {xs : List Vl} {vs : List V} (n : Nat), reps K H xs vs → reps K H (xs.drop n) (vs.drop n)
  | _, _, 0, h => h
  | [], _, n + 1, h => by have h : _ = [] := h; subst h; rfl
  | x :: xs, _, n + 1, ⟨v, r, e1, e2, e3⟩ => by subst e1; exact reps_drop n e3
theorem reps_of_get : ∀ {xs : List Vl} {vs : List V}, xs.length = vs.length → (∀ (i : Nat) (x : Vl) (v : V), xs[i]? = some x → vs[i]? = some v → rep K H x v) → reps K H xs vs
  | [], [], _, _ => rfl
  | [], _ :: _, h, _ => by simp at h
  | _ :: _, [], h, _ => by simp at h
  | x :: xs, v :: vs, h, k => ⟨v, vs, rfl, k 0 x v rfl rfl, reps_of_get (by simpa using h) fun i y u h1 h2 => k (i + 1) y u (by simpa using h1) (by simpa using h2)⟩
theorem reps_nil_r {vs : List V} (h : reps K H [] vs) : vs = [] := h
theorem reps_replicate {x : Vl} {v : V} (h : rep K H x v) : ∀ n : Nat, reps K H (List.replicate n x) (List.replicate n v)
  | 0 => rfl
  | n + 1 => ⟨v, _, rfl, h, reps_replicate h n⟩
theorem reps_ints : ∀ {ns : List Int} {vs : List V}, reps K H (ns.map Vl.int) vs → vs = ns.map V.int
  | [], _, h => h
  | n :: ns, _, ⟨v, r, e1, e2, e3⟩ => by
    have e2 : v = .int n := e2
    rw [e1, e2, reps_ints e3]; rfl
theorem ints_reps : ∀ (ns : List Int), reps K H (ns.map Vl.int) (ns.map V.int)
  | [] => rfl
  | n :: ns => ⟨_, _, rfl, rfl, ints_reps ns⟩
theorem bls_reps : ∀ (ns : List Bool), reps K H (ns.map Vl.bl) (ns.map V.bl)
  | [] => rfl
  | n :: ns => ⟨_, _, rfl, rfl, bls_reps ns⟩
theorem reps_bls : ∀ {ns : List Bool} {vs : List V}, reps K H (ns.map Vl.bl) vs → vs = ns.map V.bl
  | [], _, h => h
  | n :: ns, _, ⟨v, r, e1, e2, e3⟩ => by
    have e2 : v = .bl n := e2
    rw [e1, e2, reps_bls e3]; rfl
end

theorem rep_tud {K : PySem.W.Frag} {H : Hp} {xs : List Vl} {v : V} (h : rep K H (.tud xs) v) : rep K H (.tup xs) v := by
  obtain ⟨a, vs, o, e1, e2, e4, e3⟩ := h
  exact ⟨a, vs, e1, .inl (.inr ⟨o, e2⟩), e3⟩

/-! ### as data -/
mutual
def toD : Vl → PyData
  | .non => .none
  | .bl b => .bool b
  | .int i => .int i
  | .str x => .str x
  | .tup xs => .tuple (toDs xs)
  | .tud xs => .tuple (toDs xs)
  | .lst xs => .list (toDs xs)
  | .ob _ => .none
def toDs : List Vl → List PyData
  | [] => []
  | x :: xs => toD x :: toDs xs
end
mutual
def plain : Vl → Bool
  | .tup xs => plains xs
  | .tud xs => plains xs
  | .lst xs => plains xs
  | .ob _ => false
  | _ => true
def plains : List Vl → Bool
  | [] => true
  | x :: xs => plain x && plains xs
end
section
variable {K : PySem.W.Frag} {H : Hp}
mutual
theorem rep_dp : ∀ (x : Vl) (v : V), plain x = true → rep K H x v → Dp K H v (toD x)
  | .non, _, _, h => by have h : _ = _ := h; subst h; exact Dp.non
  | .bl b, _, _, h => by have h : _ = _ := h; subst h; exact Dp.bl b
  | .int i, _, _, h => by have h : _ = _ := h; subst h; exact Dp.int i
  | .str s, _, _, h => by have h : _ = _ := h; subst h; exact Dp.str s
  | .tup xs, _, p, ⟨a, vs, e1, e2, e3⟩ => by subst e1; exact Dp.tup e2 (reps_dp xs vs p e3)
  | .tud xs, _, p, ⟨a, vs, o, e1, e2, e4, e3⟩ => by subst e1; exact Dp.tup (Or.inl (Or.inr ⟨o, e2⟩)) (reps_dp xs vs p e3)
  | .lst xs, _, p, ⟨a, vs, e1, e2, e3⟩ => by subst e1; exact Dp.lst (SqL.of e2) (reps_dp xs vs p e3)
  | .ob _, _, p, _ => by cases p
theorem reps_dp : ∀ (xs : List Vl) (vs : List V), plains xs = true → reps K H xs vs → DpAll K H vs (toDs xs)
  | [], _, _, h => by have h : _ = _ := h; subst h; exact DpAll.nil
  | x :: xs, _, p, ⟨v, r, e1, e2, e3⟩ => by
    subst e1
    have p : (plain x && plains xs) = true := p
    obtain ⟨p1, p2⟩ := Bool.and_eq_true_iff.mp p
    exact DpAll.cons (rep_dp x v p1 e2) (reps_dp xs r p2 e3)
end
end

/-! ### owned objects, slots -/
structure Own where
  r : Addr → HO → Hp → Prop
  mono : ∀ (l : Addr) (o : HO) (H H' : Hp), Same H H' → r l o H → r l o H'
  nt : ∀ (l : Addr) (o : HO) (H : Hp), r l o H → ∀ ps, o ≠ .tbl ps
  nc : ∀ (l : Addr) (o : HO) (H : Hp), r l o H → ∀ c q, o ≠ CodeO c q

inductive Sl where
  | no
  | va (x : Vl)
  | ow (f : Option Addr) (o : Own)

def owL (K : PySem.W.Frag) (xs : List Vl) : Own where
  r := fun _ o H => ∃ vs, o = .lst vs ∧ vs.length ≤ sizeLine ∧ reps K H xs vs
  mono := fun _ _ _ _ e ⟨vs, h1, h2, h3⟩ => ⟨vs, h1, h2, reps_mono e xs vs h3⟩
  nt := fun _ o H ⟨vs, h1, _⟩ ps z => by rw [h1] at z; cases z
  nc := fun _ o H ⟨vs, h1, _⟩ c q z => by rw [h1] at z; cases z

/-! ### states -/
structure Sta (T : List NTab) (S H : Hp) : Prop where
  sub : Same S H
  tb : TabsN T H
  nt : ∀ a ps, S a ≠ some (.tbl ps)

/-- an object of H that no one but its owner changes -/
def Frm (H : Hp) (a : Addr) : Prop := ∃ o, H a = some o ∧ (∀ ps, o ≠ .tbl ps) ∧ ∀ c q, o ≠ CodeO c q
theorem Frm.ne {H : Hp} {a : Addr} (h : Frm H a) : H a ≠ none := fun z => by obtain ⟨o, e, _⟩ := h; rw [e] at z; cases z
theorem Frm.ext {H H' : Hp} {a : Addr} (h : Frm H a) (e : ExtN H H') : Frm H' a := let ⟨o, h1, h2, h3⟩ := h; ⟨o, e _ _ h1 h2, h2, h3⟩
structure Stp (T : List NTab) (S H S' H' : Hp) : Prop where
  st : Sta T S' H'
  s : Same S S'
  h : ExtN H H'
  fr : ∀ a, S a = none → Frm H a → S' a = none
  lv : ∀ a, H a ≠ none → H' a ≠ none

section
variable {T : List NTab} {S H S1 H1 S2 H2 : Hp}
theorem Sta.refl (h : Sta T S H) : Stp T S H S H := ⟨h, Same.refl _, ExtN.refl _, fun _ h _ => h, fun _ h => h⟩
theorem Stp.trans (a : Stp T S H S1 H1) (b : Stp T S1 H1 S2 H2) : Stp T S H S2 H2 :=
  ⟨b.st, a.s.trans b.s, a.h.trans b.h, fun x h1 h2 => b.fr x (a.fr x h1 h2) (h2.ext a.h), fun x h => b.lv x (a.lv x h)⟩
theorem same_new {H : Hp} {p : Addr} {o : HO} (h : H p = none) : Same H (upd H p o) := fun b u e => by
  rw [upd_ne (ne_of_none e h)]; exact e
theorem upd_lv {H : Hp} {p a : Addr} {o : HO} (h : H a ≠ none) : upd H p o a ≠ none := by
  unfold upd; split
  · simp
  · exact h
/-- a new object, kept as a value -/
theorem Sta.newV (h : Sta T S H) {p : Addr} {o : HO} (hp : H p = none) (no : ∀ ps, o ≠ .tbl ps) : Stp T S H (upd S p o) (upd H p o) := by
  have sp : S p = none := by
    cases e : S p with
    | none => rfl
    | some u => rw [h.sub _ _ e] at hp; cases hp
  refine ⟨⟨fun b u e => ?_, h.tb.ext (same_new hp), fun a ps e => ?_⟩, same_new sp, ExtN.of (same_new hp), fun a h1 h2 => ?_, fun a h1 => upd_lv h1⟩
  · by_cases q : b = p
    · subst q; rw [upd_same] at e ⊢; exact e
    · rw [upd_ne q] at e ⊢; exact h.sub _ _ e
  · by_cases q : a = p
    · subst q; rw [upd_same] at e; exact no ps (Option.some.inj e)
    · rw [upd_ne q] at e; exact h.nt a ps e
  · by_cases q : a = p
    · subst q; exact absurd hp h2.ne
    · rw [upd_ne q]; exact h1
/-- a new object, owned -/
theorem Sta.newO (h : Sta T S H) {p : Addr} {o : HO} (hp : H p = none) : Stp T S H S (upd H p o) := by
  have sp : S p = none := by
    cases e : S p with
    | none => rfl
    | some u => rw [h.sub _ _ e] at hp; cases hp
  refine ⟨⟨fun b u e => ?_, h.tb.ext (same_new hp), h.nt⟩, Same.refl _, ExtN.of (same_new hp), fun a h1 h2 => h1, fun a h1 => upd_lv h1⟩
  rw [upd_ne (ne_of_none e sp)]; exact h.sub _ _ e
/-- an object made on the way becomes a value -/
theorem Stp.freeze (a : Stp T S H S1 H1) {l : Addr} {o : HO} (h0 : H l = none) (h1 : S1 l = none) (h2 : H1 l = some o) (no : ∀ ps, o ≠ .tbl ps) : Stp T S H (upd S1 l o) H1 := by
  refine ⟨⟨fun b u e => ?_, a.st.tb, fun x ps e => ?_⟩, a.s.trans (same_new h1), a.h, fun x h3 h4 => ?_, a.lv⟩
  · by_cases q : b = l
    · subst q; rw [upd_same] at e; rw [h2]; exact e
    · rw [upd_ne q] at e; exact a.st.sub _ _ e
  · by_cases q : x = l
    · subst q; rw [upd_same] at e; exact no ps (Option.some.inj e)
    · rw [upd_ne q] at e; exact a.st.nt x ps e
  · by_cases q : x = l
    · subst q; exact absurd h0 h4.ne
    · rw [upd_ne q]; exact a.fr x h3 h4
end

/-! ### environments -/
structure Bs where
  T : List NTab
  H0 : Hp
  S0 : Hp
  L0 : List Addr

structure Env (K : PySem.W.Frag) (B : Bs) (Γ : List Sl) (σ : L2.St) (S H : Hp) : Prop where
  st : Sta B.T S H
  bs : Same B.S0 S
  fr : ∀ a o, B.H0 a = some o → a ∉ B.L0 → (∀ ps, o ≠ .tbl ps) → H a = some o
  nw : ∀ a, B.S0 a = none → Frm B.H0 a → S a = none ∧ Frm H a
  lv : ∀ a, B.H0 a ≠ none → H a ≠ none
  len : Γ.length = σ.length
  va : ∀ (i : Nat) (x : Vl), Γ[i]? = some (.va x) → ∃ v, σ[i]? = some (some v) ∧ rep K S x v
  ow : ∀ (i : Nat) (f : Option Addr) (o : Own), Γ[i]? = some (.ow f o) → ∃ l ho, σ[i]? = some (some (.ref l)) ∧ (f = none ∨ f = some l) ∧ S l = none ∧ H l = some ho ∧ o.r l ho S ∧ (f = none → B.H0 l = none)
  dis : ∀ (i j : Nat) (f g : Option Addr) (o o' : Own) (l : Addr), Γ[i]? = some (.ow f o) → Γ[j]? = some (.ow g o') → σ[i]? = some (some (.ref l)) → σ[j]? = some (some (.ref l)) → i = j

section
variable {K : PySem.W.Frag} {B : Bs} {Γ : List Sl} {σ : L2.St} {S H S' H' : Hp}
theorem Env.step (e : Env K B Γ σ S H) (t : Stp B.T S H S' H') : Env K B Γ σ S' H' where
  st := t.st
  bs := e.bs.trans t.s
  fr := fun a o h1 h2 h3 => t.h a o (e.fr a o h1 h2 h3) h3
  nw := fun a h1 h2 => ⟨t.fr a (e.nw a h1 h2).1 (e.nw a h1 h2).2, (e.nw a h1 h2).2.ext t.h⟩
  lv := fun a h => t.lv a (e.lv a h)
  len := e.len
  va := fun i x h => by
    obtain ⟨v, h1, h2⟩ := e.va i x h
    exact ⟨v, h1, rep_mono t.s x v h2⟩
  ow := fun i f o h => by
    obtain ⟨l, ho, h1, h2, h3, h4, h5, h6⟩ := e.ow i f o h
    exact ⟨l, ho, h1, h2, t.fr l h3 ⟨ho, h4, o.nt l ho S h5, o.nc l ho S h5⟩, t.h l ho h4 (o.nt l ho S h5), o.mono _ _ _ _ t.s h5, h6⟩
  dis := e.dis
theorem getElem?_set_cases {α : Type} {l : List α} {i j : Nat} {a b : α} (h : (l.set i a)[j]? = some b) : (i = j ∧ a = b) ∨ (i ≠ j ∧ l[j]? = some b) := by
  by_cases e : i = j
  · subst e
    rw [List.getElem?_set] at h
    simp only [if_true] at h
    split at h
    · exact .inl ⟨rfl, Option.some.inj h⟩
    · cases h
  · rw [List.getElem?_set_ne e] at h; exact .inr ⟨e, h⟩
/-- a slot gets a value -/
theorem Env.setV (e : Env K B Γ σ S H) {i : Nat} {v : V} {x : Vl} (hi : i < Γ.length) (h : rep K S x v) : Env K B (Γ.set i (.va x)) (σ.set i (some v)) S H where
  st := e.st
  bs := e.bs
  fr := e.fr
  nw := e.nw
  lv := e.lv
  len := by simp [e.len]
  va := fun j y hj => by
    rcases getElem?_set_cases hj with ⟨h1, h2⟩ | ⟨h1, h2⟩
    · subst h1; cases h2
      exact ⟨v, by rw [List.getElem?_set_self (by rw [← e.len]; exact hi)], h⟩
    · obtain ⟨u, h3, h4⟩ := e.va j y h2
      exact ⟨u, by rw [List.getElem?_set_ne h1]; exact h3, h4⟩
  ow := fun j f o hj => by
    rcases getElem?_set_cases hj with ⟨h1, h2⟩ | ⟨h1, h2⟩
    · cases h2
    · obtain ⟨l, ho, h3, h4⟩ := e.ow j f o h2
      exact ⟨l, ho, by rw [List.getElem?_set_ne h1]; exact h3, h4⟩
  dis := fun a b f g o o' l h1 h2 h3 h4 => by
    rcases getElem?_set_cases h1 with ⟨_, q⟩ | ⟨q1, q2⟩
    · cases q
    rcases getElem?_set_cases h2 with ⟨_, q⟩ | ⟨q3, q4⟩
    · cases q
    rw [List.getElem?_set_ne q1] at h3
    rw [List.getElem?_set_ne q3] at h4
    exact e.dis a b f g o o' l q2 q4 h3 h4
/-- a slot is forgotten, whatever stands there -/
theorem Env.forget (e : Env K B Γ σ S H) (i : Nat) (ov : Option V) : Env K B (Γ.set i .no) (σ.set i ov) S H where
  st := e.st
  bs := e.bs
  fr := e.fr
  nw := e.nw
  lv := e.lv
  len := by simp [e.len]
  va := fun j y hj => by
    rcases getElem?_set_cases hj with ⟨h1, h2⟩ | ⟨h1, h2⟩
    · cases h2
    · obtain ⟨u, h3, h4⟩ := e.va j y h2
      exact ⟨u, by rw [List.getElem?_set_ne h1]; exact h3, h4⟩
  ow := fun j f o hj => by
    rcases getElem?_set_cases hj with ⟨h1, h2⟩ | ⟨h1, h2⟩
    · cases h2
    · obtain ⟨l, ho, h3, h4⟩ := e.ow j f o h2
      exact ⟨l, ho, by rw [List.getElem?_set_ne h1]; exact h3, h4⟩
  dis := fun a b f g o o' l h1 h2 h3 h4 => by
    rcases getElem?_set_cases h1 with ⟨_, q⟩ | ⟨q1, q2⟩
    · cases q
    rcases getElem?_set_cases h2 with ⟨_, q⟩ | ⟨q3, q4⟩
    · cases q
    rw [List.getElem?_set_ne q1] at h3
    rw [List.getElem?_set_ne q3] at h4
    exact e.dis a b f g o o' l q2 q4 h3 h4
/-- a slot gets a new object of its own -/
theorem Env.setO (e : Env K B Γ σ S H) {i : Nat} {l : Addr} {ho : HO} {o : Own} (hi : i < Γ.length) (hS : S l = none) (hH : H l = some ho) (hr : o.r l ho S) (h0 : B.H0 l = none)
    (hn : ∀ (j : Nat) (f : Option Addr) (o' : Own), Γ[j]? = some (.ow f o') → i ≠ j → σ[j]? ≠ some (some (.ref l))) : Env K B (Γ.set i (.ow none o)) (σ.set i (some (.ref l))) S H where
  st := e.st
  bs := e.bs
  fr := e.fr
  nw := e.nw
  lv := e.lv
  len := by simp [e.len]
  va := fun j y hj => by
    rcases getElem?_set_cases hj with ⟨h1, h2⟩ | ⟨h1, h2⟩
    · cases h2
    · obtain ⟨u, h3, h4⟩ := e.va j y h2
      exact ⟨u, by rw [List.getElem?_set_ne h1]; exact h3, h4⟩
  ow := fun j f o' hj => by
    rcases getElem?_set_cases hj with ⟨h1, h2⟩ | ⟨h1, h2⟩
    · subst h1; cases h2
      exact ⟨l, ho, by rw [List.getElem?_set_self (by rw [← e.len]; exact hi)], .inl rfl, hS, hH, hr, fun _ => h0⟩
    · obtain ⟨l', ho', h3, h4⟩ := e.ow j f o' h2
      exact ⟨l', ho', by rw [List.getElem?_set_ne h1]; exact h3, h4⟩
  dis := fun a b f g o1 o2 l' h1 h2 h3 h4 => by
    have hs : i < σ.length := by rw [← e.len]; exact hi
    rcases getElem?_set_cases h1 with ⟨q1, q2⟩ | ⟨q1, q2⟩
    · subst q1
      rcases getElem?_set_cases h2 with ⟨q3, q4⟩ | ⟨q3, q4⟩
      · exact q3
      · rw [List.getElem?_set_self hs] at h3
        rw [List.getElem?_set_ne q3] at h4
        cases h3
        exact absurd h4 (hn b _ _ q4 q3)
    · rcases getElem?_set_cases h2 with ⟨q3, q4⟩ | ⟨q3, q4⟩
      · subst q3
        rw [List.getElem?_set_self hs] at h4
        rw [List.getElem?_set_ne q1] at h3
        cases h4
        exact absurd h3 (hn a _ _ q2 q1)
      · rw [List.getElem?_set_ne q1] at h3
        rw [List.getElem?_set_ne q3] at h4
        exact e.dis a b f g o1 o2 l' q2 q4 h3 h4
/-- an owned object is changed -/
theorem Env.write (e : Env K B Γ σ S H) {i : Nat} {f : Option Addr} {o o' : Own} {l : Addr} {ho' : HO} (hi : Γ[i]? = some (.ow f o)) (hl : σ[i]? = some (some (.ref l))) (hr : o'.r l ho' S) (hw : ∀ l, f = some l → l ∈ B.L0) : Env K B (Γ.set i (.ow f o')) σ S (upd H l ho') := by
  obtain ⟨l', ho, h1, h2, h3, h4, h5, h6⟩ := e.ow i f o hi
  have el : l' = l := by rw [hl] at h1; cases h1; rfl
  subst el
  have hlen : i < Γ.length := (List.getElem?_eq_some_iff.mp hi).1
  have nt : ∀ ps, ho ≠ .tbl ps := o.nt _ ho S h5
  refine ⟨⟨fun b u q => ?_, fun p hp => ?_, e.st.nt⟩, e.bs, fun a u q1 q2 q3 => ?_, fun a q1 q2 => ⟨(e.nw a q1 q2).1, by
    by_cases z : a = l'
    · subst z; exact ⟨ho', upd_same, o'.nt _ ho' S hr, o'.nc _ ho' S hr⟩
    · obtain ⟨u, u1, u2, u3⟩ := (e.nw a q1 q2).2
      exact ⟨u, by rw [upd_ne z]; exact u1, u2, u3⟩⟩, fun a h => upd_lv (e.lv a h), by simp [e.len], fun j y hj => ?_, fun j g u hj => ?_, fun a b f' g o1 o2 l1 q1 q2 q3 q4 => ?_⟩
  · rw [upd_ne (ne_of_none q h3)]; exact e.st.sub _ _ q
  · obtain ⟨ps, t1, t2, t3⟩ := e.st.tb p hp
    refine ⟨ps, ?_, t2, fun pos cv hc => ?_⟩
    · rw [upd_ne]
      · exact t1
      · intro z; rw [z, h4] at t1; exact nt ps (Option.some.inj t1)
    · obtain ⟨c, e1, e2⟩ := t3 pos cv hc
      refine ⟨c, e1, ?_⟩
      rw [upd_ne]
      · exact e2
      · intro z
        rw [z, h4] at e2
        exact o.nc _ ho S h5 _ _ (Option.some.inj e2)
  · rw [upd_ne]
    · exact e.fr a u q1 q2 q3
    · intro z; subst z
      cases f with
      | none => rw [h6 rfl] at q1; cases q1
      | some l2 =>
        rcases h2 with h2 | h2
        · cases h2
        · cases h2; exact q2 (hw _ rfl)
  · rcases getElem?_set_cases hj with ⟨_, q⟩ | ⟨_, q⟩
    · cases q
    · exact e.va j y q
  · rcases getElem?_set_cases hj with ⟨q1, q⟩ | ⟨q1, q⟩
    · subst q1; cases q
      exact ⟨l', ho', hl, h2, h3, upd_same, hr, h6⟩
    · obtain ⟨l2, ho2, t1, t2, t3, t4, t5, t6⟩ := e.ow j g u q
      refine ⟨l2, ho2, t1, t2, t3, ?_, t5, t6⟩
      rw [upd_ne]
      · exact t4
      · intro z; subst z
        exact q1 (e.dis i j f g o u l2 hi q hl t1)
  · have k1 : ∃ f o, Γ[a]? = some (.ow f o) := by
      rcases getElem?_set_cases q1 with ⟨z, _⟩ | ⟨_, z⟩
      · subst z; exact ⟨_, _, hi⟩
      · exact ⟨_, _, z⟩
    have k2 : ∃ f o, Γ[b]? = some (.ow f o) := by
      rcases getElem?_set_cases q2 with ⟨z, _⟩ | ⟨_, z⟩
      · subst z; exact ⟨_, _, hi⟩
      · exact ⟨_, _, z⟩
    obtain ⟨f1, p1, k1⟩ := k1
    obtain ⟨f2, p2, k2⟩ := k2
    exact e.dis a b f1 f2 p1 p2 l1 k1 k2 q3 q4
/-- an owned slot becomes a value -/
theorem Env.freeze (e : Env K B Γ σ S H) {i : Nat} {o : Own} {x : Vl} (hi : Γ[i]? = some (.ow none o)) (h : ∀ (l : Addr) (ho : HO) (S' : Hp), Same S S' → S' l = some ho → o.r l ho S → rep K S' x (.ref l)) : ∃ S', Same S S' ∧ Env K B (Γ.set i (.va x)) σ S' H := by
  obtain ⟨l, ho, h1, h2, h3, h4, h5, h6⟩ := e.ow i none o hi
  have hlen : i < Γ.length := (List.getElem?_eq_some_iff.mp hi).1
  have sm : Same S (upd S l ho) := same_new h3
  refine ⟨upd S l ho, sm, ⟨fun b u q => ?_, e.st.tb, fun a ps q => ?_⟩, e.bs.trans sm, e.fr, fun a q1 q2 => ?_, e.lv, by simp [e.len], fun j y hj => ?_, fun j g u hj => ?_, fun a b f g o1 o2 l1 q1 q2 q3 q4 => ?_⟩
  · by_cases z : b = l
    · subst z; rw [upd_same] at q; rw [h4]; exact q
    · rw [upd_ne z] at q; exact e.st.sub _ _ q
  · by_cases z : a = l
    · subst z; rw [upd_same] at q; exact o.nt _ ho S h5 ps (Option.some.inj q)
    · rw [upd_ne z] at q; exact e.st.nt _ _ q
  · by_cases z : a = l
    · subst z; exact absurd (h6 rfl) q2.ne
    · rw [upd_ne z]; exact e.nw a q1 q2
  · rcases getElem?_set_cases hj with ⟨q1, q⟩ | ⟨q1, q⟩
    · subst q1; cases q
      exact ⟨.ref l, h1, h l ho _ sm upd_same h5⟩
    · obtain ⟨v, q2, q3⟩ := e.va j y q
      exact ⟨v, q2, rep_mono sm _ _ q3⟩
  · rcases getElem?_set_cases hj with ⟨q1, q⟩ | ⟨q1, q⟩
    · cases q
    · obtain ⟨l2, ho2, t1, t2, t3, t4, t5, t6⟩ := e.ow j g u q
      refine ⟨l2, ho2, t1, t2, ?_, t4, u.mono _ _ _ _ sm t5, t6⟩
      rw [upd_ne]
      · exact t3
      · intro z; subst z
        exact q1 (e.dis i j none g o u l2 hi q h1 t1)
  · rcases getElem?_set_cases q1 with ⟨_, q⟩ | ⟨_, k1⟩
    · cases q
    rcases getElem?_set_cases q2 with ⟨_, q⟩ | ⟨_, k2⟩
    · cases q
    exact e.dis a b f g o1 o2 l1 k1 k2 q3 q4
end
end G
set_option maxHeartbeats 1000000
/-! G2: judgements that carry no heap, and their rules. -/
namespace G
open PySem PySem.Spec PyProof.Rows L2 LamX NdefX

section
variable {X : Cx}
theorem PE_imp {e : Expr} {t t' : TE} (h : PE X e t) (k : ∀ σ H Q, t' σ H Q → t σ H Q) : PE X e t' := ⟨fun pins s σ H Q I q => h.run pins s σ H Q I (k σ H Q q)⟩
theorem PT_imp {e : Expr} {t t' : TT} (h : PT X e t) (k : ∀ σ H Q, t' σ H Q → t σ H Q) : PT X e t' := ⟨fun pins s σ H Q I q => h.run pins s σ H Q I (k σ H Q q)⟩
theorem PW_imp {e : Expr} {t t' : TT} (h : PW X e t) (k : ∀ σ H Q, t' σ H Q → t σ H Q) : PW X e t' := ⟨fun w pins s σ H Q I q => h.run w pins s σ H Q I (k σ H Q q)⟩
theorem PA_imp {es : List Expr} {t t' : TA} (h : PA X es t) (k : ∀ σ H Q, t' σ H Q → t σ H Q) : PA X es t' := ⟨fun p pins s σ H Q I q => h.run p pins s σ H Q I (k σ H Q q)⟩
theorem PS_imp {st : Stmt} {t t' : TS} (h : PS X st t) (k : ∀ D σ H, t' D σ H → t D σ H) : PS X st t' := ⟨fun pins s σ H D I q => h.run pins s σ H D I (k D σ H q)⟩
theorem PSs_imp {st : List Stmt} {t t' : TS} (h : PSs X st t) (k : ∀ D σ H, t' D σ H → t D σ H) : PSs X st t' := ⟨fun pins s σ H D I q => h.run pins s σ H D I (k D σ H q)⟩
theorem PG_imp {e : Expr} {t t' : TG} (h : PG X e t) (k : ∀ v σ H Q, t' v σ H Q → t v σ H Q) : PG X e t' := ⟨fun pins s σ H v u Q I r q => h.run pins s σ H v u Q I r (k v σ H Q q)⟩
theorem PGs_imp {es : List Expr} {t t' : TGs} (h : PGs X es t) (k : ∀ v σ H Q, t' v σ H Q → t v σ H Q) : PGs X es t' := ⟨fun pins s σ H v u Q I r q => h.run pins s σ H v u Q I r (k v σ H Q q)⟩
theorem PE_ex {ι : Sort _} {e : Expr} {t : ι → TE} (h : ∀ i, PE X e (t i)) : PE X e (fun σ H Q => ∃ i, t i σ H Q) := ⟨fun pins s σ H Q I ⟨i, q⟩ => (h i).run pins s σ H Q I q⟩
theorem PT_ex {ι : Sort _} {e : Expr} {t : ι → TT} (h : ∀ i, PT X e (t i)) : PT X e (fun σ H Q => ∃ i, t i σ H Q) := ⟨fun pins s σ H Q I ⟨i, q⟩ => (h i).run pins s σ H Q I q⟩
theorem PSs_ex {ι : Sort _} {e : List Stmt} {t : ι → TS} (h : ∀ i, PSs X e (t i)) : PSs X e (fun D σ H => ∃ i, t i D σ H) := ⟨fun pins s σ H D I ⟨i, q⟩ => (h i).run pins s σ H D I q⟩
end

/-! ### judgements -/
def tG (K : PySem.W.Frag) (B : Bs) (Γ : List Sl) (x : Vl) : TE := fun σ H Q => ∃ S, Env K B Γ σ S H ∧ ∀ v S' H', Stp B.T S H S' H' → rep K S' x v → Q v H'
/-- a new object of one's own -/
def tO (K : PySem.W.Frag) (B : Bs) (Γ : List Sl) (o : Own) : TE := fun σ H Q => ∃ S, Env K B Γ σ S H ∧ ∀ l ho S' H', Stp B.T S H S' H' → H l = none → S' l = none → H' l = some ho → o.r l ho S' → Q (.ref l) H'
def tT (K : PySem.W.Frag) (B : Bs) (Γ : List Sl) (b : Bool) : TT := fun σ H Q => ∃ S, Env K B Γ σ S H ∧ ∀ S' H', Stp B.T S H S' H' → Q b H'
def tA (K : PySem.W.Frag) (B : Bs) (Γ : List Sl) (xs : List Vl) : TA := fun σ H Q => ∃ S, Env K B Γ σ S H ∧ ∀ vs S' H', Stp B.T S H S' H' → reps K S' xs vs → Q vs H'
def tN (K : PySem.W.Frag) (B : Bs) (Γ Γ' : List Sl) : TS := fun D σ H => ∃ S, Env K B Γ σ S H ∧ ∀ σ' S' H', Env K B Γ' σ' S' H' → D.nx σ' H'
def tR (K : PySem.W.Frag) (B : Bs) (Γ Γ' : List Sl) (y : Vl) : TS := fun D σ H => ∃ S, Env K B Γ σ S H ∧ ∀ v σ' S' H', Env K B Γ' σ' S' H' → rep K S' y v → D.rt v H'

abbrev GE (X : Cx) (B : Bs) (Γ : List Sl) (e : Expr) (x : Vl) : Prop := PE X e (tG X.K B Γ x)
abbrev GO (X : Cx) (B : Bs) (Γ : List Sl) (e : Expr) (o : Own) : Prop := PE X e (tO X.K B Γ o)
abbrev GT (X : Cx) (B : Bs) (Γ : List Sl) (e : Expr) (b : Bool) : Prop := PT X e (tT X.K B Γ b)
abbrev GW (X : Cx) (B : Bs) (Γ : List Sl) (e : Expr) (b : Bool) : Prop := PW X e (tT X.K B Γ b)
abbrev GA (X : Cx) (B : Bs) (Γ : List Sl) (es : List Expr) (xs : List Vl) : Prop := PA X es (tA X.K B Γ xs)
abbrev GS (X : Cx) (B : Bs) (Γ : List Sl) (s : Stmt) (Γ' : List Sl) : Prop := PS X s (tN X.K B Γ Γ')
abbrev GSs (X : Cx) (B : Bs) (Γ : List Sl) (s : List Stmt) (Γ' : List Sl) : Prop := PSs X s (tN X.K B Γ Γ')
abbrev GR (X : Cx) (B : Bs) (Γ : List Sl) (s : Stmt) (Γ' : List Sl) (y : Vl) : Prop := PS X s (tR X.K B Γ Γ' y)
abbrev GRs (X : Cx) (B : Bs) (Γ : List Sl) (s : List Stmt) (Γ' : List Sl) (y : Vl) : Prop := PSs X s (tR X.K B Γ Γ' y)

section
variable {X : Cx} {B : Bs} {Γ Γ' Γ1 : List Sl} {x y z : Vl} {a b c e : Expr} {pos : Pos}

/-! ### names, constants -/
theorem ge_var {i : Nat} {n : Str} {p : Pos} (hg : Γ[i]? = some (.va y)) (hN : X.N[i]? = some n) (hv : Vis X.env.scope n) (hd : (n == ("__debug__" : Str)) = false := by decide) (hcd : (n == ("__classdict__" : Str)) = false := by decide) : GE X B Γ (.Name n p) y :=
  PE_imp (pe_var hN hv hd hcd) fun σ H Q ⟨S, e, k⟩ => by
    obtain ⟨v, h1, h2⟩ := e.va i y hg
    exact ⟨v, h1, k v S H e.st.refl h2⟩
theorem ge_c {v : V} (h : PE X e (tC v)) (hr : ∀ S, rep X.K S y v) : GE X B Γ e y := PE_imp h fun σ H Q ⟨S, en, k⟩ => k v S H en.st.refl (hr S)
theorem ge_int {i j p} : GE X B Γ (.Constant (.int i) j p) (.int i) := ge_c pe_int fun _ => rfl
theorem ge_bl {i j p} : GE X B Γ (.Constant (.bool i) j p) (.bl i) := ge_c pe_bl fun _ => rfl
theorem ge_non {j p} : GE X B Γ (.Constant .none j p) .non := ge_c pe_non fun _ => rfl
theorem ge_str {i j p} : GE X B Γ (.Constant (.str i) j p) (.str i) := ge_c pe_str fun _ => rfl
/-- a whole number of the module -/
theorem ge_gint {n : Str} {i : Int} {p : Pos} (hg : Gl X n) (hm : ∃ t, X.mg n = some (.int i t)) (hd : (n == ("__debug__" : Str)) = false := by decide) : GE X B Γ (.Name n p) (.int i) := by
  obtain ⟨t, hm⟩ := hm
  exact ge_c (v := .int i) (pe_glob hg hm ⟨t, rfl⟩ hd) fun _ => rfl
theorem ge_is (h : GE X B Γ e x) (q : x = y) : GE X B Γ e y := q ▸ h
theorem gt_is {d d' : Bool} (h : GT X B Γ e d) (q : d = d') : GT X B Γ e d' := q ▸ h
/-- a new list becomes a value -/
theorem go_v {xs : List Vl} (h : GO X B Γ e (owL X.K xs)) : GE X B Γ e (.lst xs) := PE_imp h fun σ H Q ⟨S, en, k⟩ => ⟨S, en, fun l ho S' H' t h0 h1 h2 ⟨vs, e1, e2, e3⟩ => by
  subst e1
  have t' := t.freeze h0 h1 h2 (fun ps z => by cases z)
  exact k (.ref l) _ H' t' ⟨l, vs, rfl, upd_same, reps_mono (same_new h1) _ _ e3⟩⟩

/-! ### operators by values -/
def RO (X : Cx) (B : Bs) (r : R2) (x y z : Vl) : Prop := ∀ (v u : V) (S H : Hp) (Q : VK), Sta B.T S H → rep X.K S x v → rep X.K S y u → (∀ v' S' H', Stp B.T S H S' H' → rep X.K S' z v' → Q v' H') → r v u H Q
def ROO (X : Cx) (B : Bs) (r : R2) (x y : Vl) (o : Own) : Prop := ∀ (v u : V) (S H : Hp) (Q : VK), Sta B.T S H → rep X.K S x v → rep X.K S y u → (∀ l ho S' H', Stp B.T S H S' H' → H l = none → S' l = none → H' l = some ho → o.r l ho S' → Q (.ref l) H') → r v u H Q
def RA (X : Cx) (B : Bs) (r : List V → Hp → VK → Prop) (xs : List Vl) (z : Vl) : Prop := ∀ (vs : List V) (S H : Hp) (Q : VK), Sta B.T S H → reps X.K S xs vs → (∀ v' S' H', Stp B.T S H S' H' → rep X.K S' z v' → Q v' H') → r vs H Q
def RAO (X : Cx) (B : Bs) (r : List V → Hp → VK → Prop) (xs : List Vl) (o : Own) : Prop := ∀ (vs : List V) (S H : Hp) (Q : VK), Sta B.T S H → reps X.K S xs vs → (∀ l ho S' H', Stp B.T S H S' H' → H l = none → S' l = none → H' l = some ho → o.r l ho S' → Q (.ref l) H') → r vs H Q

theorem two_imp {r : R2} {σ : L2.St} {H : Hp} {Q : VK} (hr : RO X B r x y z) : tG X.K B Γ z σ H Q → tOp r (tG X.K B Γ x) (tG X.K B Γ y) σ H Q := fun ⟨S, en, k⟩ =>
  ⟨S, en, fun v S1 H1 t1 h1 => ⟨S1, en.step t1, fun u S2 H2 t2 h2 => hr v u S2 H2 Q t2.st (rep_mono t2.s _ _ h1) h2 fun v' S3 H3 t3 h3 => k v' S3 H3 ((t1.trans t2).trans t3) h3⟩⟩
theorem ge_op {op : Operator} {r : R2} (ho : OpR X (binaryOp op) r) (ha : GE X B Γ a x) (hb : GE X B Γ b y) (hr : RO X B r x y z) : GE X B Γ (.BinOp a op b pos) z :=
  PE_imp (pe_op ho ha hb) fun σ H Q q => two_imp hr q
theorem go_op {op : Operator} {r : R2} {o : Own} (ho : OpR X (binaryOp op) r) (ha : GE X B Γ a x) (hb : GE X B Γ b y) (hr : ROO X B r x y o) : GO X B Γ (.BinOp a op b pos) o :=
  PE_imp (pe_op ho ha hb) fun σ H Q ⟨S, en, k⟩ => ⟨S, en, fun v S1 H1 t1 h1 => ⟨S1, en.step t1, fun u S2 H2 t2 h2 => hr v u S2 H2 Q t2.st (rep_mono t2.s _ _ h1) h2 fun l ho S3 H3 t3 n1 n2 h3 h4 =>
    k l ho S3 H3 ((t1.trans t2).trans t3) (Classical.byContradiction fun n => (t1.trans t2).lv l n n1) n2 h3 h4⟩⟩
theorem ge_cmp {op : CmpOp} {r : R2} (ho : OpR X (compareOp op) r) (ha : GE X B Γ a x) (hb : GE X B Γ b y) (hr : RO X B r x y z) (hm : behindInMarks op b = false) : GE X B Γ (.Compare a [op] [b] pos) z :=
  PE_imp (pe_cmpR ho ha hb hm) fun σ H Q q => two_imp hr q
theorem gt_cmp {op : CmpOp} {r : R2} {d : Bool} (ho : OpR X (compareOp op) r) (ha : GE X B Γ a x) (hb : GE X B Γ b y) (hr : RO X B r x y (.bl d)) (hm : behindInMarks op b = false) : GT X B Γ (.Compare a [op] [b] pos) d :=
  PT_imp (pt_cmpR ho ha hb hm) fun σ H Q ⟨S, en, k⟩ => two_imp hr ⟨S, en, fun v S1 H1 t1 h1 => ⟨d, h1, k S1 H1 t1⟩⟩
theorem ge_ix {r : R2} (ho : IxR X r) (ha : GE X B Γ a x) (hb : GE X B Γ b y) (hs : PlainIx b) (hr : RO X B r x y z) : GE X B Γ (.Subscript a b pos) z :=
  PE_imp (pe_ix ho ha hb hs) fun σ H Q q => two_imp hr q
/-! whole numbers -/
theorem ro_I0 {g : Int → Int → Int} {i j : Int} : RO X B (rI0 fun i j => .int (g i j)) (.int i) (.int j) (.int (g i j)) := fun v u S H Q st h1 h2 k =>
  ⟨i, j, h1, h2, k _ S H st.refl rfl⟩
theorem ro_B0 {g : Int → Int → Bool} {i j : Int} : RO X B (rI0 fun i j => .bl (g i j)) (.int i) (.int j) (.bl (g i j)) := fun v u S H Q st h1 h2 k =>
  ⟨i, j, h1, h2, k _ S H st.refl rfl⟩
theorem ro_I {C : Int → Int → Prop} {g : Int → Int → Int} {i j : Int} (hc : C i j) : RO X B (rI C fun i j => .int (g i j)) (.int i) (.int j) (.int (g i j)) := fun v u S H Q st h1 h2 k =>
  ⟨i, j, h1, h2, hc, k _ S H st.refl rfl⟩
theorem ge_add {i j : Int} (ha : GE X B Γ a (.int i)) (hb : GE X B Γ b (.int j)) : GE X B Γ (.BinOp a .Add b pos) (.int (i + j)) := ge_op op_add ha hb ro_I0
theorem ge_sub {i j : Int} (ha : GE X B Γ a (.int i)) (hb : GE X B Γ b (.int j)) : GE X B Γ (.BinOp a .Sub b pos) (.int (i - j)) := ge_op op_sub ha hb ro_I0
theorem ge_mul {i j : Int} (ha : GE X B Γ a (.int i)) (hb : GE X B Γ b (.int j)) (h : CMul i j) : GE X B Γ (.BinOp a .Mult b pos) (.int (i * j)) := ge_op op_mul ha hb (ro_I h)
theorem ge_mod {i j : Int} (ha : GE X B Γ a (.int i)) (hb : GE X B Γ b (.int j)) (h : 0 < j) : GE X B Γ (.BinOp a .Mod b pos) (.int (i % j)) := ge_op op_mod ha hb (ro_I h)
theorem gt_lt {i j : Int} (ha : GE X B Γ a (.int i)) (hb : GE X B Γ b (.int j)) : GT X B Γ (.Compare a [.Lt] [b] pos) (decide (i < j)) := gt_cmp op_lt ha hb ro_B0 (nomark _)
theorem gt_gt {i j : Int} (ha : GE X B Γ a (.int i)) (hb : GE X B Γ b (.int j)) : GT X B Γ (.Compare a [.Gt] [b] pos) (decide (j < i)) := gt_cmp op_gt ha hb ro_B0 (nomark _)
theorem ge_lt {i j : Int} (ha : GE X B Γ a (.int i)) (hb : GE X B Γ b (.int j)) : GE X B Γ (.Compare a [.Lt] [b] pos) (.bl (decide (i < j))) := ge_cmp op_lt ha hb ro_B0 (nomark _)
theorem ge_le {i j : Int} (ha : GE X B Γ a (.int i)) (hb : GE X B Γ b (.int j)) : GE X B Γ (.Compare a [.LtE] [b] pos) (.bl (decide (i ≤ j))) := ge_cmp op_le ha hb ro_B0 (nomark _)
theorem ge_gt {i j : Int} (ha : GE X B Γ a (.int i)) (hb : GE X B Γ b (.int j)) : GE X B Γ (.Compare a [.Gt] [b] pos) (.bl (decide (j < i))) := ge_cmp op_gt ha hb ro_B0 (nomark _)
/-- == of whole numbers, texts, bools, None -/
def scv : Vl → Option V
  | .non => some .non
  | .bl b => some (.bl b)
  | .int i => some (.int i)
  | .str s => some (.str s)
  | _ => none
theorem scv_rep {v u : V} {S : Hp} (h : scv x = some v) (r : rep X.K S x u) : u = v := by
  cases x <;> cases h <;> exact r
theorem ro_eq {v u : V} {d : Bool} (h1 : scv x = some v) (h2 : scv y = some u) (hs : scal v u = true) (hd : decide (v = u) = d) : RO X B rEq x y (.bl d) := fun v' u' S H Q st q1 q2 k => by
  have e1 := scv_rep (X := X) h1 q1
  have e2 := scv_rep (X := X) h2 q2
  subst e1 e2 hd
  exact ⟨hs, k _ S H st.refl rfl⟩
theorem ro_ne {v u : V} {d : Bool} (h1 : scv x = some v) (h2 : scv y = some u) (hs : scal v u = true) (hd : (!decide (v = u)) = d) : RO X B rNe x y (.bl d) := fun v' u' S H Q st q1 q2 k => by
  have e1 := scv_rep (X := X) h1 q1
  have e2 := scv_rep (X := X) h2 q2
  subst e1 e2 hd
  exact ⟨hs, k _ S H st.refl rfl⟩
theorem dec_int (i j : Int) : decide (V.int i = V.int j) = decide (i = j) := by
  by_cases h : i = j
  · subst h; simp
  · rw [decide_eq_false h, decide_eq_false]; intro e; cases e; exact h rfl
theorem gt_eqI {i j : Int} (ha : GE X B Γ a (.int i)) (hb : GE X B Γ b (.int j)) : GT X B Γ (.Compare a [.Eq] [b] pos) (decide (i = j)) := gt_cmp op_eq ha hb (ro_eq rfl rfl rfl (dec_int i j)) (nomark _)
theorem gt_neI {i j : Int} (ha : GE X B Γ a (.int i)) (hb : GE X B Γ b (.int j)) : GT X B Γ (.Compare a [.NotEq] [b] pos) (!decide (i = j)) := gt_cmp op_ne ha hb (ro_ne rfl rfl rfl (by rw [dec_int])) (nomark _)
theorem ge_eqI {i j : Int} (ha : GE X B Γ a (.int i)) (hb : GE X B Γ b (.int j)) : GE X B Γ (.Compare a [.Eq] [b] pos) (.bl (decide (i = j))) := ge_cmp op_eq ha hb (ro_eq rfl rfl rfl (dec_int i j)) (nomark _)
theorem dec_str (i j : Str) : decide (V.str i = V.str j) = decide (i = j) := by
  by_cases h : i = j
  · subst h; simp
  · rw [decide_eq_false h, decide_eq_false]; intro e; cases e; exact h rfl
theorem gt_eqS {i j : Str} (ha : GE X B Γ a (.str i)) (hb : GE X B Γ b (.str j)) : GT X B Γ (.Compare a [.Eq] [b] pos) (decide (i = j)) := gt_cmp op_eq ha hb (ro_eq rfl rfl rfl (dec_str i j)) (nomark _)
theorem gt_neS {i j : Str} (ha : GE X B Γ a (.str i)) (hb : GE X B Γ b (.str j)) : GT X B Γ (.Compare a [.NotEq] [b] pos) (!decide (i = j)) := gt_cmp op_ne ha hb (ro_ne rfl rfl rfl (by rw [dec_str])) (nomark _)
theorem ge_eqS {i j : Str} (ha : GE X B Γ a (.str i)) (hb : GE X B Γ b (.str j)) : GE X B Γ (.Compare a [.Eq] [b] pos) (.bl (decide (i = j))) := ge_cmp op_eq ha hb (ro_eq rfl rfl rfl (dec_str i j)) (nomark _)
/-- == of data at any depth -/
theorem ro_eqD {d : Bool} (hx : plain x = true) (hy : plain y = true) (sx : SeqAt.shaped (toD x) = true) (sy : SeqAt.shaped (toD y) = true) (hd : PyData.eqv (toD x) (toD y) = d) : RO X B (rEqD X.K) x y (.bl d) := fun v u S H Q st q1 q2 k => by
  subst hd
  exact ⟨_, _, rep_dp _ _ hx (rep_mono st.sub _ _ q1), rep_dp _ _ hy (rep_mono st.sub _ _ q2), sx, sy, k _ S H st.refl rfl⟩
theorem ro_neD {d : Bool} (hx : plain x = true) (hy : plain y = true) (sx : SeqAt.shaped (toD x) = true) (sy : SeqAt.shaped (toD y) = true) (hd : (!PyData.eqv (toD x) (toD y)) = d) : RO X B (rNeD X.K) x y (.bl d) := fun v u S H Q st q1 q2 k => by
  subst hd
  exact ⟨_, _, rep_dp _ _ hx (rep_mono st.sub _ _ q1), rep_dp _ _ hy (rep_mono st.sub _ _ q2), sx, sy, k _ S H st.refl rfl⟩
/-- is None -/
theorem gt_isN {d : Bool} {j p} (ha : GE X B Γ a x) (hd : ∀ v S, rep X.K S x v → decide (v = .non) = d) : GT X B Γ (.Compare a [.Is] [.Constant .none j p] pos) d :=
  gt_cmp op_isN ha ge_non (fun v u S H Q st q1 q2 k => ⟨q2, by rw [hd v S q1]; exact k _ S H st.refl rfl⟩) (nomark _)
theorem gt_notN {d : Bool} {j p} (ha : GE X B Γ a x) (hd : ∀ v S, rep X.K S x v → (!decide (v = .non)) = d) : GT X B Γ (.Compare a [.IsNot] [.Constant .none j p] pos) d :=
  gt_cmp op_notN ha ge_non (fun v u S H Q st q1 q2 k => ⟨q2, by rw [hd v S q1]; exact k _ S H st.refl rfl⟩) (nomark _)
theorem ge_notN {d : Bool} {j p} (ha : GE X B Γ a x) (hd : ∀ v S, rep X.K S x v → (!decide (v = .non)) = d) : GE X B Γ (.Compare a [.IsNot] [.Constant .none j p] pos) (.bl d) :=
  ge_cmp op_notN ha ge_non (fun v u S H Q st q1 q2 k => ⟨q2, by rw [hd v S q1]; exact k _ S H st.refl rfl⟩) (nomark _)
/-- a < b < c, the first answer true -/
theorem ge_chain {op op' : CmpOp} {r r' : R2} {w : Vl} (ho : OpR X (compareOp op) r) (ho' : OpR X (compareOp op') r') (ha : GE X B Γ a x) (hb : GE X B Γ b y) (hc : GE X B Γ c w) (hr : RO X B r x y (.bl true)) (hr' : RO X B r' y w z)
    (hm : lastMarks [op, op'] [b, c] = false := by with_unfolding_all rfl) : GE X B Γ (.Compare a [op, op'] [b, c] pos) z :=
  PE_imp (pe_chain ho ho' ha hb hc hm) fun σ H Q ⟨S, en, k⟩ => ⟨S, en, fun v S1 H1 t1 h1 => ⟨S1, en.step t1, fun u S2 H2 t2 h2 => hr v u S2 H2 _ t2.st (rep_mono t2.s _ _ h1) h2 fun v' S3 H3 t3 h3 =>
    ⟨true, h3, by
      refine iteT ?_
      exact ⟨S3, ((en.step t1).step t2).step t3, fun w' S4 H4 t4 h4 => hr' u w' S4 H4 Q t4.st (rep_mono (t3.s.trans t4.s) _ _ h2) h4 fun v'' S5 H5 t5 h5 => k v'' S5 H5 ((((t1.trans t2).trans t3).trans t4).trans t5) h5⟩⟩⟩⟩
theorem gt_chain {op op' : CmpOp} {r r' : R2} {w : Vl} {d : Bool} (ho : OpR X (compareOp op) r) (ho' : OpR X (compareOp op') r') (ha : GE X B Γ a x) (hb : GE X B Γ b y) (hc : GE X B Γ c w) (hr : RO X B r x y (.bl true)) (hr' : RO X B r' y w (.bl d))
    (hm : lastMarks [op, op'] [b, c] = false := by with_unfolding_all rfl) : GT X B Γ (.Compare a [op, op'] [b, c] pos) d :=
  PT_imp (pt_chain ho ho' ha hb hc hm) fun σ H Q ⟨S, en, k⟩ => ⟨S, en, fun v S1 H1 t1 h1 => ⟨S1, en.step t1, fun u S2 H2 t2 h2 => hr v u S2 H2 _ t2.st (rep_mono t2.s _ _ h1) h2 fun v' S3 H3 t3 h3 =>
    ⟨true, h3, by
      refine iteT ?_
      exact ⟨S3, ((en.step t1).step t2).step t3, fun w' S4 H4 t4 h4 => hr' u w' S4 H4 _ t4.st (rep_mono (t3.s.trans t4.s) _ _ h2) h4 fun v'' S5 H5 t5 h5 => ⟨d, h5, k S5 H5 ((((t1.trans t2).trans t3).trans t4).trans t5)⟩⟩⟩⟩⟩

/-! ### tests -/
theorem gt_val {d : Bool} (h : GE X B Γ e (.bl d)) (he : ∀ whole, isTrue e X.env whole = (do let v ← whole; standAt e.pos; holding [v] (truthy v)) := by intro _; rfl) : GT X B Γ e d :=
  PT_imp (pt_val h he) fun σ H Q ⟨S, en, k⟩ => ⟨S, en, fun v S1 H1 t1 h1 => ⟨d, h1, k S1 H1 t1⟩⟩
theorem gt_not {d : Bool} (h : GT X B Γ a d) : GT X B Γ (.UnaryOp .Not a pos) (!d) := PT_imp (pt_not h) fun σ H Q ⟨S, en, k⟩ => ⟨S, en, fun S1 H1 t1 => k S1 H1 t1⟩
theorem gw_and1 {d : Bool} (h : GT X B Γ a d) : GW X B Γ (.BoolOp .And [a] pos) d := pw_and1 h
theorem gw_or1 {d : Bool} (h : GT X B Γ a d) : GW X B Γ (.BoolOp .Or [a] pos) d := pw_or1 h
theorem gw_andT {d : Bool} {rest : List Expr} (h : GT X B Γ a true) (h2 : GW X B Γ (.BoolOp .And (b :: rest) pos) d) : GW X B Γ (.BoolOp .And (a :: b :: rest) pos) d :=
  PW_imp (pw_and h h2) fun σ H Q ⟨S, en, k⟩ => ⟨S, en, fun S1 H1 t1 => by
    refine iteT ?_; exact ⟨S1, en.step t1, fun S2 H2 t2 => k S2 H2 (t1.trans t2)⟩⟩
theorem pw_never {e : Expr} : PW X e (fun _ _ _ => False) := ⟨fun _ _ _ _ _ _ _ h => h.elim⟩
theorem pe_never {e : Expr} : PE X e (fun _ _ _ => False) := ⟨fun _ _ _ _ _ _ h => h.elim⟩
theorem pt_never {e : Expr} : PT X e (fun _ _ _ => False) := ⟨fun _ _ _ _ _ _ h => h.elim⟩
theorem gw_andF {rest : List Expr} (h : GT X B Γ a false) : GW X B Γ (.BoolOp .And (a :: b :: rest) pos) false :=
  PW_imp (pw_and h (tB' := fun _ _ _ => False) pw_never) fun σ H Q ⟨S, en, k⟩ => ⟨S, en, fun S1 H1 t1 => by
    refine iteF ?_; exact k S1 H1 t1⟩
theorem gw_orF {d : Bool} {rest : List Expr} (h : GT X B Γ a false) (h2 : GW X B Γ (.BoolOp .Or (b :: rest) pos) d) : GW X B Γ (.BoolOp .Or (a :: b :: rest) pos) d :=
  PW_imp (pw_or h h2) fun σ H Q ⟨S, en, k⟩ => ⟨S, en, fun S1 H1 t1 => by
    refine iteF ?_; exact ⟨S1, en.step t1, fun S2 H2 t2 => k S2 H2 (t1.trans t2)⟩⟩
theorem gw_orT {rest : List Expr} (h : GT X B Γ a true) : GW X B Γ (.BoolOp .Or (a :: b :: rest) pos) true :=
  PW_imp (pw_or h (tB' := fun _ _ _ => False) pw_never) fun σ H Q ⟨S, en, k⟩ => ⟨S, en, fun S1 H1 t1 => by
    refine iteT ?_; exact k S1 H1 t1⟩
theorem gw_t {d : Bool} (h : GW X B Γ e d) : GT X B Γ e d := h.pt
/-! as values -/
theorem ge_one {op} (h : GE X B Γ a x) : GE X B Γ (.BoolOp op [a] pos) x := pe_one h
theorem ge_andT {rest : List Expr} (h : GE X B Γ a (.bl true)) (h2 : GE X B Γ (.BoolOp .And (b :: rest) pos) y) : GE X B Γ (.BoolOp .And (a :: b :: rest) pos) y :=
  PE_imp (pe_and h h2) fun σ H Q ⟨S, en, k⟩ => ⟨S, en, fun v S1 H1 t1 h1 => ⟨true, h1, by
    refine iteT ?_; exact ⟨S1, en.step t1, fun v S2 H2 t2 h2 => k v S2 H2 (t1.trans t2) h2⟩⟩⟩
theorem ge_andF {rest : List Expr} (h : GE X B Γ a (.bl false)) : GE X B Γ (.BoolOp .And (a :: b :: rest) pos) (.bl false) :=
  PE_imp (pe_and h (tb := fun _ _ _ => False) pe_never) fun σ H Q ⟨S, en, k⟩ => ⟨S, en, fun v S1 H1 t1 h1 => ⟨false, h1, by
    refine iteF ?_; exact k _ S1 H1 t1 rfl⟩⟩
theorem ge_orF {rest : List Expr} (h : GE X B Γ a (.bl false)) (h2 : GE X B Γ (.BoolOp .Or (b :: rest) pos) y) : GE X B Γ (.BoolOp .Or (a :: b :: rest) pos) y :=
  PE_imp (pe_or h h2) fun σ H Q ⟨S, en, k⟩ => ⟨S, en, fun v S1 H1 t1 h1 => ⟨false, h1, by
    refine iteF ?_; exact ⟨S1, en.step t1, fun v S2 H2 t2 h2 => k v S2 H2 (t1.trans t2) h2⟩⟩⟩
theorem ge_orT {rest : List Expr} (h : GE X B Γ a (.bl true)) : GE X B Γ (.BoolOp .Or (a :: b :: rest) pos) (.bl true) :=
  PE_imp (pe_or h (tb := fun _ _ _ => False) pe_never) fun σ H Q ⟨S, en, k⟩ => ⟨S, en, fun v S1 H1 t1 h1 => ⟨true, h1, by
    refine iteT ?_; exact k _ S1 H1 t1 rfl⟩⟩
theorem ge_not {d : Bool} (h : GE X B Γ a (.bl d)) : GE X B Γ (.UnaryOp .Not a pos) (.bl (!d)) := PE_imp (pe_not h) fun σ H Q ⟨S, en, k⟩ => ⟨S, en, fun v S1 H1 t1 h1 => ⟨d, h1, k _ S1 H1 t1 rfl⟩⟩
theorem ge_neg {i : Int} (h : GE X B Γ a (.int i)) : GE X B Γ (.UnaryOp .USub a pos) (.int (-i)) := PE_imp (pe_un un_neg h) fun σ H Q ⟨S, en, k⟩ => ⟨S, en, fun v S1 H1 t1 h1 => ⟨i, h1, k _ S1 H1 t1 rfl⟩⟩
theorem ge_ifT (h : GT X B Γ c true) (h1 : GE X B Γ a x) : GE X B Γ (.IfExp c a b pos) x := PE_imp (pe_ifExp h h1 (tb := fun _ _ _ => False) pe_never) fun σ H Q ⟨S, en, k⟩ => ⟨S, en, fun S1 H1 t1 => by
  refine iteT ?_; exact ⟨S1, en.step t1, fun v S2 H2 t2 h2 => k v S2 H2 (t1.trans t2) h2⟩⟩
theorem ge_ifF (h : GT X B Γ c false) (h1 : GE X B Γ b x) : GE X B Γ (.IfExp c a b pos) x := PE_imp (pe_ifExp h (ta := fun _ _ _ => False) pe_never h1) fun σ H Q ⟨S, en, k⟩ => ⟨S, en, fun S1 H1 t1 => by
  refine iteF ?_; exact ⟨S1, en.step t1, fun v S2 H2 t2 h2 => k v S2 H2 (t1.trans t2) h2⟩⟩

/-! ### argument lists, displays, calls -/
theorem ga_nil : GA X B Γ [] [] := PA_imp pa_nil fun σ H Q ⟨S, en, k⟩ => k [] S H en.st.refl rfl
theorem ga_cons {es : List Expr} {xs : List Vl} (h : GE X B Γ e x) (h2 : GA X B Γ es xs) (hs : starEach (e :: es) X.env = (false, eval e X.env) :: starEach es X.env := by rfl) : GA X B Γ (e :: es) (x :: xs) :=
  PA_imp (pa_cons h h2 hs) fun σ H Q ⟨S, en, k⟩ => ⟨S, en, fun v S1 H1 t1 h1 => ⟨S1, en.step t1, fun vs S2 H2 t2 h2 => k (v :: vs) S2 H2 (t1.trans t2) ⟨v, vs, rfl, rep_mono t2.s _ _ h1, h2⟩⟩⟩
theorem ge_tup {es : List Expr} {xs : List Vl} {x1} (h : GA X B Γ es xs) (hl : xs.length ≤ sizeLine) : GE X B Γ (.Tuple es x1 pos) (.tup xs) :=
  PE_imp (pe_tup h) fun σ H Q ⟨S, en, k⟩ => ⟨S, en, fun vs S1 H1 t1 h1 => ⟨by rw [← reps_length h1]; exact hl, fun p hp => by
    have t2 := t1.st.newV hp (o := .tup vs) (fun ps z => by cases z)
    exact k _ _ _ (t1.trans t2) ⟨p, vs, rfl, SqT.of upd_same, reps_mono t2.s _ _ h1⟩⟩⟩
theorem stp_none {T : List NTab} {S H S1 H1 : Hp} (t : Stp T S H S1 H1) {p : Addr} (h : H1 p = none) : H p = none := Classical.byContradiction fun n => t.lv p n h
theorem sta_none {T : List NTab} {S H : Hp} (t : Sta T S H) {p : Addr} (h : H p = none) : S p = none := by
  cases e : S p with
  | none => rfl
  | some u => rw [t.sub _ _ e] at h; cases h
theorem go_lst {es : List Expr} {xs : List Vl} (h : GA X B Γ es xs) (hl : xs.length ≤ sizeLine) : GO X B Γ (.List es pos) (owL X.K xs) :=
  PE_imp (pe_lst h) fun σ H Q ⟨S, en, k⟩ => ⟨S, en, fun vs S1 H1 t1 h1 => ⟨by rw [← reps_length h1]; exact hl, fun p hp => by
    have t2 := t1.st.newO hp (o := .lst vs)
    exact k p _ _ _ (t1.trans t2) (stp_none t1 hp) (sta_none t1.st hp) upd_same ⟨vs, rfl, by rw [← reps_length h1]; exact hl, h1⟩⟩⟩
/-- a call of a built-in by values -/
theorem ge_callB {n : Str} {p : Pos} {es : List Expr} {id : String} {r : List V → Hp → VK → Prop} {xs : List Vl} (hc : CallR X (.builtin id) r) (hm : X.mg n = none) (hg : Gl X n) (hv : bootBuiltins n = some (.builtin id)) (ha : GA X B Γ (e :: es) xs) (hr : RA X B r xs y) (hn : n ≠ "__name__" := by decide) (hdb : (n == ("__debug__" : Str)) = false := by decide)
    (he : starEach (e :: es) X.env = (false, eval e X.env) :: starEach es X.env := by rfl) (hpl : (backTo pos (starEach es X.env)).any (·.1) = false := by rfl) : GE X B Γ (.Call (.Name n p) (e :: es) [] pos) y :=
  PE_imp (pe_callB hc hg hm hv ha hn hdb he hpl) fun σ H Q ⟨S, en, k⟩ => ⟨S, en, fun vs S1 H1 t1 h1 => hr vs S1 H1 Q t1.st h1 fun v S2 H2 t2 h2 => k v S2 H2 (t1.trans t2) h2⟩
theorem ge_callT {n : Str} {p : Pos} {es : List Expr} {id : String} {r : List V → Hp → VK → Prop} {xs : List Vl} (hc : CallR X (.type id) r) (hm : X.mg n = none) (hg : Gl X n) (hv : bootBuiltins n = some (.type id)) (ha : GA X B Γ (e :: es) xs) (hr : RA X B r xs y) (hn : n ≠ "__name__" := by decide) (hdb : (n == ("__debug__" : Str)) = false := by decide)
    (he : starEach (e :: es) X.env = (false, eval e X.env) :: starEach es X.env := by rfl) (hpl : (backTo pos (starEach es X.env)).any (·.1) = false := by rfl) : GE X B Γ (.Call (.Name n p) (e :: es) [] pos) y :=
  PE_imp (pe_callTy hc hg hm hv ha hn hdb he hpl) fun σ H Q ⟨S, en, k⟩ => ⟨S, en, fun vs S1 H1 t1 h1 => hr vs S1 H1 Q t1.st h1 fun v S2 H2 t2 h2 => k v S2 H2 (t1.trans t2) h2⟩
theorem go_callT {n : Str} {p : Pos} {es : List Expr} {id : String} {r : List V → Hp → VK → Prop} {xs : List Vl} {o : Own} (hc : CallR X (.type id) r) (hm : X.mg n = none) (hg : Gl X n) (hv : bootBuiltins n = some (.type id)) (ha : GA X B Γ (e :: es) xs) (hr : RAO X B r xs o) (hn : n ≠ "__name__" := by decide) (hdb : (n == ("__debug__" : Str)) = false := by decide)
    (he : starEach (e :: es) X.env = (false, eval e X.env) :: starEach es X.env := by rfl) (hpl : (backTo pos (starEach es X.env)).any (·.1) = false := by rfl) : GO X B Γ (.Call (.Name n p) (e :: es) [] pos) o :=
  PE_imp (pe_callTy hc hg hm hv ha hn hdb he hpl) fun σ H Q ⟨S, en, k⟩ => ⟨S, en, fun vs S1 H1 t1 h1 => hr vs S1 H1 Q t1.st h1 fun l ho S2 H2 t2 n1 n2 h2 h3 => k l ho S2 H2 (t1.trans t2) (stp_none t1 n1) n2 h2 h3⟩
theorem go_callB {n : Str} {p : Pos} {es : List Expr} {id : String} {r : List V → Hp → VK → Prop} {xs : List Vl} {o : Own} (hc : CallR X (.builtin id) r) (hm : X.mg n = none) (hg : Gl X n) (hv : bootBuiltins n = some (.builtin id)) (ha : GA X B Γ (e :: es) xs) (hr : RAO X B r xs o) (hn : n ≠ "__name__" := by decide) (hdb : (n == ("__debug__" : Str)) = false := by decide)
    (he : starEach (e :: es) X.env = (false, eval e X.env) :: starEach es X.env := by rfl) (hpl : (backTo pos (starEach es X.env)).any (·.1) = false := by rfl) : GO X B Γ (.Call (.Name n p) (e :: es) [] pos) o :=
  PE_imp (pe_callB hc hg hm hv ha hn hdb he hpl) fun σ H Q ⟨S, en, k⟩ => ⟨S, en, fun vs S1 H1 t1 h1 => hr vs S1 H1 Q t1.st h1 fun l ho S2 H2 t2 n1 n2 h2 h3 => k l ho S2 H2 (t1.trans t2) (stp_none t1 n1) n2 h2 h3⟩
/-- a built-in type as an argument -/
def tyOb (n : String) : Vl := .ob ⟨fun v _ => v = .ty n, fun _ _ _ _ h => h⟩
theorem ge_ty {n : Str} {T : String} {p : Pos} (hm : X.mg n = none) (hg : Gl X n) (hv : bootBuiltins n = some (.type T)) (hn : n ≠ "__name__" := by decide) (hd : (n == ("__debug__" : Str)) = false := by decide) : GE X B Γ (.Name n p) (tyOb T) :=
  ge_c (pe_bltn hg hm hv (v := .ty T) rfl hn hd) fun _ => rfl

/-! ### statements -/
theorem gss_nil : GSs X B Γ [] Γ := PSs_imp pss_nil fun D σ H ⟨S, en, k⟩ => k σ S H en
theorem gss_cons {s : Stmt} {r : List Stmt} (h : GS X B Γ s Γ1) (h2 : GSs X B Γ1 r Γ') : GSs X B Γ (s :: r) Γ' :=
  PSs_imp (pss_cons h h2) fun D σ H ⟨S, en, k⟩ => ⟨S, en, fun σ1 S1 H1 e1 => ⟨S1, e1, k⟩⟩
theorem grs_cons {s : Stmt} {r : List Stmt} (h : GS X B Γ s Γ1) (h2 : GRs X B Γ1 r Γ' y) : GRs X B Γ (s :: r) Γ' y :=
  PSs_imp (pss_cons h h2) fun D σ H ⟨S, en, k⟩ => ⟨S, en, fun σ1 S1 H1 e1 => ⟨S1, e1, k⟩⟩
theorem grs_one {s : Stmt} {r : List Stmt} (h : GR X B Γ s Γ' y) : GRs X B Γ (s :: r) Γ' y :=
  PSs_imp (pss_cons h (pss_never (sts := r))) fun D σ H ⟨S, en, k⟩ => ⟨S, en, k⟩
theorem gr_ret (h : GE X B Γ e y) : GR X B Γ (.Return (some e) pos) Γ y :=
  PS_imp (ps_ret h) fun D σ H ⟨S, en, k⟩ => ⟨S, en, fun v S1 H1 t1 h1 => k v σ S1 H1 (en.step t1) h1⟩
theorem gs_asg {i : Nat} {n : Str} {p : Pos} (h : GE X B Γ e y) (hi : i < Γ.length) (hnd : X.N.Nodup) (hN : X.N[i]? = some n) (hx : Loc X.env.scope n) (hs : swapsWith e (some (.Name n p)) pos.line X.env = pure false := by rfl) (hf : X.fn n = true ∨ X.env.scope.names.lookup n = some .local := by first | exact .inl rfl | exact .inr rfl | assumption) :
    GS X B Γ (.Assign [.Name n p] e pos) (Γ.set i (.va y)) :=
  PS_imp (ps_set hnd hN hx h hs hf) fun D σ H ⟨S, en, k⟩ => ⟨S, en, fun v S1 H1 t1 h1 => k _ S1 H1 ((en.step t1).setV hi h1)⟩
theorem Env.hasOwn {K : PySem.W.Frag} {σ : L2.St} {S H : Hp} (en : Env K B Γ σ S H) {l : Addr} (hl : H l = none) : ∀ (j : Nat) (f : Option Addr) (o' : Own), Γ[j]? = some (.ow f o') → σ[j]? ≠ some (some (.ref l)) := fun j f o' hj z => by
  obtain ⟨l', ho, h1, h2, h3, h4, _⟩ := en.ow j f o' hj
  rw [z] at h1; cases h1
  rw [hl] at h4; cases h4
theorem gs_asgO {i : Nat} {n : Str} {p : Pos} {o : Own} (h : GO X B Γ e o) (hi : i < Γ.length) (hnd : X.N.Nodup) (hN : X.N[i]? = some n) (hx : Loc X.env.scope n) (hs : swapsWith e (some (.Name n p)) pos.line X.env = pure false := by rfl) (hf : X.fn n = true ∨ X.env.scope.names.lookup n = some .local := by first | exact .inl rfl | exact .inr rfl | assumption) :
    GS X B Γ (.Assign [.Name n p] e pos) (Γ.set i (.ow none o)) :=
  PS_imp (ps_set hnd hN hx h hs hf) fun D σ H ⟨S, en, k⟩ => ⟨S, en, fun l ho S1 H1 t1 n1 n2 h1 h2 =>
    k _ S1 H1 ((en.step t1).setO hi n2 h1 h2 (Classical.byContradiction fun z => en.lv l z n1) fun j f o' hj _ => en.hasOwn n1 j f o' hj)⟩
theorem gs_if {b : Bool} {s t : List Stmt} (h : GT X B Γ c b) (h1 : b = true → GSs X B Γ s Γ') (h2 : b = false → GSs X B Γ t Γ') : GS X B Γ (.If c s t pos) Γ' := by
  cases b with
  | true => exact PS_imp (ps_if h (h1 rfl) (pss_never (sts := t))) fun D σ H ⟨S, en, k⟩ => ⟨S, en, fun S1 H1 t1 => by refine iteT ?_; exact ⟨S1, en.step t1, k⟩⟩
  | false => exact PS_imp (ps_if h (pss_never (sts := s)) (h2 rfl)) fun D σ H ⟨S, en, k⟩ => ⟨S, en, fun S1 H1 t1 => by refine iteF ?_; exact ⟨S1, en.step t1, k⟩⟩
theorem gs_skip {s : List Stmt} (h : GT X B Γ c false) : GS X B Γ (.If c s [] pos) Γ := gs_if h (fun z => nomatch z) fun _ => gss_nil
theorem gr_if {b : Bool} {s t : List Stmt} (h : GT X B Γ c b) (h1 : b = true → GRs X B Γ s Γ' y) (h2 : b = false → GRs X B Γ t Γ' y) : GR X B Γ (.If c s t pos) Γ' y := by
  cases b with
  | true => exact PS_imp (ps_if h (h1 rfl) (pss_never (sts := t))) fun D σ H ⟨S, en, k⟩ => ⟨S, en, fun S1 H1 t1 => by refine iteT ?_; exact ⟨S1, en.step t1, k⟩⟩
  | false => exact PS_imp (ps_if h (pss_never (sts := s)) (h2 rfl)) fun D σ H ⟨S, en, k⟩ => ⟨S, en, fun S1 H1 t1 => by refine iteF ?_; exact ⟨S1, en.step t1, k⟩⟩
theorem gr_ifT {s t : List Stmt} (h : GT X B Γ c true) (h1 : GRs X B Γ s Γ' y) : GR X B Γ (.If c s t pos) Γ' y := gr_if h (fun _ => h1) fun z => nomatch z

/-! ### targets: tuples taken apart -/
/-- targets that are names, the i-th gets the i-th item -/
def gNs : List Nat → TGs
  | [] => gNil
  | i :: is => gCons (gName i) (gNs is)
def setVs (Γ : List Sl) : List Nat → List Vl → List Sl
  | i :: is, x :: xs => setVs (Γ.set i (.va x)) is xs
  | _, _ => Γ
theorem setVs_length : ∀ (is : List Nat) (xs : List Vl) (Γ : List Sl), (setVs Γ is xs).length = Γ.length
  | [], _, _ => rfl
  | _ :: _, [], _ => rfl
  | i :: is, x :: xs, Γ => by unfold setVs; rw [setVs_length is xs]; simp
theorem gNs_ok {K : PySem.W.Frag} {S H : Hp} {Q : L2.St → Hp → Prop} : ∀ {is : List Nat} {xs : List Vl} {vs : List V} {Γ : List Sl} {σ : L2.St}, Env K B Γ σ S H → reps K S xs vs → is.length = xs.length → (∀ i ∈ is, i < Γ.length) →
    (∀ σ', Env K B (setVs Γ is xs) σ' S H → Q σ' H) → gNs is vs σ H Q
  | [], [], _, _, _, en, r, _, _, k => by
    have r : _ = [] := r
    subst r
    exact ⟨rfl, k _ en⟩
  | [], _ :: _, _, _, _, _, _, h, _, _ => by simp at h
  | _ :: _, [], _, _, _, _, _, h, _, _ => by simp at h
  | i :: is, x :: xs, _, Γ, σ, en, ⟨v, r, e1, e2, e3⟩, h, hi, k => by
    subst e1
    refine ⟨v, r, rfl, ?_⟩
    exact gNs_ok (is := is) (xs := xs) (en.setV (hi i (by simp)) e2) e3 (by simpa using h) (fun j hj => by rw [List.length_set]; exact hi j (by simp [hj])) k
theorem gs_asgT {es : List Expr} {is : List Nat} {xs : List Vl} {kk : Nat} {p : Pos} (h : GE X B Γ e (.tup xs)) (hg : PGs X es (gNs is)) (hl : is.length = xs.length) (hi : ∀ i ∈ is, i < Γ.length) (hc : X.calm = true)
    (hn : (assignEach es X.env).length = xs.length := by rfl) (hst : (assignEach es X.env).findIdx? (·.1) = none := by rfl)
    (hs : swapsWithSole [.Tuple es kk p] e pos.line X.env = pure false := by rfl) (hw : swappedStores [.Tuple es kk p] e X.env = pure none := by rfl) (h1 : (assignEach [.Tuple es kk p] X.env).map (·.2) = [assign (.Tuple es kk p) X.env] := by rfl) :
    GS X B Γ (.Assign [.Tuple es kk p] e pos) (setVs Γ is xs) :=
  PS_imp (ps_asg h (pg_tup hc hg hn hst) hs hw h1) fun D σ H ⟨S, en, k⟩ => ⟨S, en, fun v S1 H1 t1 ⟨a, vs, e1, e2, e3⟩ =>
    ⟨a, vs, e1, Same.sqT t1.st.sub e2, (reps_length e3).symm, gNs_ok (en.step t1) e3 hl hi fun σ' e' => k σ' S1 H1 e'⟩⟩
end
end G
set_option maxHeartbeats 1000000
/-! G3: what is walked, comprehensions, loops, defs and their calls. -/
namespace G
open PySem PySem.Spec PyProof.Rows L2 LamX NdefX

/-! ### targets -/
inductive Tg where
  | nm (j : Nat)
  | tp (is : List Nat)
def Tg.idx : Tg → List Nat
  | .nm j => [j]
  | .tp is => is
def gT (K : PySem.W.Frag) : Tg → TG
  | .nm j => gName j
  | .tp is => gTup K is.length (gNs is)
def setT (Γ : List Sl) : Tg → Vl → List Sl
  | .nm j, x => Γ.set j (.va x)
  | .tp is, .tup xs => setVs Γ is xs
  | .tp _, _ => Γ
def okT : Tg → Vl → Prop
  | .nm _, _ => True
  | .tp is, x => ∃ xs, x = .tup xs ∧ is.length = xs.length
section
variable {K : PySem.W.Frag} {B : Bs}
theorem gNs_ok2 {S H : Hp} {Q : L2.St → Hp → Prop} : ∀ {is : List Nat} {xs : List Vl} {vs : List V} {Γ : List Sl} {σ : L2.St}, Env K B Γ σ S H → reps K S xs vs → is.length = xs.length → (∀ i ∈ is, i < Γ.length) →
    (∀ σ' : L2.St, Env K B (setVs Γ is xs) σ' S H → (∀ k, k ∉ is → σ'[k]? = σ[k]?) → Q σ' H) → gNs is vs σ H Q
  | [], [], _, _, _, en, r, _, _, k => by
    have r : _ = [] := r
    subst r
    exact ⟨rfl, k _ en fun _ _ => rfl⟩
  | [], _ :: _, _, _, _, _, _, h, _, _ => by simp at h
  | _ :: _, [], _, _, _, _, _, h, _, _ => by simp at h
  | i :: is, x :: xs, _, Γ, σ, en, ⟨v, r, e1, e2, e3⟩, h, hi, k => by
    subst e1
    refine ⟨v, r, rfl, ?_⟩
    refine gNs_ok2 (is := is) (xs := xs) (en.setV (hi i (by simp)) e2) e3 (by simpa using h) (fun j hj => by rw [List.length_set]; exact hi j (by simp [hj])) fun σ' e' hk => k σ' e' fun m hm => ?_
    have h1 : m ≠ i := fun z => hm (by simp [z])
    have h2 : m ∉ is := fun z => hm (by simp [z])
    rw [hk m h2, List.getElem?_set_ne (fun z => h1 z.symm)]
theorem gT_ok {S H : Hp} {Q : L2.St → Hp → Prop} {tg : Tg} {x : Vl} {v : V} {Γ : List Sl} {σ : L2.St} (en : Env K B Γ σ S H) (r : rep K S x v) (ok : okT tg x) (hi : ∀ i ∈ tg.idx, i < Γ.length)
    (k : ∀ σ' : L2.St, Env K B (setT Γ tg x) σ' S H → (∀ k, k ∉ tg.idx → σ'[k]? = σ[k]?) → Q σ' H) : gT K tg v σ H Q := by
  cases tg with
  | nm j => exact k _ (en.setV (hi j (by simp [Tg.idx])) r) fun m hm => List.getElem?_set_ne (fun z => hm (by simp [Tg.idx, z]))
  | tp is =>
    obtain ⟨xs, e, hl⟩ := ok
    subst e
    obtain ⟨a, vs, e1, e2, e3⟩ := r
    exact ⟨a, vs, e1, Same.sqT en.st.sub e2, by rw [hl]; exact (reps_length e3).symm, gNs_ok2 en e3 hl hi k⟩
theorem setT_length (Γ : List Sl) (tg : Tg) (x : Vl) : (setT Γ tg x).length = Γ.length := by
  cases tg with
  | nm j => simp [setT]
  | tp is => cases x <;> simp [setT, setVs_length]
/-! wiping -/
theorem wipe_get (σ : L2.St) : ∀ (vs : List Nat) (k : Nat), (wipe σ vs)[k]? = if k ∈ vs then (if k < σ.length then some none else none) else σ[k]?
  | [], k => by simp [wipe]
  | v :: vs, k => by
    unfold wipe
    by_cases h : v = k
    · subst h
      rw [List.getElem?_set]
      simp [wipe_length]
    · rw [List.getElem?_set_ne h, wipe_get σ vs k]
      have : (k ∈ v :: vs) ↔ k ∈ vs := ⟨fun z => (List.mem_cons.mp z).elim (fun q => absurd q.symm h) id, List.mem_cons_of_mem _⟩
      simp only [this]
theorem wipe_back {σ σ2 : L2.St} {vs : List Nat} (hl : σ2.length = σ.length) (h : ∀ k, k ∉ vs → σ2[k]? = (wipe σ vs)[k]?) : wipe σ2 vs = wipe σ vs := by
  apply List.ext_getElem?
  intro k
  rw [wipe_get, wipe_get]
  by_cases hk : k ∈ vs
  · rw [if_pos hk, if_pos hk, hl]
  · rw [if_neg hk, if_neg hk, h k hk, wipe_get, if_neg hk]
def wipeG (Γ : List Sl) : List Nat → List Sl
  | [] => Γ
  | v :: vs => (wipeG Γ vs).set v .no
theorem wipeG_length (Γ : List Sl) : ∀ vs, (wipeG Γ vs).length = Γ.length
  | [] => rfl
  | v :: vs => by unfold wipeG; rw [List.length_set, wipeG_length Γ vs]
theorem Env.wipe {Γ : List Sl} {σ : L2.St} {S H : Hp} (en : Env K B Γ σ S H) : ∀ vs, Env K B (wipeG Γ vs) (L2.wipe σ vs) S H
  | [] => en
  | v :: vs => (Env.wipe en vs).forget v none
/-- a list made on the way grows -/
theorem Stp.grow {T : List NTab} {S0 H0 S H : Hp} {D : Addr} {a : List V} (t : Stp T S0 H0 S H) (h0 : H0 D = none) (hS : S D = none) (hD : H D = some (.lst a)) (b : List V) : Stp T S0 H0 S (upd H D (.lst b)) := by
  refine ⟨⟨fun c u e => ?_, fun p hp => ?_, t.st.nt⟩, t.s, fun c u e n => ?_, t.fr, fun c h => upd_lv (t.lv c h)⟩
  · rw [upd_ne (ne_of_none e hS)]; exact t.st.sub _ _ e
  · obtain ⟨ps, t1, t2, t3⟩ := t.st.tb p hp
    refine ⟨ps, ?_, t2, fun pos cv hc => ?_⟩
    · rw [upd_ne]
      · exact t1
      · intro z; rw [z, hD] at t1; cases t1
    · obtain ⟨c, e1, e2⟩ := t3 pos cv hc
      refine ⟨c, e1, ?_⟩
      rw [upd_ne]
      · exact e2
      · intro z; rw [z, hD] at e2; cases e2
  · rw [upd_ne (ne_of_none e h0)]; exact t.h c u e n
end

/-! ### what is walked -/
structure WkJ (K : PySem.W.Frag) (T : List NTab) (J : It) (xs : List Vl) (S0 : Hp) : Prop where
  go : ∀ (i : Nat) (S H : Hp) (x : Vl), Sta T S H → Same S0 S → xs[i]? = some x → J.go i H ∧ ∀ v H', J.yld i H v H' → ∃ S', Stp T S H S' H' ∧ rep K S' x v
  stop : ∀ (S H : Hp), Sta T S H → Same S0 S → J.stop xs.length H
def tI (K : PySem.W.Frag) (B : Bs) (Γ : List Sl) (xs : List Vl) : TI := fun σ H R => ∃ S, Env K B Γ σ S H ∧ ∀ J S' H', Stp B.T S H S' H' → WkJ K B.T J xs S' → R J H'
abbrev GI (X : Cx) (B : Bs) (Γ : List Sl) (tg it : Expr) (xs : List Vl) : Prop := PI X tg it (tI X.K B Γ xs)
theorem PI_imp {X : Cx} {tg it : Expr} {t t' : TI} (h : PI X tg it t) (k : ∀ σ H R, t' σ H R → t σ H R) : PI X tg it t' := ⟨fun pins s σ H R I q => h.run pins s σ H R I (k σ H R q)⟩
section
variable {X : Cx} {B : Bs} {Γ : List Sl} {tg it a b : Expr} {xs : List Vl}
theorem gi_tup (h : GE X B Γ it (.tup xs)) : GI X B Γ tg it xs := PI_imp (pi_tup h) fun σ H R ⟨S, en, k⟩ => ⟨S, en, fun v S1 H1 t1 ⟨p, vs, e1, e2, e3⟩ => by
  refine ⟨p, e1, ⟨vs, Same.sqT t1.st.sub e2⟩, k _ S1 H1 t1 ⟨fun i S2 H2 x st sm hx => ?_, fun S2 H2 st sm => ?_⟩⟩
  · obtain ⟨u, hu, ru⟩ := reps_get e3 hx
    refine ⟨⟨vs, u, Same.sqT (sm.trans st.sub) e2, hu⟩, fun v H' ⟨q1, q2⟩ => ?_⟩
    subst q1
    have := q2 vs (Same.sqT (sm.trans st.sub) e2)
    rw [hu] at this; cases this
    exact ⟨S2, st.refl, rep_mono sm _ _ ru⟩
  · exact ⟨vs, Same.sqT (sm.trans st.sub) e2, by rw [reps_length e3]; exact Nat.le_refl _⟩⟩
theorem gi_lst (h : GE X B Γ it (.lst xs)) : GI X B Γ tg it xs := PI_imp (pi_list h) fun σ H R ⟨S, en, k⟩ => ⟨S, en, fun v S1 H1 t1 ⟨p, vs, e1, e2, e3⟩ => by
  refine ⟨p, e1, ⟨vs, SqL.of (t1.st.sub _ _ e2)⟩, k _ S1 H1 t1 ⟨fun i S2 H2 x st sm hx => ?_, fun S2 H2 st sm => ?_⟩⟩
  · obtain ⟨u, hu, ru⟩ := reps_get e3 hx
    have hs : SqL X.K H2 p vs := SqL.of (st.sub _ _ (sm _ _ e2))
    refine ⟨⟨vs, u, hs, hu⟩, fun v H' ⟨q1, q2⟩ => ?_⟩
    subst q1
    have := q2 vs hs
    rw [hu] at this; cases this
    exact ⟨S2, st.refl, rep_mono sm _ _ ru⟩
  · exact ⟨vs, SqL.of (st.sub _ _ (sm _ _ e2)), by rw [reps_length e3]; exact Nat.le_refl _⟩⟩
def rng (lo : Int) (n : Nat) : List Vl := (List.range n).map fun i : Nat => Vl.int (lo + (i : Int))
theorem rng_get {lo : Int} {n i : Nat} {x : Vl} (h : (rng lo n)[i]? = some x) : i < n ∧ x = .int (lo + i) := by
  unfold rng at h
  rw [List.getElem?_map] at h
  cases e : (List.range n)[i]? with
  | none => rw [e] at h; cases h
  | some j =>
    rw [e] at h
    obtain ⟨h1, h2⟩ := List.getElem?_eq_some_iff.mp e
    simp at h1 h2
    subst h2
    exact ⟨h1, (Option.some.inj h).symm⟩
theorem rng_length (lo : Int) (n : Nat) : (rng lo n).length = n := by simp [rng]
theorem wk_rng {K : PySem.W.Frag} {T : List NTab} {S0 : Hp} (lo : Int) (n : Nat) : WkJ K T (Itr lo n) (rng lo n) S0 := by
  refine ⟨fun i S H x st sm hx => ?_, fun S H st sm => by show n ≤ (rng lo n).length; rw [rng_length]; exact Nat.le_refl _⟩
  obtain ⟨h1, h2⟩ := rng_get hx
  refine ⟨h1, fun v H' ⟨q1, q2⟩ => ?_⟩
  subst q1 q2 h2
  exact ⟨S, st.refl, rfl⟩
theorem gi_rng1 {p pos : Pos} {j : Int} (hg : Gl X "range") (hm : X.mg "range" = none) (ha : GA X B Γ [a] [.int j]) (h1 : -(2 ^ 62) ≤ j ∧ j < 2 ^ 62) (hs : starEach [a] X.env = [(false, eval a X.env)] := by rfl) : GI X B Γ tg (.Call (.Name "range" p) [a] [] pos) (rng 0 j.toNat) :=
  PI_imp (pi_range1 hg hm ha hs) fun σ H R ⟨S, en, k⟩ => ⟨S, en, fun vs S1 H1 t1 ⟨v, r, e1, e2, e3⟩ => by
    have e3 : r = [] := e3
    have e2 : v = .int j := e2
    subst e3 e2
    exact ⟨j, e1, h1.1, h1.2, k _ S1 H1 t1 (wk_rng 0 _)⟩⟩
theorem gi_rng2 {p pos : Pos} {i j : Int} (hg : Gl X "range") (hm : X.mg "range" = none) (ha : GA X B Γ [a, b] [.int i, .int j]) (h1 : -(2 ^ 62) ≤ i ∧ i < 2 ^ 62 ∧ -(2 ^ 62) ≤ j ∧ j < 2 ^ 62) (hs : starEach [a, b] X.env = [(false, eval a X.env), (false, eval b X.env)] := by rfl) (hs2 : starEach [b] X.env = [(false, eval b X.env)] := by rfl) : GI X B Γ tg (.Call (.Name "range" p) [a, b] [] pos) (rng i (j - i).toNat) :=
  PI_imp (pi_range2 hg hm ha hs hs2) fun σ H R ⟨S, en, k⟩ => ⟨S, en, fun vs S1 H1 t1 ⟨v, r, e1, e2, u, r2, e4, e5, e6⟩ => by
    have e6 : r2 = [] := e6
    have e5 : u = .int j := e5
    have e2 : v = .int i := e2
    subst e6 e5 e4 e2
    exact ⟨i, j, e1, h1, k _ S1 H1 t1 (wk_rng _ _)⟩⟩
end

/-! ### comprehensions -/
section
variable {X : Cx} {B : Bs} {Γ : List Sl} {tg it elt : Expr} {α : Type}
theorem filter_take_succ {α : Type} {as : List α} {i : Nat} {a : α} (c : α → Bool) (h : as[i]? = some a) : (as.take (i + 1)).filter c = (as.take i).filter c ++ if c a then [a] else [] := by
  rw [List.take_add_one, h, List.filter_append]
  congr 1
  show List.filter c [a] = _
  rw [List.filter_cons]
  split <;> rfl
/-- the reading of a comprehension -/
theorem lc_read {Γt : α → List Sl} {tt : TT} {te : TE} {T : Tg} {vs : List Nat} {as : List α} {enc f : α → Vl} {c : α → Bool} (hl : as.length < sizeLine) (hT : ∀ a ∈ as, okT T (enc a)) (hi : ∀ i ∈ T.idx, i < Γ.length ∧ i ∈ vs)
    (hΓ : ∀ a ∈ as, Γt a = setT (wipeG Γ vs) T (enc a))
    (ht : ∀ a ∈ as, ∀ σ H Q, tT X.K B (Γt a) (c a) σ H Q → tt σ H Q) (he : ∀ a ∈ as, c a = true → ∀ σ H Q, tG X.K B (Γt a) (f a) σ H Q → te σ H Q) (σ : L2.St) (H : Hp) (Q : VK)
    (q : tO X.K B Γ (owL X.K ((as.filter c).map f)) σ H Q) : tLc (tI X.K B Γ (as.map enc)) (gT X.K T) tt te vs σ H Q := by
  obtain ⟨S, en, k⟩ := q
  refine ⟨S, en, fun J S1 H1 t1 wk D hD => ?_⟩
  have en1 := en.step t1
  have sD : S1 D = none := sta_none t1.st hD
  refine ⟨fun i m H2 => m = as.length - i ∧ i ≤ as.length ∧ ∃ S2 acc, Stp B.T S1 H1 S2 H2 ∧ S2 D = none ∧ H2 D = some (.lst acc) ∧ reps X.K S2 (((as.take i).filter c).map f) acc, ⟨as.length, by simp, Nat.zero_le _, S1, [], t1.st.newO hD, sD, upd_same, rfl⟩, ?_⟩
  rintro i m H2 ⟨rfl, hle, S2, acc, t2, d2, a2, r2⟩
  have en2 := en1.step t2
  by_cases hlt : i < as.length
  · obtain ⟨a, ha⟩ : ∃ a, as[i]? = some a := ⟨_, List.getElem?_eq_getElem hlt⟩
    have ham : a ∈ as := List.mem_of_getElem? ha
    have hx : (as.map enc)[i]? = some (enc a) := by rw [List.getElem?_map, ha]; rfl
    obtain ⟨hgo, hy⟩ := wk.go i S2 H2 (enc a) t2.st t2.s hx
    refine .inr ⟨hgo, fun H3 => ∃ S3 acc, Stp B.T S1 H1 S3 H3 ∧ S3 D = none ∧ H3 D = some (.lst acc) ∧ reps X.K S3 (((as.take (i + 1)).filter c).map f) acc, fun H3 ⟨S3, acc3, p⟩ => ⟨as.length - (i + 1), by omega, rfl, hlt, S3, acc3, p⟩, fun v H3 yv => ?_⟩
    obtain ⟨S3, t3, rv⟩ := hy v H3 yv
    have en3 := (en2.step t3).wipe vs
    have dl : ∀ {S' H' S'' H'' : Hp}, Stp B.T S' H' S'' H'' → S' D = none → H' D = some (.lst acc) → S'' D = none ∧ H'' D = some (.lst acc) := fun t h1 h2 => ⟨t.fr D h1 ⟨_, h2, (fun ps z => by cases z), (fun c q z => by unfold CodeO at z; cases z)⟩, t.h D _ h2 fun ps z => by cases z⟩
    obtain ⟨d3, a3⟩ := dl t3 d2 a2
    refine gT_ok en3 rv (hT a ham) (fun j hj => by rw [wipeG_length]; exact (hi j hj).1) fun σ2 e2 hk => ⟨?_, ?_⟩
    · refine wipe_back ?_ fun k hk' => hk k fun z => hk' (hi k z).2
      have := e2.len
      rw [setT_length, wipeG_length, en.len] at this
      exact this.symm
    · rw [← hΓ a ham] at e2
      refine ht a ham σ2 H3 _ ⟨S3, e2, fun S4 H4 t4 => ?_⟩
      obtain ⟨d4, a4⟩ := dl t4 d3 a3
      by_cases hc : c a = true
      · rw [hc]
        refine iteT ?_
        refine he a ham hc σ2 H4 _ ⟨S4, e2.step t4, fun y S5 H5 t5 r5 => ?_⟩
        obtain ⟨d5, a5⟩ := dl t5 d4 a4
        have tt5 := ((t2.trans t3).trans t4).trans t5
        refine ⟨acc, a5, ?_, S5, acc ++ [y], tt5.grow hD d5 a5 _, d5, upd_same, ?_⟩
        · rw [← reps_length r2, List.length_map]
          have h1 := List.length_filter_le c (as.take i)
          rw [List.length_take] at h1
          omega
        · rw [filter_take_succ c ha, if_pos hc, List.map_append]
          exact reps_snoc (reps_mono ((t3.s.trans t4.s).trans t5.s) _ _ r2) r5
      · have hc : c a = false := by cases h : c a <;> simp_all
        rw [hc]
        refine iteF ⟨S4, acc, (t2.trans t3).trans t4, d4, a4, ?_⟩
        rw [filter_take_succ c ha, hc]
        simp only [Bool.false_eq_true, if_false, List.append_nil]
        exact reps_mono (t3.s.trans t4.s) _ _ r2
  · have hi' : i = as.length := by omega
    subst hi'
    have hs := wk.stop S2 H2 t2.st t2.s
    rw [List.length_map] at hs
    refine .inl ⟨hs, k D (.lst acc) S2 H2 (t1.trans t2) (stp_none t1 hD) d2 a2 ⟨acc, rfl, ?_, ?_⟩⟩
    · rw [← reps_length r2, List.length_map]
      have h1 := List.length_filter_le c (as.take as.length)
      rw [List.length_take] at h1
      omega
    · rw [List.take_length] at r2
      exact r2
/-- [elt for tg in it] -/
theorem go_lc {scope : Scope} {own : List (Str × Nat)} {pos : Pos} {T : Tg} {as : List α} (enc f : α → Vl) (hc : X.calm = true) (hN : X.N.Nodup) (hi : GI X B Γ tg it (as.map enc)) (ok : BlkOk X.N X.env.scope scope own)
    (hg : ∀ (s : Shared) (H : Hp) (C : Addr) (cl : List (Str × Addr)) (fp : List Addr), PG (X.blk s H scope (compEnvC scope cl C X.env) fp) tg (gT X.K T))
    (he : ∀ (s : Shared) (H : Hp) (C : Addr) (cl : List (Str × Addr)) (fp : List Addr), ∀ a ∈ as, GE (X.blk s H scope (compEnvC scope cl C X.env) fp) B (setT (wipeG Γ (own.map (·.2))) T (enc a)) elt (f a))
    (hl : as.length < sizeLine) (hT : ∀ a ∈ as, okT T (enc a)) (hI : ∀ i ∈ T.idx, i < Γ.length ∧ i ∈ own.map (·.2)) (hs : ∀ x, foldedSetIterable it X.env x = pure x := by intro _; rfl) :
    GO X B Γ (.ListComp elt [⟨tg, it, [], 0⟩] scope pos) (owL X.K (as.map f)) := by
  refine PE_imp (pe_lc (te := fun σ H Q => ∃ a : {a : α // a ∈ as}, tG X.K B (setT (wipeG Γ (own.map (·.2))) T (enc a.1)) (f a.1) σ H Q) hc hN hi ok hg (fun _ _ _ _ _ => pts_nil) (fun s H C cl fp => PE_ex fun a => he s H C cl fp a.1 a.2) hs) fun σ H Q q => ?_
  refine lc_read (X := X) (Γt := fun a => setT (wipeG Γ (own.map (·.2))) T (enc a)) (f := f) (c := fun _ => true) hl hT hI (fun _ _ => rfl) (fun a _ σ H Q ⟨S, en, k⟩ => k S H en.st.refl) (fun a ha _ σ H Q q => ⟨⟨a, ha⟩, q⟩) σ H Q ?_
  have e : as.filter (fun _ => true) = as := by simp
  rw [e]; exact q
/-- [elt for tg in it if c] -/
theorem go_lcIf {cond : Expr} {scope : Scope} {own : List (Str × Nat)} {pos : Pos} {T : Tg} {as : List α} (enc f : α → Vl) (c : α → Bool) (hc : X.calm = true) (hN : X.N.Nodup) (hi : GI X B Γ tg it (as.map enc)) (ok : BlkOk X.N X.env.scope scope own)
    (hg : ∀ (s : Shared) (H : Hp) (C : Addr) (cl : List (Str × Addr)) (fp : List Addr), PG (X.blk s H scope (compEnvC scope cl C X.env) fp) tg (gT X.K T))
    (ht : ∀ (s : Shared) (H : Hp) (C : Addr) (cl : List (Str × Addr)) (fp : List Addr), ∀ a ∈ as, GT (X.blk s H scope (compEnvC scope cl C X.env) fp) B (setT (wipeG Γ (own.map (·.2))) T (enc a)) cond (c a))
    (he : ∀ (s : Shared) (H : Hp) (C : Addr) (cl : List (Str × Addr)) (fp : List Addr), ∀ a ∈ as, c a = true → GE (X.blk s H scope (compEnvC scope cl C X.env) fp) B (setT (wipeG Γ (own.map (·.2))) T (enc a)) elt (f a))
    (hl : as.length < sizeLine) (hT : ∀ a ∈ as, okT T (enc a)) (hI : ∀ i ∈ T.idx, i < Γ.length ∧ i ∈ own.map (·.2)) (hs : ∀ x, foldedSetIterable it X.env x = pure x := by intro _; rfl) :
    GO X B Γ (.ListComp elt [⟨tg, it, [cond], 0⟩] scope pos) (owL X.K ((as.filter c).map f)) := by
  refine PE_imp (pe_lc (te := fun σ H Q => ∃ a : {a : α // a ∈ as ∧ c a = true}, tG X.K B (setT (wipeG Γ (own.map (·.2))) T (enc a.1)) (f a.1) σ H Q) hc hN hi ok hg
    (fun s H C cl fp => pts_one (PT_ex (t := fun (a : {a : α // a ∈ as}) σ H Q => tT X.K B (setT (wipeG Γ (own.map (·.2))) T (enc a.1)) (c a.1) σ H Q) fun a => ht s H C cl fp a.1 a.2)) (fun s H C cl fp => PE_ex fun a => he s H C cl fp a.1 a.2.1 a.2.2) hs) fun σ H Q q => ?_
  exact lc_read (X := X) (Γt := fun a => setT (wipeG Γ (own.map (·.2))) T (enc a)) (f := f) (c := c) hl hT hI (fun _ _ => rfl) (fun a ha σ H Q q => ⟨⟨a, ha⟩, q⟩) (fun a ha hca σ H Q q => ⟨⟨a, ha, hca⟩, q⟩) σ H Q q
/-- y = [elt for tg in it], y a local: a value -/
theorem gs_lc {scope : Scope} {own : List (Str × Nat)} {pos spos py : Pos} {y : Str} {i : Nat} {T : Tg} {as : List α} (enc f : α → Vl) (hc : X.calm = true) (hN : X.N.Nodup) (hy : X.N[i]? = some y) (hyl : X.env.scope.names.lookup y = some .local)
    (hsw : swapsWith (.ListComp elt [⟨tg, it, [], 0⟩] scope pos) (some (.Name y py)) spos.line X.env = pure true) (hi : GI X B Γ tg it (as.map enc)) (ok : BlkOk X.N X.env.scope scope own)
    (hg : ∀ (s : Shared) (H : Hp) (C : Addr) (cl : List (Str × Addr)) (fp : List Addr), PG (X.blk s H scope (compEnvC scope cl C X.env) fp) tg (gT X.K T))
    (he : ∀ (s : Shared) (H : Hp) (C : Addr) (cl : List (Str × Addr)) (fp : List Addr), ∀ a ∈ as, GE (X.blk s H scope (compEnvC scope cl C X.env) fp) B (setT (wipeG Γ (own.map (·.2))) T (enc a)) elt (f a))
    (hl : as.length < sizeLine) (hT : ∀ a ∈ as, okT T (enc a)) (hI : ∀ i ∈ T.idx, i < Γ.length ∧ i ∈ own.map (·.2)) (hiy : i < Γ.length) (hs : ∀ x, foldedSetIterable it X.env x = pure x := by intro _; rfl) :
    GS X B Γ (.Assign [.Name y py] (.ListComp elt [⟨tg, it, [], 0⟩] scope pos) spos) (Γ.set i (.va (.lst (as.map f)))) := by
  refine PS_imp (ps_setLc (te := fun σ H Q => ∃ a : {a : α // a ∈ as}, tG X.K B (setT (wipeG Γ (own.map (·.2))) T (enc a.1)) (f a.1) σ H Q) hc hN hy hyl hsw hi ok hg (fun _ _ _ _ _ => pts_nil) (fun s H C cl fp => PE_ex fun a => he s H C cl fp a.1 a.2) hs) fun D σ H ⟨S, en, k⟩ => ?_
  refine lc_read (X := X) (Γ := Γ) (Γt := fun a => setT (wipeG Γ (own.map (·.2))) T (enc a)) (f := f) (c := fun _ => true) hl hT hI (fun _ _ => rfl) (fun a _ σ H Q ⟨S, en, k⟩ => k S H en.st.refl) (fun a ha _ σ H Q q => ⟨⟨a, ha⟩, q⟩) σ H _ ?_
  have e : as.filter (fun _ => true) = as := by simp
  rw [e]
  refine ⟨S, en, fun l ho S' H' t h0 h1 h2 ⟨vs, e1, e2, e3⟩ => ?_⟩
  subst e1
  have t' := t.freeze h0 h1 h2 (fun ps z => by cases z)
  exact k _ _ H' ((en.step t').setV hiy ⟨l, vs, rfl, upd_same, reps_mono (same_new h1) _ _ e3⟩)
theorem gs_lcIf {cond : Expr} {scope : Scope} {own : List (Str × Nat)} {pos spos py : Pos} {y : Str} {i : Nat} {T : Tg} {as : List α} (enc f : α → Vl) (c : α → Bool) (hc : X.calm = true) (hN : X.N.Nodup) (hy : X.N[i]? = some y) (hyl : X.env.scope.names.lookup y = some .local)
    (hsw : swapsWith (.ListComp elt [⟨tg, it, [cond], 0⟩] scope pos) (some (.Name y py)) spos.line X.env = pure true) (hi : GI X B Γ tg it (as.map enc)) (ok : BlkOk X.N X.env.scope scope own)
    (hg : ∀ (s : Shared) (H : Hp) (C : Addr) (cl : List (Str × Addr)) (fp : List Addr), PG (X.blk s H scope (compEnvC scope cl C X.env) fp) tg (gT X.K T))
    (ht : ∀ (s : Shared) (H : Hp) (C : Addr) (cl : List (Str × Addr)) (fp : List Addr), ∀ a ∈ as, GT (X.blk s H scope (compEnvC scope cl C X.env) fp) B (setT (wipeG Γ (own.map (·.2))) T (enc a)) cond (c a))
    (he : ∀ (s : Shared) (H : Hp) (C : Addr) (cl : List (Str × Addr)) (fp : List Addr), ∀ a ∈ as, c a = true → GE (X.blk s H scope (compEnvC scope cl C X.env) fp) B (setT (wipeG Γ (own.map (·.2))) T (enc a)) elt (f a))
    (hl : as.length < sizeLine) (hT : ∀ a ∈ as, okT T (enc a)) (hI : ∀ i ∈ T.idx, i < Γ.length ∧ i ∈ own.map (·.2)) (hiy : i < Γ.length) (hs : ∀ x, foldedSetIterable it X.env x = pure x := by intro _; rfl) :
    GS X B Γ (.Assign [.Name y py] (.ListComp elt [⟨tg, it, [cond], 0⟩] scope pos) spos) (Γ.set i (.va (.lst ((as.filter c).map f)))) := by
  refine PS_imp (ps_setLc (te := fun σ H Q => ∃ a : {a : α // a ∈ as ∧ c a = true}, tG X.K B (setT (wipeG Γ (own.map (·.2))) T (enc a.1)) (f a.1) σ H Q) hc hN hy hyl hsw hi ok hg
    (fun s H C cl fp => pts_one (PT_ex (t := fun (a : {a : α // a ∈ as}) σ H Q => tT X.K B (setT (wipeG Γ (own.map (·.2))) T (enc a.1)) (c a.1) σ H Q) fun a => ht s H C cl fp a.1 a.2)) (fun s H C cl fp => PE_ex fun a => he s H C cl fp a.1 a.2.1 a.2.2) hs) fun D σ H ⟨S, en, k⟩ => ?_
  refine lc_read (X := X) (Γ := Γ) (Γt := fun a => setT (wipeG Γ (own.map (·.2))) T (enc a)) (f := f) (c := c) hl hT hI (fun _ _ => rfl) (fun a ha σ H Q q => ⟨⟨a, ha⟩, q⟩) (fun a ha hca σ H Q q => ⟨⟨a, ha, hca⟩, q⟩) σ H _ ?_
  refine ⟨S, en, fun l ho S' H' t h0 h1 h2 ⟨vs, e1, e2, e3⟩ => ?_⟩
  subst e1
  have t' := t.freeze h0 h1 h2 (fun ps z => by cases z)
  exact k _ _ H' ((en.step t').setV hiy ⟨l, vs, rfl, upd_same, reps_mono (same_new h1) _ _ e3⟩)
end

/-! ### loops -/
abbrev Bs.up (B : Bs) (S : Hp) : Bs := { B with S0 := S }
section
variable {K : PySem.W.Frag} {B : Bs} {Γ : List Sl} {σ : L2.St} {S H : Hp}
theorem Env.up (en : Env K B Γ σ S H) : Env K (B.up S) Γ σ S H := ⟨en.st, Same.refl _, en.fr, fun a h h2 => ⟨h, (en.nw a (by
    cases e : B.S0 a with
    | none => rfl
    | some x => have z : S a = none := h; rw [en.bs _ _ e] at z; cases z) h2).2⟩, en.lv, en.len, en.va, en.ow, en.dis⟩
theorem Env.down {S1 : Hp} (en : Env K (B.up S1) Γ σ S H) (h : Same B.S0 S1) (h2 : ∀ a, B.S0 a = none → Frm B.H0 a → S1 a = none) : Env K B Γ σ S H :=
  ⟨en.st, h.trans en.bs, en.fr, fun a h3 h4 => en.nw a (h2 a h3 h4) h4, en.lv, en.len, en.va, en.ow, en.dis⟩
end
section
variable {X : Cx} {B : Bs} {Γ : List Sl} {tg it c : Expr} {pos : Pos} {body : List Stmt} {xs : List Vl} {y : Vl}
theorem gs_for {T : Tg} (Γf : Nat → List Sl) (hp : PassesOwn (model X.prog X.w) X.A X.env X.xe) (hc : X.calm = true) (hi : GI X B (Γf 0) tg it xs) (hg : PG X tg (gT X.K T)) (hT : ∀ x ∈ xs, okT T x) (hI : ∀ i < xs.length, ∀ j ∈ T.idx, j < (Γf i).length)
    (hb : ∀ (S1 : Hp) (i : Nat) (x : Vl), xs[i]? = some x → GSs X (B.up S1) (setT (Γf i) T x) body (Γf (i + 1))) (hs : ∀ x, foldedSetIterable it X.env x = pure x := by intro _; rfl) :
    GS X B (Γf 0) (.For tg it body [] pos) (Γf xs.length) := by
  refine PS_imp (ps_for (tb := fun D σ H => ∃ p : {p : Hp × Nat × Vl // xs[p.2.1]? = some p.2.2}, tN X.K (B.up p.1.1) (setT (Γf p.1.2.1) T p.1.2.2) (Γf (p.1.2.1 + 1)) D σ H) hp hc hi hg (PSs_ex fun p => hb p.1.1 p.1.2.1 p.1.2.2 p.2) hs) fun D σ H ⟨S, en, k⟩ => ?_
  refine ⟨S, en, fun J S1 H1 t1 wk => ?_⟩
  have en1 := (en.step t1)
  refine ⟨fun i m σ2 H2 => m = xs.length - i ∧ i ≤ xs.length ∧ ∃ S2, Env X.K (B.up S1) (Γf i) σ2 S2 H2, ⟨xs.length, by simp, Nat.zero_le _, S1, en1.up⟩, ?_⟩
  rintro i m σ2 H2 ⟨rfl, hle, S2, en2⟩
  by_cases hlt : i < xs.length
  · obtain ⟨x, hx⟩ : ∃ x, xs[i]? = some x := ⟨_, List.getElem?_eq_getElem hlt⟩
    obtain ⟨hgo, hy⟩ := wk.go i S2 H2 x en2.st en2.bs hx
    refine .inr ⟨hgo, fun σ3 H3 => ∃ S3, Env X.K (B.up S1) (Γf (i + 1)) σ3 S3 H3, fun σ3 H3 ⟨S3, e3⟩ => ⟨xs.length - (i + 1), by omega, rfl, hlt, S3, e3⟩, fun v H3 yv => ?_⟩
    obtain ⟨S3, t3, rv⟩ := hy v H3 yv
    refine gT_ok (en2.step t3) rv (hT x (List.mem_of_getElem? hx)) (hI i hlt) fun σ4 e4 _ => ?_
    exact ⟨⟨(S1, i, x), hx⟩, S3, e4, fun σ5 S5 H5 e5 => ⟨S5, e5⟩⟩
  · have hi' : i = xs.length := by omega
    subst hi'
    exact .inl ⟨wk.stop S2 H2 en2.st en2.bs, k σ2 S2 H2 (en2.down en1.bs fun a h1 h2 => (en1.nw a h1 h2).1)⟩
/-- a loop that returns at turn n -/
theorem gr_for {T : Tg} {Γ' : List Sl} (Γf : Nat → List Sl) (n : Nat) (hp : PassesOwn (model X.prog X.w) X.A X.env X.xe) (hc : X.calm = true) (hi : GI X B (Γf 0) tg it xs) (hg : PG X tg (gT X.K T)) (hT : ∀ x ∈ xs, okT T x) (hn : n < xs.length) (hI : ∀ i ≤ n, ∀ j ∈ T.idx, j < (Γf i).length)
    (hb : ∀ (S1 : Hp) (i : Nat) (x : Vl), i < n → xs[i]? = some x → GSs X (B.up S1) (setT (Γf i) T x) body (Γf (i + 1))) (hr : ∀ (S1 : Hp) (x : Vl), xs[n]? = some x → GRs X (B.up S1) (setT (Γf n) T x) body Γ' y) (hs : ∀ x, foldedSetIterable it X.env x = pure x := by intro _; rfl) :
    GR X B (Γf 0) (.For tg it body [] pos) Γ' y := by
  refine PS_imp (ps_for (tb := fun D σ H => ∃ p : {p : Hp × Nat × Vl // xs[p.2.1]? = some p.2.2 ∧ p.2.1 ≤ n}, if p.1.2.1 < n then tN X.K (B.up p.1.1) (setT (Γf p.1.2.1) T p.1.2.2) (Γf (p.1.2.1 + 1)) D σ H else tR X.K (B.up p.1.1) (setT (Γf n) T p.1.2.2) Γ' y D σ H) hp hc hi hg (PSs_ex fun p => ?_) hs) fun D σ H ⟨S, en, k⟩ => ?_
  · obtain ⟨⟨S1, i, x⟩, hx, hle⟩ := p
    by_cases h : i < n
    · exact PSs_imp (hb S1 i x h hx) fun D σ H q => by rw [if_pos h] at q; exact q
    · have e : i = n := by
        have : i ≤ n := hle
        omega
      subst e
      exact PSs_imp (hr S1 x hx) fun D σ H q => by rw [if_neg h] at q; exact q
  refine ⟨S, en, fun J S1 H1 t1 wk => ?_⟩
  have en1 := (en.step t1)
  refine ⟨fun i m σ2 H2 => m = n + 1 - i ∧ i ≤ n ∧ ∃ S2, Env X.K (B.up S1) (Γf i) σ2 S2 H2, ⟨n + 1, by simp, Nat.zero_le _, S1, en1.up⟩, ?_⟩
  rintro i m σ2 H2 ⟨rfl, hle, S2, en2⟩
  obtain ⟨x, hx⟩ : ∃ x, xs[i]? = some x := ⟨_, List.getElem?_eq_getElem (by omega)⟩
  obtain ⟨hgo, hy⟩ := wk.go i S2 H2 x en2.st en2.bs hx
  refine .inr ⟨hgo, fun σ3 H3 => i < n ∧ ∃ S3, Env X.K (B.up S1) (Γf (i + 1)) σ3 S3 H3, fun σ3 H3 ⟨hin, S3, e3⟩ => ⟨n + 1 - (i + 1), by omega, rfl, hin, S3, e3⟩, fun v H3 yv => ?_⟩
  obtain ⟨S3, t3, rv⟩ := hy v H3 yv
  refine gT_ok (en2.step t3) rv (hT x (List.mem_of_getElem? hx)) (hI i hle) fun σ4 e4 _ => ⟨⟨(S1, i, x), hx, hle⟩, ?_⟩
  by_cases h : i < n
  · rw [if_pos h]
    exact ⟨S3, e4, fun σ5 S5 H5 e5 => ⟨h, S5, e5⟩⟩
  · rw [if_neg h]
    have e : i = n := by omega
    subst e
    exact ⟨S3, e4, fun w σ5 S5 H5 e5 r5 => k w σ5 S5 H5 (e5.down en1.bs fun a h1 h2 => (en1.nw a h1 h2).1) r5⟩
theorem gs_while (Γf : Nat → List Sl) (n : Nat) (hp : PassesOwn (model X.prog X.w) X.A X.env X.xe) (ht : ∀ i < n, GT X B (Γf i) c true) (hf : GT X B (Γf n) c false) (hb : ∀ i < n, GSs X B (Γf i) body (Γf (i + 1))) :
    GS X B (Γf 0) (.While c body [] pos) (Γf n) := by
  refine PS_imp (ps_while (tc := fun σ H Q => ∃ i : {i : Nat // i ≤ n}, tT X.K B (Γf i.1) (decide (i.1 < n)) σ H Q) (tb := fun D σ H => ∃ i : {i : Nat // i < n}, tN X.K B (Γf i.1) (Γf (i.1 + 1)) D σ H) hp (PT_ex fun i => ?_) (PSs_ex fun i => hb i.1 i.2)) fun D σ H ⟨S, en, k⟩ => ?_
  · by_cases h : i.1 < n
    · rw [decide_eq_true h]; exact ht i.1 h
    · have e : i.1 = n := by have := i.2; omega
      rw [decide_eq_false h, e]; exact hf
  · refine ⟨fun m σ2 H2 => ∃ i S2, i ≤ n ∧ m = n - i ∧ Env X.K B (Γf i) σ2 S2 H2, ⟨n, 0, S, Nat.zero_le _, by simp, en⟩, ?_⟩
    rintro m σ2 H2 ⟨i, S2, hle, rfl, en2⟩
    refine ⟨⟨i, hle⟩, S2, en2, fun S3 H3 t3 => ?_⟩
    have en3 := en2.step t3
    by_cases h : i < n
    · rw [decide_eq_true h]
      refine iteT ⟨fun σ4 H4 => ∃ S4, Env X.K B (Γf (i + 1)) σ4 S4 H4, fun σ4 H4 ⟨S4, e4⟩ => ⟨n - (i + 1), by omega, i + 1, S4, h, rfl, e4⟩, ⟨i, h⟩, S3, en3, fun σ5 S5 H5 e5 => ⟨S5, e5⟩⟩
    · rw [decide_eq_false h]
      have e : i = n := by omega
      subst e
      exact iteF (k σ2 S3 H3 en3)
end

/-! ### defs -/
/-- a def that only reads what it is given: pre xs y, its answer y to the arguments xs -/
def spV (K : PySem.W.Frag) (T : List NTab) (pre : List Vl → Vl → Prop) : Sp := fun vs H Q _ => ∃ S xs y, Sta T S H ∧ reps K S xs vs ∧ pre xs y ∧ ∀ v S' H', Stp T S H S' H' → rep K S' y v → Q v H'
def FnG (P : Program) (w : World) (K : PySem.W.Frag) (mg : Str → Option Value) (base : Heap) (k : Nat) (name : Str) (ps : List Str) (sp : Sp) : Prop :=
  ∃ f fd, FnOk P w K mg base CX0 k f fd ps sp ∧ mg name = some (.ref f) ∧ PySem.W.keepIn K (.ref f) = true ∧ Binds K fd ps []
section
variable {X : Cx} {B : Bs} {Γ : List Sl} {e : Expr} {es : List Expr} {pos p : Pos} {xs : List Vl} {y : Vl} {k j : Nat} {name : Str} {ps : List Str} {pre : List Vl → Vl → Prop}
theorem ge_call (Gf : FnG X.prog X.w X.K X.mg X.base k name ps (spV X.K B.T pre)) (hr : Room j X.A) (hk : k ≤ j) (hg : Gl X name) (ha : GA X B Γ (e :: es) xs) (hp : pre xs y) (hdb : (name == ("__debug__" : Str)) = false := by decide)
    (he : starEach (e :: es) X.env = (false, eval e X.env) :: starEach es X.env := by rfl) (hpl : (backTo pos (starEach es X.env)).any (·.1) = false := by rfl) : GE X B Γ (.Call (.Name name p) (e :: es) [] pos) y := by
  obtain ⟨f, fd, F, hm, hkp, hb⟩ := Gf
  refine PE_imp (pe_call F (hr.mono hk) hg hm hkp hb .nil (pass0 (X := X)) ha hdb he hpl) fun σ H Q ⟨S, en, q⟩ => ⟨S, en, fun vs S1 H1 t1 h1 => ?_⟩
  show spV X.K B.T pre (vs ++ []) H1 Q E0
  rw [List.append_nil]
  exact ⟨S1, xs, y, t1.st, h1, hp, fun v S2 H2 t2 h2 => q v S2 H2 (t1.trans t2) h2⟩
end
section
variable {P : Program} {w : World} {K : PySem.W.Frag} {mg : Str → Option Value} {base : Heap} {T : List NTab} {x qual : Str} {st : Stmt} {f : Addr} {fd : FuncData} {N ps : List Str} {k : Nat} {pre : List Vl → Vl → Prop}
def Gam0 (N : List Str) (xs : List Vl) : List Sl := xs.map Sl.va ++ List.replicate (N.length - xs.length) .no
theorem reps_map_va {H : Hp} : ∀ {xs : List Vl} {vs : List V}, reps K H xs vs → ∀ (i : Nat) (x : Vl), (xs.map Sl.va)[i]? = some (.va x) → ∃ v, (vs.map some)[i]? = some (some v) ∧ rep K H x v := fun {xs vs} h i x hx => by
  rw [List.getElem?_map] at hx
  cases e : xs[i]? with
  | none => rw [e] at hx; cases hx
  | some z =>
    rw [e] at hx; cases hx
    obtain ⟨v, h1, h2⟩ := reps_get h e
    exact ⟨v, by rw [List.getElem?_map, h1]; rfl, h2⟩
theorem env0 {S H : Hp} {xs : List Vl} {vs : List V} (st : Sta T S H) (r : reps K S xs vs) : Env K ⟨T, H, S, []⟩ (Gam0 N xs) (L2.start N vs) S H := by
  have hl := reps_length r
  refine ⟨st, Same.refl _, fun a o h _ _ => h, fun a h h2 => ⟨h, h2⟩, fun a h => h, by simp [Gam0, L2.start, hl], fun i x hx => ?_, fun i f o hx => ?_, fun i j f g o o' l hx => ?_⟩
  · unfold Gam0 at hx
    unfold L2.start
    by_cases h : i < xs.length
    · rw [List.getElem?_append_left (by simpa using h)] at hx
      rw [List.getElem?_append_left (by simpa [hl] using h)]
      exact reps_map_va r i x hx
    · rw [List.getElem?_append_right (by simpa using h), List.getElem?_replicate] at hx
      split at hx <;> cases hx
  all_goals
    unfold Gam0 at hx
    by_cases h : i < xs.length
    · rw [List.getElem?_append_left (by simpa using h), List.getElem?_map] at hx
      cases e : xs[i]? <;> rw [e] at hx <;> cases hx
    · rw [List.getElem?_append_right (by simpa using h), List.getElem?_replicate] at hx
      split at hx <;> cases hx
theorem Env.toStp {Γ : List Sl} {σ : L2.St} {S H S' H' : Hp} (en : Env K ⟨T, H, S, []⟩ Γ σ S' H') : Stp T S H S' H' :=
  ⟨en.st, en.bs, fun a o h n => en.fr a o h (by simp) n, fun a h1 h2 => (en.nw a h1 h2).1, en.lv⟩
abbrev bX (P : Program) (w : World) (K : PySem.W.Frag) (mg : Str → Option Value) (base : Heap) (N : List Str) (qual : Str) (st : Stmt) (f : Addr) (cdv : Value) (A : Around) (outer : List PySem.Env) (s : Shared) (H : Hp) (E : XK) : Cx :=
  (cxOf CX0 P w K mg base N qual (defScope st) f cdv A outer s H E).nox
theorem okV (F : Fun K x qual st f fd) (Sc : FnScope N ps (defScope st)) (len : ∀ xs y, pre xs y → xs.length = ps.length)
    (body : ∀ (cdv : Value) (A : Around) (outer : List PySem.Env) (s : Shared) (H : Hp) (E : XK) (B : Bs) (xs : List Vl) (y : Vl), B.T = T → Room k (A.deeper (envOfC qual (defScope st) s.heap.objs.size f cdv)) → pre xs y →
      ∃ Γ', GRs (bX P w K mg base N qual st f cdv A outer s H E) B (Gam0 N xs) (defBody st) Γ' y) :
    FnOk P w K mg base CX0 (k + 1) f fd ps (spV K T pre) := by
  refine F.ok Sc (fun vs H Q E h => ?_) fun cdv A outer s H vs Q E hr h => ?_
  · obtain ⟨S, xs, y, st, r, hp, _⟩ := h
    rw [← reps_length r]; exact len xs y hp
  · obtain ⟨S, xs, y, st0, r, hp, q⟩ := h
    obtain ⟨Γ', hb⟩ := body cdv A outer s H E ⟨T, H, S, []⟩ xs y rfl hr hp
    exact ⟨_, hb, S, env0 st0 r, fun v σ' S' H' en rv => q v S' H' en.toStp rv⟩
theorem okN (F : Fun K x qual st f fd) (Sc : FnScope N ps (defScope st)) (len : ∀ xs y, pre xs y → xs.length = ps.length) (hn : ∀ xs y, pre xs y → y = .non)
    (body : ∀ (cdv : Value) (A : Around) (outer : List PySem.Env) (s : Shared) (H : Hp) (E : XK) (B : Bs) (xs : List Vl) (y : Vl), B.T = T → Room k (A.deeper (envOfC qual (defScope st) s.heap.objs.size f cdv)) → pre xs y →
      ∃ Γ', GSs (bX P w K mg base N qual st f cdv A outer s H E) B (Gam0 N xs) (defBody st) Γ') :
    FnOk P w K mg base CX0 (k + 1) f fd ps (spV K T pre) := by
  refine F.ok Sc (fun vs H Q E h => ?_) fun cdv A outer s H vs Q E hr h => ?_
  · obtain ⟨S, xs, y, st, r, hp, _⟩ := h
    rw [← reps_length r]; exact len xs y hp
  · obtain ⟨S, xs, y, st0, r, hp, q⟩ := h
    obtain ⟨Γ', hb⟩ := body cdv A outer s H E ⟨T, H, S, []⟩ xs y rfl hr hp
    have e := hn xs y hp
    subst e
    exact ⟨_, hb, S, env0 st0 r, fun σ' S' H' en => q .non S' H' en.toStp rfl⟩
theorem FnG.of (Gf : FnOk P w K mg base CX0 k f fd ps (spV K T pre)) (hm : mg x = some (.ref f)) (hk : PySem.W.keepIn K (.ref f) = true) (hb : Binds K fd ps []) : FnG P w K mg base k x ps (spV K T pre) := ⟨f, fd, Gf, hm, hk, hb⟩
end
end G
set_option maxHeartbeats 1000000
/-! G4: sequences and built-ins by values. -/
namespace G
open PySem PySem.Spec PyProof.Rows L2 LamX NdefX

section
variable {K : PySem.W.Frag} {H : Hp}
theorem atI_reps {xs : List Vl} {vs : List V} {i : Int} {x : Vl} (r : reps K H xs vs) (h : atI xs i = some x) : ∃ v, atI vs i = some v ∧ rep K H x v := by
  unfold atI at h ⊢
  rw [← reps_length r]
  cases e : ixN xs.length i with
  | none => rw [e] at h; cases h
  | some j =>
    rw [e] at h
    exact reps_get r h
def cutX {α : Type} (xs : List α) (lo hi : Option Int) : List α := (xs.drop (HT.sIx xs.length 0 lo)).take (HT.sIx xs.length xs.length hi - HT.sIx xs.length 0 lo)
theorem cutX_reps {xs : List Vl} {vs : List V} {lo hi : Option Int} (r : reps K H xs vs) : reps K H (cutX xs lo hi) (cutV vs lo hi) := by
  unfold cutX cutV
  rw [reps_length r]
  exact reps_take _ (reps_drop _ r)
theorem rep_lst_len {xs : List Vl} {v : V} {h : Heap} {P : Program} {w : World} (hok : HOk P w H h) (r : rep K H (.lst xs) v) : xs.length ≤ sizeLine := by
  obtain ⟨a, vs, e1, e2, e3⟩ := r
  rw [reps_length e3]
  exact (hok a _ e2).1
end

section
variable {X : Cx} {B : Bs} {Γ : List Sl} {x y z : Vl} {a b c e : Expr} {pos : Pos} {xs ys : List Vl}
theorem ge_tud (h : GE X B Γ e (.tud xs)) : GE X B Γ e (.tup xs) := PE_imp h fun σ H Q ⟨S, en, k⟩ => ⟨S, en, fun v S1 H1 t1 h1 => k v S1 H1 t1 (rep_tud h1)⟩

/-! ### subscripts -/
theorem ro_ixT {i : Int} (h : atI xs i = some y) : RO X B (rIxT X.K) (.tup xs) (.int i) y := fun v u S H Q st h1 h2 k => by
  obtain ⟨p, vs, e1, e2, e3⟩ := h1
  obtain ⟨w, q1, q2⟩ := atI_reps e3 h
  exact ⟨p, vs, i, w, e1, h2, Same.sqT st.sub e2, q1, k w S H st.refl q2⟩
theorem ro_ixL {i : Int} (h : atI xs i = some y) : RO X B (rIxL X.K) (.lst xs) (.int i) y := fun v u S H Q st h1 h2 k => by
  obtain ⟨p, vs, e1, e2, e3⟩ := h1
  obtain ⟨w, q1, q2⟩ := atI_reps e3 h
  exact ⟨p, vs, i, w, e1, h2, SqL.of (st.sub _ _ e2), q1, k w S H st.refl q2⟩
theorem ge_ixT {i : Int} (ha : GE X B Γ a (.tup xs)) (hb : GE X B Γ b (.int i)) (h : atI xs i = some y) (hs : PlainIx b := by exact fun _ _ => rfl) : GE X B Γ (.Subscript a b pos) y := ge_ix ix_tup ha hb hs (ro_ixT h)
theorem ge_ixL {i : Int} (ha : GE X B Γ a (.lst xs)) (hb : GE X B Γ b (.int i)) (h : atI xs i = some y) (hs : PlainIx b := by exact fun _ _ => rfl) : GE X B Γ (.Subscript a b pos) y := ge_ix ix_list ha hb hs (ro_ixL h)

/-! ### slices -/
def tP (K : PySem.W.Frag) (B : Bs) (Γ : List Sl) (o : Option Int) : TO := fun σ H Q => ∃ S, Env K B Γ σ S H ∧ ∀ S' H', Stp B.T S H S' H' → Q o H'
abbrev GP (X : Cx) (B : Bs) (Γ : List Sl) (e : Option Expr) (o : Option Int) : Prop := PO X e (tP X.K B Γ o)
theorem PO_imp {X : Cx} {e : Option Expr} {t t' : TO} (h : PO X e t) (k : ∀ σ H Q, t' σ H Q → t σ H Q) : PO X e t' := ⟨fun pins s σ H Q I q => h.run pins s σ H Q I (k σ H Q q)⟩
theorem gp_none : GP X B Γ none none := PO_imp po_none fun σ H Q ⟨S, en, k⟩ => k S H en.st.refl
theorem gp_some {i : Int} (h : GE X B Γ e (.int i)) : GP X B Γ (some e) (some i) := PO_imp (po_some h) fun σ H Q ⟨S, en, k⟩ => ⟨S, en, fun v S1 H1 t1 h1 => ⟨i, h1, k S1 H1 t1⟩⟩
theorem ge_slT {lo hi : Option Expr} {ol oh : Option Int} {p2 : Pos} (h : GE X B Γ e (.tup xs)) (hl : GP X B Γ lo ol) (hh : GP X B Γ hi oh) : GE X B Γ (.Subscript e (.Slice lo hi none p2) pos) (.tup (cutX xs ol oh)) :=
  PE_imp (pe_slice sl_tupA h hl hh) fun σ H Q ⟨S, en, k⟩ => ⟨S, en, fun v S1 H1 t1 ⟨p, vs, e1, e2, e3⟩ => ⟨S1, en.step t1, fun S2 H2 t2 => ⟨S2, (en.step t1).step t2, fun S3 H3 t3 => by
    have tt := t2.trans t3
    refine ⟨p, vs, e1, Same.sqT (tt.s.trans tt.st.sub) e2, fun hw => ?_, fun hw q hq => ?_⟩
    · refine k _ S3 H3 (t1.trans tt) ⟨p, vs, e1.symm ▸ rfl, Same.sqT tt.s e2, ?_⟩
      have e : cutX xs ol oh = xs := by
        unfold cutX
        rw [reps_length e3, hw.1, hw.2, List.drop_zero, Nat.sub_zero, ← reps_length e3, List.take_length]
      rw [e]
      exact reps_mono tt.s _ _ e3
    · have t4 := tt.st.newV hq (o := .tup (cutV vs ol oh)) (fun ps z => by cases z)
      exact k _ _ _ ((t1.trans tt).trans t4) ⟨q, _, rfl, SqT.of upd_same, reps_mono (tt.s.trans t4.s) _ _ (cutX_reps e3)⟩⟩⟩⟩
theorem cutX_len {α : Type} (xs : List α) (lo hi : Option Int) : (cutX xs lo hi).length ≤ xs.length := by
  unfold cutX
  rw [List.length_take, List.length_drop]
  omega
theorem go_slL {lo hi : Option Expr} {ol oh : Option Int} {p2 : Pos} (h : GE X B Γ e (.lst xs)) (hz : xs.length ≤ sizeLine) (hl : GP X B Γ lo ol) (hh : GP X B Γ hi oh) : GO X B Γ (.Subscript e (.Slice lo hi none p2) pos) (owL X.K (cutX xs ol oh)) :=
  PE_imp (pe_slice sl_list h hl hh) fun σ H Q ⟨S, en, k⟩ => ⟨S, en, fun v S1 H1 t1 ⟨p, vs, e1, e2, e3⟩ => ⟨S1, en.step t1, fun S2 H2 t2 => ⟨S2, (en.step t1).step t2, fun S3 H3 t3 => by
    have tt := t2.trans t3
    refine ⟨p, vs, e1, SqL.of (tt.st.sub _ _ (tt.s _ _ e2)), fun q hq => ?_⟩
    have t4 := tt.st.newO hq (o := .lst (cutV vs ol oh))
    refine k q _ _ _ ((t1.trans tt).trans t4) (stp_none (t1.trans tt) hq) (sta_none tt.st hq) upd_same ⟨_, rfl, ?_, reps_mono tt.s _ _ (cutX_reps e3)⟩
    have := cutX_len xs ol oh
    rw [← reps_length (cutX_reps (lo := ol) (hi := oh) e3)]
    omega⟩⟩⟩

/-! ### putting together -/
theorem ro_catT (hz : xs.length + ys.length ≤ sizeLine) : RO X B (rCatA X.K) (.tup xs) (.tup ys) (.tup (xs ++ ys)) := fun v u S H Q st ⟨p, vs, e1, e2, e3⟩ ⟨q, us, e4, e5, e6⟩ k => by
  have l1 := reps_length e3
  have l2 := reps_length e6
  refine ⟨p, q, vs, us, e1, e4, Same.sqT st.sub e2, Same.sqT st.sub e5, by omega, fun z => ?_, fun z1 z2 => ?_, fun z1 z2 r hr => ?_⟩
  · have hx : xs = [] := List.eq_nil_of_length_eq_zero (by rw [l1, z]; rfl)
    subst hx
    exact k _ S H st.refl ⟨q, us, rfl, e5, e6⟩
  · have hx : ys = [] := List.eq_nil_of_length_eq_zero (by rw [l2, z2]; rfl)
    subst hx
    rw [List.append_nil] at k
    exact k _ S H st.refl ⟨p, vs, rfl, e2, e3⟩
  · have t := st.newV hr (o := .tup (vs ++ us)) (fun ps z => by cases z)
    exact k _ _ _ t ⟨r, _, rfl, SqT.of upd_same, reps_mono t.s _ _ (reps_append e3 e6)⟩
theorem ge_catT (ha : GE X B Γ a (.tup xs)) (hb : GE X B Γ b (.tup ys)) (hz : xs.length + ys.length ≤ sizeLine) : GE X B Γ (.BinOp a .Add b pos) (.tup (xs ++ ys)) := ge_op op_catA ha hb (ro_catT hz)
theorem go_catL (ha : GE X B Γ a (.lst xs)) (hb : GE X B Γ b (.lst ys)) (hz : xs.length + ys.length ≤ sizeLine) : GO X B Γ (.BinOp a .Add b pos) (owL X.K (xs ++ ys)) := go_op op_cat ha hb fun v u S H Q st ⟨p, vs, e1, e2, e3⟩ ⟨q, us, e4, e5, e6⟩ k => by
  have l1 := reps_length e3
  have l2 := reps_length e6
  refine ⟨p, q, vs, us, e1, e4, st.sub _ _ e2, st.sub _ _ e5, by omega, fun r hr => ?_⟩
  have t := st.newO hr (o := .lst (vs ++ us))
  exact k r _ _ _ t hr (sta_none st hr) upd_same ⟨_, rfl, by rw [List.length_append]; omega, reps_append e3 e6⟩
theorem flat_reps {H : Hp} {vs : List V} (r : reps X.K H xs vs) : ∀ n : Nat, reps X.K H (List.replicate n xs).flatten (List.replicate n vs).flatten
  | 0 => rfl
  | n + 1 => by rw [List.replicate_succ, List.replicate_succ, List.flatten_cons, List.flatten_cons]; exact reps_append r (flat_reps r n)
theorem flat_len {α : Type} (xs : List α) : ∀ n : Nat, (List.replicate n xs).flatten.length = n * xs.length
  | 0 => by simp
  | n + 1 => by rw [List.replicate_succ, List.flatten_cons, List.length_append, flat_len xs n, Nat.succ_mul]; omega
theorem go_repL {n : Int} (ha : GE X B Γ a (.lst xs)) (hb : GE X B Γ b (.int n)) (h0 : 0 ≤ n) (h1 : n < 2 ^ 62) (hz : xs.length * n.toNat ≤ sizeLine) : GO X B Γ (.BinOp a .Mult b pos) (owL X.K (List.replicate n.toNat xs).flatten) := go_op op_rep ha hb fun v u S H Q st ⟨p, vs, e1, e2, e3⟩ hu k => by
  have l1 := reps_length e3
  refine ⟨p, n, vs, e1, hu, st.sub _ _ e2, by omega, by omega, by rw [← l1]; exact hz, fun r hr => ?_⟩
  have t := st.newO hr (o := .lst (List.replicate n.toNat vs).flatten)
  refine k r _ _ _ t hr (sta_none st hr) upd_same ⟨_, rfl, ?_, flat_reps e3 _⟩
  rw [flat_len, ← l1, Nat.mul_comm]; exact hz

/-! ### built-ins -/
theorem ra1 {r : List V → Hp → VK → Prop} (h : ∀ (v : V) (S H : Hp) (Q : VK), Sta B.T S H → rep X.K S x v → (∀ v' S' H', Stp B.T S H S' H' → rep X.K S' z v' → Q v' H') → r [v] H Q) : RA X B r [x] z := fun vs S H Q st ⟨v, r', e1, e2, e3⟩ k => by
  have e3 : r' = [] := e3
  subst e3 e1
  exact h v S H Q st e2 k
theorem ra2 {r : List V → Hp → VK → Prop} (h : ∀ (v u : V) (S H : Hp) (Q : VK), Sta B.T S H → rep X.K S x v → rep X.K S y u → (∀ v' S' H', Stp B.T S H S' H' → rep X.K S' z v' → Q v' H') → r [v, u] H Q) : RA X B r [x, y] z := fun vs S H Q st ⟨v, r', e1, e2, u, r2, e4, e5, e6⟩ k => by
  have e6 : r2 = [] := e6
  subst e6 e4 e1
  exact h v u S H Q st e2 e5 k
theorem rao1 {r : List V → Hp → VK → Prop} {o : Own} (h : ∀ (v : V) (S H : Hp) (Q : VK), Sta B.T S H → rep X.K S x v → (∀ l ho S' H', Stp B.T S H S' H' → H l = none → S' l = none → H' l = some ho → o.r l ho S' → Q (.ref l) H') → r [v] H Q) : RAO X B r [x] o := fun vs S H Q st ⟨v, r', e1, e2, e3⟩ k => by
  have e3 : r' = [] := e3
  subst e3 e1
  exact h v S H Q st e2 k
section
variable {p : Pos} (hg : Gl X "len") (hm : X.mg "len" = none) (hs : starEach [a] X.env = (false, eval a X.env) :: starEach [] X.env := by rfl)
theorem ra_lenT : RA X B (fun xs H Q => ∃ p ys, xs = [.ref p] ∧ (SqL X.K H p ys ∨ SqT X.K H p ys) ∧ Q (.int ys.length) H) [.tup xs] (.int xs.length) := ra1 fun v S H Q st ⟨p, vs, e1, e2, e3⟩ k =>
  ⟨p, vs, by rw [e1], .inr (Same.sqT st.sub e2), k _ S H st.refl (by rw [reps_length e3]; rfl)⟩
theorem ra_lenL : RA X B (fun xs H Q => ∃ p ys, xs = [.ref p] ∧ (SqL X.K H p ys ∨ SqT X.K H p ys) ∧ Q (.int ys.length) H) [.lst xs] (.int xs.length) := ra1 fun v S H Q st ⟨p, vs, e1, e2, e3⟩ k =>
  ⟨p, vs, by rw [e1], .inl (SqL.of (st.sub _ _ e2)), k _ S H st.refl (by rw [reps_length e3]; rfl)⟩
end
theorem ra_isi {T : String} {r : Bool} (t : String) (ty : ∀ v S, rep X.K S x v → TyX X.K S v (.type t)) (mono : ∀ v S H, Same S H → TyX X.K S v (.type t) → TyX X.K H v (.type t)) (hk : kitB t T = some r) : RA X B (rIsi X.K) [x, tyOb T] (.bl r) := ra2 fun v u S H Q st h1 h2 k => by
  have h2 : u = .ty T := h2
  subst h2
  exact ⟨v, .ty T, .type t, .type T, r, rfl, .ty T, mono v S H st.sub (ty v S h1), kit_ty hk, k _ S H st.refl rfl⟩
theorem ty_int {i : Int} : ∀ v S, rep X.K S (.int i) v → TyX X.K S v (.type "int") := fun v S h => by
  have h : v = _ := h
  subst h; exact .base (.int i)
theorem ra_isi_int {T : String} {r : Bool} {i : Int} (hk : kitB "int" T = some r) : RA X B (rIsi X.K) [.int i, tyOb T] (.bl r) := ra2 fun v u S H Q st h1 h2 k => by
  have h2 : u = .ty T := h2
  have h1 : v = .int i := h1
  subst h2 h1
  exact ⟨_, .ty T, .type "int", .type T, r, rfl, .ty T, .base (.int i), kit_ty hk, k _ S H st.refl rfl⟩
theorem tyx_tup {K : PySem.W.Frag} {H : Hp} {p : Addr} {vs : List V} (h : SqT K H p vs) : TyX K H (.ref p) (.type "tuple") := by
  rcases h with (h | ⟨o, h⟩) | ⟨o, its, n, h1, h2, _⟩
  · exact .base (.tup h)
  · exact .fTuple h
  · exact .kTuple h1 h2
theorem ra_isi_tup {T : String} {r : Bool} (hk : kitB "tuple" T = some r) : RA X B (rIsi X.K) [.tup xs, tyOb T] (.bl r) := ra2 fun v u S H Q st ⟨p, vs, e1, e2, e3⟩ h2 k => by
  have h2 : u = .ty T := h2
  subst h2
  exact ⟨v, .ty T, .type "tuple", .type T, r, rfl, .ty T, by rw [e1]; exact tyx_tup (Same.sqT st.sub e2), kit_ty hk, k _ S H st.refl rfl⟩
theorem ra_intB {d : Bool} : RA X B (fun xs H Q => (∃ i, xs = [.int i] ∧ Q (.int i) H) ∨ ∃ k, xs = [.bl k] ∧ Q (.int (if k then 1 else 0)) H) [.bl d] (.int (if d then 1 else 0)) := ra1 fun v S H Q st h1 k =>
  .inr ⟨d, by rw [show v = .bl d from h1], k _ S H st.refl rfl⟩
theorem ra_max2 {i j : Int} : RA X B (fun xs H Q => ∃ i j, xs = [.int i, .int j] ∧ Q (.int (if j > i then j else i)) H) [.int i, .int j] (.int (if j > i then j else i)) := ra2 fun v u S H Q st h1 h2 k =>
  ⟨i, j, by rw [show v = .int i from h1, show u = .int j from h2], k _ S H st.refl rfl⟩
theorem ra_min2 {i j : Int} : RA X B (fun xs H Q => ∃ i j, xs = [.int i, .int j] ∧ Q (.int (if j < i then j else i)) H) [.int i, .int j] (.int (if j < i then j else i)) := ra2 fun v u S H Q st h1 h2 k =>
  ⟨i, j, by rw [show v = .int i from h1, show u = .int j from h2], k _ S H st.refl rfl⟩
theorem ra_sum {ns : List Int} : RA X B (rSum X.K) [.lst (ns.map .int)] (.int ns.sum) := ra1 fun v S H Q st ⟨p, vs, e1, e2, e3⟩ k => by
  have e3 := reps_ints e3
  subst e3
  exact ⟨p, ns, by rw [e1], SqL.of (st.sub _ _ e2), k _ S H st.refl rfl⟩
theorem ra_all {bs : List Bool} : RA X B (rAll X.K) [.lst (bs.map .bl)] (.bl (bs.all id)) := ra1 fun v S H Q st ⟨p, vs, e1, e2, e3⟩ k => by
  have e3 := reps_bls e3
  subst e3
  exact ⟨p, bs, by rw [e1], SqL.of (st.sub _ _ e2), k _ S H st.refl rfl⟩
theorem ra_repr {i : Int} (h : i.natAbs.log2 < 1920) : RA X B (fun xs H Q => ∃ i, xs = [.int i] ∧ i.natAbs.log2 < 1920 ∧ Q (.str (toString i)) H) [.int i] (.str (toString i)) := ra1 fun v S H Q st h1 k =>
  ⟨i, by rw [show v = .int i from h1], h, k _ S H st.refl rfl⟩
theorem rao_listT (hz : xs.length ≤ sizeLine) : RAO X B (fun xs H Q => ∃ p ys, xs = [.ref p] ∧ (SqL X.K H p ys ∨ SqT X.K H p ys) ∧ ∀ l, H l = none → Q (.ref l) (upd H l (.lst ys))) [.tup xs] (owL X.K xs) := rao1 fun v S H Q st ⟨p, vs, e1, e2, e3⟩ k =>
  ⟨p, vs, by rw [e1], .inr (Same.sqT st.sub e2), fun l hl => k l _ _ _ (st.newO hl) hl (sta_none st hl) upd_same ⟨vs, rfl, by rw [← reps_length e3]; exact hz, e3⟩⟩
theorem rao_listL (hz : xs.length ≤ sizeLine) : RAO X B (fun xs H Q => ∃ p ys, xs = [.ref p] ∧ (SqL X.K H p ys ∨ SqT X.K H p ys) ∧ ∀ l, H l = none → Q (.ref l) (upd H l (.lst ys))) [.lst xs] (owL X.K xs) := rao1 fun v S H Q st ⟨p, vs, e1, e2, e3⟩ k =>
  ⟨p, vs, by rw [e1], .inl (SqL.of (st.sub _ _ e2)), fun l hl => k l _ _ _ (st.newO hl) hl (sta_none st hl) upd_same ⟨vs, rfl, by rw [← reps_length e3]; exact hz, e3⟩⟩
/-- tuple(a list): a tuple whose object is known to have no dict -/
theorem call_tuple_ofD : CallR X (.type "tuple") (fun xs H Q => ∃ p ys, xs = [.ref p] ∧ SqL X.K H p ys ∧ ∀ l o, H l = none → o.dict = none → Q (.ref l) (upd H l (.frz o (.tup ys)))) := by
  intro pins s σ H xs us Q I r h
  obtain ⟨p, ys, rfl, hq, q⟩ := h
  obtain ⟨u, rfl, rx⟩ := vals1 r
  cases rx
  obtain ⟨its, r', pl, hz⟩ := I.list hq
  have hlen := r'.length
  refine call_tuple_list pl.isList (fun h' kp => ?_) (by simp only [List.size_toArray] <;> omega)
  have I1 : Inv X pins σ H { s with heap := h' } := I.kept (t' := s.toks) kp
  have eo : (h'.push ({ cls := .type "tuple", data := .seq its.toArray } : Obj)).get? h'.objs.size = some ({ cls := .type "tuple", data := .seq its.toArray } : Obj) := Heap.get?_push_size _ rfl
  have I2 : Inv X pins σ (upd H h'.objs.size (.frz { cls := .type "tuple", data := .seq its.toArray } (.tup ys))) { s with heap := h'.push { cls := .type "tuple", data := .seq its.toArray } } :=
    I1.laid (t' := s.toks) (fun b o e => Heap.get?_push_of_some _ e) (Nat.le_refl _) ⟨eo, show ObjOk X.prog X.w _ _ _ (.tup ys) from ⟨hz, its, r', IsTup.new _ _⟩⟩
  exact ⟨.ref h'.objs.size, _, I2, rfl, q _ _ (I1.hok.fresh (Nat.le_refl _)) rfl⟩
theorem ra_tupL : RA X B (fun xs H Q => ∃ p ys, xs = [.ref p] ∧ SqL X.K H p ys ∧ ∀ l o, H l = none → o.dict = none → Q (.ref l) (upd H l (.frz o (.tup ys)))) [.lst xs] (.tud xs) := ra1 fun v S H Q st ⟨p, vs, e1, e2, e3⟩ k =>
  ⟨p, vs, by rw [e1], SqL.of (st.sub _ _ e2), fun l o hl ho => by
    have t := st.newV hl (o := .frz o (.tup vs)) (fun ps z => by cases z)
    exact k _ _ _ t ⟨l, vs, o, rfl, upd_same, ho, reps_mono t.s _ _ e3⟩⟩
/-- a tuple's display, its object known -/
theorem pe_tupD {es : List Expr} {t : TA} {x1} (h : PA X es t) : PE X (.Tuple es x1 pos) (fun σ H Q => t σ H fun xs H1 => xs.length ≤ sizeLine ∧ ∀ p o, H1 p = none → o.dict = none → Q (.ref p) (upd H1 p (.frz o (.tup xs)))) := by
  refine ⟨fun pins s σ H Q I hq => ?_⟩
  refine wpAny_Tuple_spliced (thn (h.run pos pins s σ H _ I hq) fun us s1 ⟨xs, H1, I1, r, z, q⟩ => ⟨by rw [← r.length]; exact z, ?_⟩)
  have hf : H1 s1.heap.objs.size = none := I1.hok.fresh (Nat.le_refl _)
  have eo : (s1.heap.push ({ cls := .type "tuple", data := .seq us.toArray } : Obj)).get? s1.heap.objs.size = some ({ cls := .type "tuple", data := .seq us.toArray } : Obj) := Heap.get?_push_size _ rfl
  refine ⟨.ref s1.heap.objs.size, upd H1 s1.heap.objs.size (.frz { cls := .type "tuple", data := .seq us.toArray } (.tup xs)), I1.laid (t' := s1.toks) (fun b u e => Heap.get?_push_of_some _ e) (Nat.le_refl _) ?_, rfl, q _ _ hf rfl⟩
  exact ⟨eo, z, us, r, ⟨_, eo, rfl, _, rfl⟩⟩
theorem ge_tupD {es : List Expr} {x1} (h : GA X B Γ es xs) (hl : xs.length ≤ sizeLine) : GE X B Γ (.Tuple es x1 pos) (.tud xs) :=
  PE_imp (pe_tupD h) fun σ H Q ⟨S, en, k⟩ => ⟨S, en, fun vs S1 H1 t1 h1 => ⟨by rw [← reps_length h1]; exact hl, fun p o hp ho => by
    have t2 := t1.st.newV hp (o := .frz o (.tup vs)) (fun ps z => by cases z)
    exact k _ _ _ (t1.trans t2) ⟨p, vs, o, rfl, upd_same, ho, reps_mono t2.s _ _ h1⟩⟩⟩
/-- tuple * int, the result's object known -/
def rRepD (K : PySem.W.Frag) : R2 := fun x y H Q => ∃ l k xs o, x = .ref l ∧ y = .int k ∧ H l = some (.frz o (.tup xs)) ∧ o.dict = none ∧ xs ≠ [] ∧ 2 ≤ k ∧ k ≤ 1000 ∧ xs.length ≤ 1000 ∧ ∀ p o, H p = none → o.dict = none → Q (.ref p) (upd H p (.frz o (.tup (List.replicate k.toNat xs).flatten)))
theorem op_repD : OpR X (binaryOp .Mult) (rRepD X.K) := by
  intro pins s σ H x y v u Q I rx ry h
  obtain ⟨l, k, xs, o, rfl, rfl, hT0, hod, hne, h1, h2, hz, q⟩ := h
  have hT : SqT X.K H l xs := .inl (.inr ⟨o, hT0⟩)
  cases rx
  obtain ⟨t, rfl⟩ := ry
  obtain ⟨its, r, ⟨⟨cls, dd, data, sl⟩, ho, hc, n, hd⟩, hs⟩ := I.tuple hT
  simp only at hc hd
  subst hc hd
  have hle : its.length = xs.length := r.length.symm
  have hn : its ≠ [] := fun e => hne (by
    rw [e] at hle
    exact List.eq_nil_of_length_eq_zero hle.symm)
  have hi : its.toArray.isEmpty = false := by
    cases its with
    | nil => exact absurd rfl hn
    | cons a b => rfl
  have hsz0 : its.toArray.size = xs.length := by rw [List.size_toArray, hle]
  have hm : ((its.toArray.size : Nat) : Int) * k ≤ 1000000 := by
    rw [hsz0]
    have a1 : ((xs.length : Nat) : Int) * k ≤ 1000 * k := Int.mul_le_mul_of_nonneg_right (by omega) (by omega)
    omega
  have flen : (List.replicate k.toNat its).flatten.length ≤ sizeLine := by
    rw [PyProof.Rows.lm_len_rep_flat, hle, sizeLine_eq]
    have a1 : k.toNat * xs.length ≤ 1000 * 1000 := Nat.mul_le_mul (by omega) hz
    omega
  have c0 : (decide (k < -(2 ^ 63)) || decide (k ≥ 2 ^ 63)) = false := by
    rw [decide_eq_false (by omega), decide_eq_false (by omega)] <;> rfl
  have c1 : (its.toArray.isEmpty || k == 1) = false := by
    rw [hi, Bool.false_or]
    exact beq_eq_false_iff_ne.mpr (by omega)
  have c2 : (decide (k ≤ 0) || its.toArray.isEmpty) = false := by
    rw [hi, Bool.or_false]
    exact decide_eq_false (by omega)
  have c4 : Builtin.Tuple.tupleTooMany (((its.toArray.size : Nat) : Int) * k) = false := by
    unfold Builtin.Tuple.tupleTooMany
    rw [sizeLine_eq]
    exact decide_eq_false (by omega)
  refine wpAny_binaryOp_repeat_ref (T := "tuple") (U := "int") (by decide) ⟨_, ho, rfl⟩ (fun s' => typeIs_int s' k t) noFill_tuple_mul F.fills_int_mul F.slot_int_rmul repeat_tuple F.slot_int_index.lookup
    (call_meets F.slot_int_rmul (typeIs_int s k t) F.entry_int_rmul (F.args_int_rmul_2 _ _) (int_rmul_tuple k t l its.toArray n dd sl)
      ⟨ho, rfl, ⟨_, ho, rfl⟩, call_meets F.slot_tuple_mul ⟨_, ho, rfl⟩ F.entry_tuple_mul (F.args_tuple_mul_2 _ _) (tuple_mulW l its.toArray n dd sl k t c0 c1 c2 (by omega) c4 (by rw [size_rep, List.size_toArray]; exact flen)) ⟨ho, ?_⟩⟩)
  rw [size_rep]
  have eo : (s.heap.push ({ cls := .type "tuple", data := .seq (List.replicate k.toNat its).flatten.toArray } : Obj)).get? s.heap.objs.size = some ({ cls := .type "tuple", data := .seq (List.replicate k.toNat its).flatten.toArray } : Obj) := Heap.get?_push_size _ rfl
  refine ⟨.ref s.heap.objs.size, _, I.laid (t' := s.toks) (o := .frz ({ cls := .type "tuple", data := .seq (List.replicate k.toNat its).flatten.toArray } : Obj) (.tup (List.replicate k.toNat xs).flatten)) (fun b ob q => Heap.get?_push_of_some _ q) (Nat.le_refl _) ?_, rfl, q _ _ (I.hok.fresh (Nat.le_refl _)) rfl⟩
  exact ⟨eo, by rw [PyProof.Rows.lm_len_rep_flat, sizeLine_eq]; have a1 : k.toNat * xs.length ≤ 1000 * 1000 := Nat.mul_le_mul (by omega) hz; omega, _, r.rep k.toNat, IsTup.new _ _⟩
end
end G
set_option maxHeartbeats 1000000
/-! G5: tuple * 1, tuple.index, tuple.count, in; lists of one's own. -/
namespace G
open PySem PySem.Spec PyProof.Rows L2 LamX NdefX

theorem tuple_mul1 (l : Addr) (items : Array Value) (n : Nat) (dd : Option Addr) (sl : Array (Option Value)) (u : Tok) :
    Meets (Builtin.«tuple.__mul__» ⟨[.ref l, .int 1 u], []⟩) (fun _ R s => s.heap.get? l = some { cls := .type "tuple", dict := dd, data := .seq items n, slots := sl } ∧
      R (.ok (.ret (Value.ref l))) s) :=
  .of_wp fun prog w A R s h => by
    obtain ⟨hp, g, d, tk, os⟩ := s
    obtain ⟨hl, h⟩ := h
    have f1 := AutoSeq1.idx_int
    wp_walk using wpAny_loadPart' hl
    exact ⟨_, rfl, h⟩
section
variable {X : Cx}
def rRep1 (K : PySem.W.Frag) : R2 := fun x y H Q => ∃ l vs, x = .ref l ∧ y = .int 1 ∧ SqT K H l vs ∧ Q (.ref l) H
theorem op_rep1 : OpR X (binaryOp .Mult) (rRep1 X.K) := by
  intro pins s σ H x y v u Q I rx ry h
  obtain ⟨l, xs, rfl, rfl, hT, q⟩ := h
  cases rx
  obtain ⟨t, rfl⟩ := ry
  obtain ⟨its, r, ⟨⟨cls, dd, data, sl⟩, ho, hc, n, hd⟩, hs⟩ := I.tuple hT
  simp only at hc hd
  subst hc hd
  exact wpAny_binaryOp_repeat_ref (T := "tuple") (U := "int") (by decide) ⟨_, ho, rfl⟩ (fun s' => typeIs_int s' 1 t) noFill_tuple_mul F.fills_int_mul F.slot_int_rmul repeat_tuple F.slot_int_index.lookup
    (call_meets F.slot_int_rmul (typeIs_int s 1 t) F.entry_int_rmul (F.args_int_rmul_2 _ _) (int_rmul_tuple 1 t l its.toArray n dd sl)
      ⟨ho, rfl, ⟨_, ho, rfl⟩, call_meets F.slot_tuple_mul ⟨_, ho, rfl⟩ F.entry_tuple_mul (F.args_tuple_mul_2 _ _) (tuple_mul1 l its.toArray n dd sl t) ⟨ho, ⟨.ref l, H, I, rfl, q⟩⟩⟩)
end
section
variable {X : Cx} {B : Bs} {Γ Γ' : List Sl} {x y z : Vl} {a b c e : Expr} {pos : Pos} {xs ys : List Vl}
theorem ge_repD {n : Int} (ha : GE X B Γ a (.tud xs)) (hb : GE X B Γ b (.int n)) (h1 : 1 ≤ n) (h2 : n ≤ 1000) (hx : xs ≠ []) (hz : xs.length ≤ 1000) : GE X B Γ (.BinOp a .Mult b pos) (.tud (List.replicate n.toNat xs).flatten) := by
  by_cases h : n = 1
  · subst h
    have e : (List.replicate (1 : Int).toNat xs).flatten = xs := by simp
    rw [e]
    refine ge_op op_rep1 ha hb fun v u S H Q st ⟨p, vs, o, e1, e2, e4, e3⟩ hu k => ?_
    exact ⟨p, vs, e1, hu, .inl (.inr ⟨o, st.sub _ _ e2⟩), k _ S H st.refl ⟨p, vs, o, rfl, e2, e4, e3⟩⟩
  · refine ge_op op_repD ha hb fun v u S H Q st ⟨p, vs, o, e1, e2, e4, e3⟩ hu k => ?_
    have hl := reps_length e3
    refine ⟨p, n, vs, o, e1, hu, st.sub _ _ e2, e4, fun z => hx (List.eq_nil_of_length_eq_zero (by rw [hl, z]; rfl)), by omega, h2, by omega, fun q o' hq ho => ?_⟩
    have t := st.newV hq (o := .frz o' (.tup (List.replicate n.toNat vs).flatten)) (fun ps z => by cases z)
    exact k _ _ _ t ⟨q, _, o', rfl, upd_same, ho, reps_mono t.s _ _ (flat_reps e3 _)⟩
theorem ge_repT {n : Int} (ha : GE X B Γ a (.tup xs)) (hb : GE X B Γ b (.int n)) (h1 : 1 ≤ n) (h2 : n ≤ 1000) (hx : xs ≠ []) (hz : xs.length ≤ 1000) : GE X B Γ (.BinOp a .Mult b pos) (.tup (List.replicate n.toNat xs).flatten) := by
  by_cases h : n = 1
  · subst h
    have e : (List.replicate (1 : Int).toNat xs).flatten = xs := by simp
    rw [e]
    refine ge_op op_rep1 ha hb fun v u S H Q st ⟨p, vs, e1, e2, e3⟩ hu k => ?_
    exact ⟨p, vs, e1, hu, Same.sqT st.sub e2, k _ S H st.refl ⟨p, vs, rfl, e2, e3⟩⟩
  · refine ge_op op_repT ha hb fun v u S H Q st ⟨p, vs, e1, e2, e3⟩ hu k => ?_
    have hl := reps_length e3
    refine ⟨p, n, vs, e1, hu, Same.sqT st.sub e2, fun z => hx (List.eq_nil_of_length_eq_zero (by rw [hl, z]; rfl)), by omega, h2, by omega, fun q hq => ?_⟩
    have t := st.newV hq (o := .tup (List.replicate n.toNat vs).flatten) (fun ps z => by cases z)
    exact k _ _ _ t ⟨q, _, rfl, SqT.of upd_same, reps_mono t.s _ _ (flat_reps e3 _)⟩

/-! ### in -/
theorem inV_ints (k : Int) : ∀ ns : List Int, inV (.int k) (ns.map V.int) = decide (k ∈ ns)
  | [] => rfl
  | n :: ns => by
    have ih := inV_ints k ns
    unfold inV at ih ⊢
    rw [List.map_cons, List.any_cons, ih]
    show ((n == k) || decide (k ∈ ns)) = decide (k ∈ n :: ns)
    by_cases h : n = k
    · subst h; simp
    · have h' : ¬ k = n := fun z => h z.symm
      simp [h, h']
theorem flat_ints : ∀ ns : List Int, (ns.map V.int).all flatV = true
  | [] => rfl
  | n :: ns => by rw [List.map_cons, List.all_cons, flat_ints ns]; rfl
theorem ro_inT {ns : List Int} {k : Int} : RO X B (rIn X.K false) (.int k) (.tup (ns.map .int)) (.bl (decide (k ∈ ns))) := fun v u S H Q st h1 ⟨p, vs, e1, e2, e3⟩ q => by
  have h1 : v = .int k := h1
  subst h1
  have e3 := reps_ints e3
  subst e3
  exact ⟨p, _, e1, .inr (Same.sqT st.sub e2), rfl, flat_ints ns, q _ S H st.refl (by show V.bl (inV (.int k) (ns.map V.int)) = _; rw [inV_ints])⟩
theorem ro_niT {ns : List Int} {k : Int} : RO X B (rIn X.K true) (.int k) (.tup (ns.map .int)) (.bl (!decide (k ∈ ns))) := fun v u S H Q st h1 ⟨p, vs, e1, e2, e3⟩ q => by
  have h1 : v = .int k := h1
  subst h1
  have e3 := reps_ints e3
  subst e3
  exact ⟨p, _, e1, .inr (Same.sqT st.sub e2), rfl, flat_ints ns, q _ S H st.refl (by show V.bl (!inV (.int k) (ns.map V.int)) = _; rw [inV_ints])⟩
theorem gt_inT {ns : List Int} {k : Int} (ha : GE X B Γ a (.int k)) (hb : GE X B Γ b (.tup (ns.map .int))) (hm : behindInMarks .In b = false := by rfl) : GT X B Γ (.Compare a [.In] [b] pos) (decide (k ∈ ns)) := gt_cmp op_in_seq ha hb ro_inT hm
theorem gt_niT {ns : List Int} {k : Int} (ha : GE X B Γ a (.int k)) (hb : GE X B Γ b (.tup (ns.map .int))) (hm : behindInMarks .NotIn b = false := by rfl) : GT X B Γ (.Compare a [.NotIn] [b] pos) (!decide (k ∈ ns)) := gt_cmp op_notIn_seq ha hb ro_niT hm

/-! ### methods of tuples -/
def tMX (ty : V → Hp → Prop) (r : V → List V → Hp → VK → Prop) (to : TE) (t : TA) : TE := fun σ H Q => to σ H fun x H1 => ty x H1 ∧ t σ H1 fun xs H2 => r x xs H2 Q
theorem pe_bmX {o e : Expr} {es : List Expr} {to : TE} {t : TA} {name : Str} {apos cpos : Pos} {T id : String} {r : V → List V → Hp → VK → Prop} {ty : V → Hp → Prop} (pa : PlainAttrs T) (slot : Slot T name id) (hty : typeOf (.builtin id) = pure (.type "method_descriptor")) (hm : MtR X id r) (ho : PE X o to) (ha : PA X (e :: es) t)
    (tyI : ∀ (pins : List (Addr × Obj)) (σ : L2.St) (H : Hp) (s : Shared) (x : V) (v : Value), Inv X pins σ H s → RelV x v → ty x H → s.TypeIs v T ∧ ∀ a, v = .ref a → ∃ ob, s.heap.get? a = some ob ∧ ob.dict = none)
    (hbase : attributeBase o name X.env (eval o X.env) = eval o X.env := by rfl)
    (hfew : ((backTo cpos (starEach (e :: es) X.env)).all (fun x => !x.1) && (backToKw cpos (keywordEach [] X.env)).all (fun x => x.1.isSome)
      && decide ((e :: es).length + ([] : List Keyword).length + (if ([] : List Keyword).isEmpty then 0 else 1) < 30)) = true := by rfl)
    (hline : (apos.endLine == cpos.line) = true := by rfl) (hs : starEach (e :: es) X.env = (false, eval e X.env) :: starEach es X.env := by rfl) (hplain : (backTo cpos (starEach es X.env)).any (·.1) = false := by rfl) :
    PE X (.Call (.Attribute o name apos) (e :: es) [] cpos) (tMX ty r to t) := by
  refine ⟨fun pins s σ H Q I h => ?_⟩
  refine wpAny_Call_method_late hbase hfew hline rfl (thn (ho.run pins s σ H _ I h) fun v s1 ⟨x, H1, I1, r1, ty1, q1⟩ => ?_)
  obtain ⟨h1, h2⟩ := tyI pins σ H1 s1 x v I1 r1 ty1
  refine ⟨T, id, pa, slot, hty, h1, h2, ?_⟩
  have hA := ha.run cpos pins s1 σ H1 _ I1 q1
  rw [hs] at hA ⊢
  refine Calls.callWith_builtin (by show (false || (backTo cpos (starEach es X.env)).any (·.1)) = false; rw [hplain] <;> rfl) (Calls.evalArgs_plain ?_)
  exact thn hA fun us s2 ⟨vs, H2, I2, r2, q2⟩ => hm pins s2 σ H2 x vs v us Q I2 r1 r2 q2
def tyTud : V → Hp → Prop := fun x H => ∃ p vs o, x = .ref p ∧ H p = some (.frz o (.tup vs)) ∧ o.dict = none
theorem tyTud_is (pins : List (Addr × Obj)) (σ : L2.St) (H : Hp) (s : Shared) (x : V) (v : Value) (I : Inv X pins σ H s) (r : RelV x v) (t : tyTud x H) : s.TypeIs v "tuple" ∧ ∀ a, v = .ref a → ∃ ob, s.heap.get? a = some ob ∧ ob.dict = none := by
  obtain ⟨p, vs, o, rfl, h1, h2⟩ := t
  cases r
  obtain ⟨e1, _, its, _, o', e2, e3, _⟩ := I.hok p _ h1
  rw [e1] at e2; cases e2
  exact ⟨⟨o, e1, e3⟩, fun a z => by cases z; exact ⟨o, e1, h2⟩⟩
def rTIndex (K : PySem.W.Frag) : V → List V → Hp → VK → Prop := fun x vs H Q => ∃ (p : Addr) (ns : List Int) (k : Int), x = .ref p ∧ vs = [.int k] ∧ SqT K H p (ns.map V.int) ∧ k ∈ ns ∧ Q (.int (ns.idxOf k : Nat)) H
theorem mt_tindex : MtR X "tuple.index" (rTIndex X.K) := by
  intro pins s σ H x xs v us Q I rx rxs h
  obtain ⟨p, ns, k, rfl, rfl, hs, hk, q⟩ := h
  cases rx
  obtain ⟨u, rfl, ru⟩ := rxs.one
  obtain ⟨t, rfl⟩ := ru
  obtain ⟨its, rv, pl, hz⟩ := I.tuple hs
  exact PySem.SeqAt.tuple_index_ints (show s.heap.IsTuple p its.toArray from pl) rv.ints hk ⟨.int (ns.idxOf k : Nat), H, I.tok _, ⟨_, rfl⟩, q⟩
def rTCount (K : PySem.W.Frag) : V → List V → Hp → VK → Prop := fun x vs H Q => ∃ (p : Addr) (ys : List V) (y : V), x = .ref p ∧ vs = [y] ∧ SqT K H p ys ∧ flatV y = true ∧ ys.all flatV = true ∧ Q (.int (ys.countP (fun z => eqV z y) : Nat)) H
theorem countP_eqU {x : V} : ∀ {xs : List V} {us : List Value}, Vals xs us → xs.all flatV = true → us.countP (eqU x) = xs.countP fun y => eqV y x
  | _, _, .nil, _ => rfl
  | y :: xs, u :: us, .cons r t, f => by
    rw [List.all_cons, Bool.and_eq_true] at f
    rw [List.countP_cons, List.countP_cons, eqU_of r f.1, countP_eqU t f.2]
theorem mt_tcount : MtR X "tuple.count" (rTCount X.K) := by
  intro pins s σ H x xs v us Q I rx rxs h
  obtain ⟨p, ys, y, rfl, rfl, hs, fy, fs, q⟩ := h
  cases rx
  obtain ⟨u, rfl, ru⟩ := rxs.one
  obtain ⟨its, rv, ⟨⟨cls, dd, data, sl⟩, ho, hc, n, hd⟩, hz⟩ := I.tuple hs
  simp only at hc hd
  subst hc hd
  refine call_meets PySem.F.slot_tuple_count ⟨_, ho, rfl⟩ PySem.F.entry_tuple_count (PySem.F.args_tuple_count_2 _ _)
    (SeqAt.tuple_countAt p its.toArray n dd sl u (eqU y)) ⟨ho, fun w hw => mem_eqAt ru fy rv fs w (by simpa using hw), ?_⟩
  refine ⟨.int (ys.countP (fun z => eqV z y) : Nat), H, I.tok _, ⟨s.toks, ?_⟩, q⟩
  rw [← countP_eqU rv fs]
theorem ge_tindex {ns : List Int} {k : Int} {apos : Pos} (ha : GE X B Γ a (.tud (ns.map .int))) (hb : GE X B Γ b (.int k)) (hk : k ∈ ns) (hbase : attributeBase a "index" X.env (eval a X.env) = eval a X.env := by rfl)
    (hfew : ((backTo pos (starEach [b] X.env)).all (fun x => !x.1) && (backToKw pos (keywordEach [] X.env)).all (fun x => x.1.isSome)
      && decide (([b] : List Expr).length + ([] : List Keyword).length + (if ([] : List Keyword).isEmpty then 0 else 1) < 30)) = true := by rfl)
    (hline : (apos.endLine == pos.line) = true := by rfl) (hs : starEach [b] X.env = (false, eval b X.env) :: starEach [] X.env := by rfl) :
    GE X B Γ (.Call (.Attribute a "index" apos) [b] [] pos) (.int (ns.idxOf k : Nat)) :=
  PE_imp (pe_bmX PySem.F.plainAttrs_tuple PySem.F.slot_tuple_index PySem.F.type_tuple_index mt_tindex ha (ga_cons hb ga_nil hs) tyTud_is hbase hfew hline hs rfl) fun σ H Q ⟨S, en, q⟩ => ⟨S, en, fun v S1 H1 t1 ⟨p, vs, o, e1, e2, e4, e3⟩ => by
    have e3' := reps_ints e3
    subst e3'
    refine ⟨⟨p, _, o, e1, t1.st.sub _ _ e2, e4⟩, S1, en.step t1, fun us S2 H2 t2 ⟨w, r, q1, q2, q3⟩ => ?_⟩
    have q3 : r = [] := q3
    have q2 : w = .int k := q2
    subst q3 q2
    exact ⟨p, ns, k, e1, q1, .inl (.inr ⟨o, t2.st.sub _ _ (t2.s _ _ e2)⟩), hk, q _ S2 H2 (t1.trans t2) rfl⟩⟩
theorem ge_tcount {k : Vl} {v0 : V} {vs0 : List V} {n : Nat} {apos : Pos} (ha : GE X B Γ a (.tud xs)) (hb : GE X B Γ b k) (hk : ∀ S v, rep X.K S k v → v = v0) (hx : ∀ S vs, reps X.K S xs vs → vs = vs0) (f1 : flatV v0 = true) (f2 : vs0.all flatV = true) (hn : vs0.countP (fun z => eqV z v0) = n)
    (hbase : attributeBase a "count" X.env (eval a X.env) = eval a X.env := by rfl)
    (hfew : ((backTo pos (starEach [b] X.env)).all (fun x => !x.1) && (backToKw pos (keywordEach [] X.env)).all (fun x => x.1.isSome)
      && decide (([b] : List Expr).length + ([] : List Keyword).length + (if ([] : List Keyword).isEmpty then 0 else 1) < 30)) = true := by rfl)
    (hline : (apos.endLine == pos.line) = true := by rfl) (hs : starEach [b] X.env = (false, eval b X.env) :: starEach [] X.env := by rfl) :
    GE X B Γ (.Call (.Attribute a "count" apos) [b] [] pos) (.int n) :=
  PE_imp (pe_bmX PySem.F.plainAttrs_tuple PySem.F.slot_tuple_count PySem.F.type_tuple_count mt_tcount ha (ga_cons hb ga_nil hs) tyTud_is hbase hfew hline hs rfl) fun σ H Q ⟨S, en, q⟩ => ⟨S, en, fun v S1 H1 t1 ⟨p, vs, o, e1, e2, e4, e3⟩ => by
    have e3' := hx _ _ e3
    subst e3'
    refine ⟨⟨p, _, o, e1, t1.st.sub _ _ e2, e4⟩, S1, en.step t1, fun us S2 H2 t2 ⟨w, r, q1, q2, q3⟩ => ?_⟩
    have q3 : r = [] := q3
    have q2' := hk _ _ q2
    subst q3 q2' hn
    exact ⟨p, vs, w, e1, q1, .inl (.inr ⟨o, t2.st.sub _ _ (t2.s _ _ e2)⟩), f1, f2, q _ S2 H2 (t1.trans t2) rfl⟩⟩

/-! ### lists of one's own -/
theorem gs_append {i : Nat} {f : Option Addr} {n : Str} {np apos p2 : Pos} (hi : Γ[i]? = some (.ow f (owL X.K xs))) (hN : X.N[i]? = some n) (hv : Vis X.env.scope n) (h : GE X B Γ e x) (hz : xs.length < sizeLine) (hw : ∀ l, f = some l → l ∈ B.L0)
    (hbase : attributeBase (.Name n np) "append" X.env (eval (.Name n np) X.env) = eval (.Name n np) X.env := by rfl)
    (hfew : ((backTo p2 (starEach [e] X.env)).all (fun x => !x.1) && (backToKw p2 (keywordEach [] X.env)).all (fun x => x.1.isSome)
      && decide (([e] : List Expr).length + ([] : List Keyword).length + (if ([] : List Keyword).isEmpty then 0 else 1) < 30)) = true := by rfl)
    (hline : (apos.endLine == p2.line) = true := by rfl) (hs : starEach [e] X.env = (false, eval e X.env) :: starEach [] X.env := by rfl) (hsw : swapsWith (.Call (.Attribute (.Name n np) "append" apos) [e] [] p2) none pos.line X.env = pure false := by rfl)
    (hd : (n == ("__debug__" : Str)) = false := by decide) (hcd : (n == ("__classdict__" : Str)) = false := by decide) :
    GS X B Γ (.Expr (.Call (.Attribute (.Name n np) "append" apos) [e] [] p2) pos) (Γ.set i (.ow f (owL X.K (xs ++ [x])))) :=
  PS_imp (ps_expr (pe_bm PySem.F.plainAttrs_list PySem.F.slot_list_append PySem.F.type_list_append mt_append (pe_var hN hv hd hcd) (ga_cons h ga_nil hs) hbase hfew hline hs rfl) hsw) fun D σ H ⟨S, en, k⟩ => by
    obtain ⟨l, ho, h1, h2, h3, h4, ⟨vs, h5, hvl, h6⟩, h7⟩ := en.ow i f _ hi
    subst h5
    refine ⟨.ref l, h1, .inl ⟨rfl, vs, SqL.of h4⟩, S, en, fun us S1 H1 t1 ⟨w, r, q1, q2, q3⟩ => ?_⟩
    have q3 : r = [] := q3
    subst q3
    have en1 := en.step t1
    have hl1 : H1 l = some (.lst vs) := t1.h l _ h4 fun ps z => by cases z
    refine ⟨l, vs, w, rfl, q1, hl1, by rw [← reps_length h6]; exact hz, ?_⟩
    exact k σ S1 _ (en1.write hi h1 ⟨_, rfl, by rw [List.length_append]; have := reps_length h6; simp; omega, reps_snoc (reps_mono t1.s _ _ h6) q2⟩ hw)
theorem gs_extend {i : Nat} {f : Option Addr} {n : Str} {np apos p2 : Pos} (hi : Γ[i]? = some (.ow f (owL X.K xs))) (hN : X.N[i]? = some n) (hv : Vis X.env.scope n) (h : GE X B Γ e (.lst ys)) (hz : xs.length + ys.length ≤ sizeLine) (hw : ∀ l, f = some l → l ∈ B.L0)
    (hbase : attributeBase (.Name n np) "extend" X.env (eval (.Name n np) X.env) = eval (.Name n np) X.env := by rfl)
    (hfew : ((backTo p2 (starEach [e] X.env)).all (fun x => !x.1) && (backToKw p2 (keywordEach [] X.env)).all (fun x => x.1.isSome)
      && decide (([e] : List Expr).length + ([] : List Keyword).length + (if ([] : List Keyword).isEmpty then 0 else 1) < 30)) = true := by rfl)
    (hline : (apos.endLine == p2.line) = true := by rfl) (hs : starEach [e] X.env = (false, eval e X.env) :: starEach [] X.env := by rfl) (hsw : swapsWith (.Call (.Attribute (.Name n np) "extend" apos) [e] [] p2) none pos.line X.env = pure false := by rfl)
    (hd : (n == ("__debug__" : Str)) = false := by decide) (hcd : (n == ("__classdict__" : Str)) = false := by decide) :
    GS X B Γ (.Expr (.Call (.Attribute (.Name n np) "extend" apos) [e] [] p2) pos) (Γ.set i (.ow f (owL X.K (xs ++ ys)))) :=
  PS_imp (ps_expr (pe_bm PySem.F.plainAttrs_list PySem.F.slot_list_extend PySem.F.type_list_extend mt_extend (pe_var hN hv hd hcd) (ga_cons h ga_nil hs) hbase hfew hline hs rfl) hsw) fun D σ H ⟨S, en, k⟩ => by
    obtain ⟨l, ho, h1, h2, h3, h4, ⟨vs, h5, hvl, h6⟩, h7⟩ := en.ow i f _ hi
    subst h5
    refine ⟨.ref l, h1, .inl ⟨rfl, vs, SqL.of h4⟩, S, en, fun us S1 H1 t1 ⟨w, r, q1, ⟨p, ws, q4, q5, q6⟩, q3⟩ => ?_⟩
    have q3 : r = [] := q3
    subst q3 q4
    have en1 := en.step t1
    have hl1 : H1 l = some (.lst vs) := t1.h l _ h4 fun ps z => by cases z
    have l1 := reps_length h6
    have l2 := reps_length q6
    refine ⟨l, p, vs, ws, rfl, q1, hl1, t1.st.sub _ _ q5, by omega, ?_⟩
    exact k σ S1 _ (en1.write hi h1 ⟨_, rfl, by rw [List.length_append]; omega, reps_append (reps_mono t1.s _ _ h6) q6⟩ hw)
/-- reads of a list of one's own -/
theorem ow_read {K : PySem.W.Frag} {i : Nat} {f : Option Addr} {σ : L2.St} {S H : Hp} (en : Env K B Γ σ S H) (hi : Γ[i]? = some (.ow f (owL K xs))) : ∃ l vs, σ[i]? = some (some (.ref l)) ∧ H l = some (.lst vs) ∧ reps K S xs vs := by
  obtain ⟨l, ho, h1, h2, h3, h4, ⟨vs, h5, _, h6⟩, h7⟩ := en.ow i f _ hi
  subst h5
  exact ⟨l, vs, h1, h4, h6⟩
theorem ge_lenO {i : Nat} {f : Option Addr} {n : Str} {p np : Pos} (hi : Γ[i]? = some (.ow f (owL X.K xs))) (hN : X.N[i]? = some n) (hv : Vis X.env.scope n) (hg : Gl X "len") (hm : X.mg "len" = none)
    (hs : starEach [.Name n np] X.env = (false, eval (.Name n np) X.env) :: starEach [] X.env := by rfl) (hpl : (backTo pos (starEach [] X.env)).any (·.1) = false := by rfl) (hd : (n == ("__debug__" : Str)) = false := by decide) (hcd : (n == ("__classdict__" : Str)) = false := by decide) :
    GE X B Γ (.Call (.Name "len" p) [.Name n np] [] pos) (.int xs.length) :=
  PE_imp (pe_callB call_len_seq hg hm PySem.boot_len (pa_cons (pe_var hN hv hd hcd) pa_nil hs) (by decide) (by decide) hs hpl) fun σ H Q ⟨S, en, k⟩ => by
    obtain ⟨l, vs, h1, h2, h3⟩ := ow_read en hi
    exact ⟨.ref l, h1, l, vs, rfl, .inl (SqL.of h2), k _ S H en.st.refl (by rw [reps_length h3]; rfl)⟩
theorem ge_ixO {i : Nat} {f : Option Addr} {n : Str} {np : Pos} {j : Int} (hi : Γ[i]? = some (.ow f (owL X.K xs))) (hN : X.N[i]? = some n) (hv : Vis X.env.scope n) (hb : GE X B Γ b (.int j)) (hj : atI xs j = some y) (hs : PlainIx b := by exact fun _ _ => rfl) (hd : (n == ("__debug__" : Str)) = false := by decide) (hcd : (n == ("__classdict__" : Str)) = false := by decide) :
    GE X B Γ (.Subscript (.Name n np) b pos) y :=
  PE_imp (pe_ix ix_list (pe_var hN hv hd hcd) hb hs) fun σ H Q ⟨S, en, k⟩ => by
    obtain ⟨l, vs, h1, h2, h3⟩ := ow_read en hi
    refine ⟨.ref l, h1, S, en, fun u S1 H1 t1 r1 => ?_⟩
    obtain ⟨w, q1, q2⟩ := atI_reps h3 hj
    exact ⟨l, vs, j, w, rfl, r1, SqL.of (t1.h l _ h2 fun ps z => by cases z), q1, k w S1 H1 t1 (rep_mono t1.s _ _ q2)⟩
theorem ge_tupO {i : Nat} {f : Option Addr} {n : Str} {p np : Pos} (hi : Γ[i]? = some (.ow f (owL X.K xs))) (hN : X.N[i]? = some n) (hv : Vis X.env.scope n) (hg : Gl X "tuple") (hm : X.mg "tuple" = none) (hb : bootBuiltins "tuple" = some (.type "tuple"))
    (hs : starEach [.Name n np] X.env = (false, eval (.Name n np) X.env) :: starEach [] X.env := by rfl) (hpl : (backTo pos (starEach [] X.env)).any (·.1) = false := by rfl) (hd : (n == ("__debug__" : Str)) = false := by decide) (hcd : (n == ("__classdict__" : Str)) = false := by decide) :
    GE X B Γ (.Call (.Name "tuple" p) [.Name n np] [] pos) (.tud xs) :=
  PE_imp (pe_callTy call_tuple_ofD hg hm hb (pa_cons (pe_var hN hv hd hcd) pa_nil hs) (by decide) (by decide) hs hpl) fun σ H Q ⟨S, en, k⟩ => by
    obtain ⟨l, vs, h1, h2, h3⟩ := ow_read en hi
    refine ⟨.ref l, h1, l, vs, rfl, SqL.of h2, fun q o hq ho => ?_⟩
    have t := en.st.newV hq (o := .frz o (.tup vs)) (fun ps z => by cases z)
    exact k _ _ _ t ⟨q, vs, o, rfl, upd_same, ho, reps_mono t.s _ _ h3⟩
/-- what is one's own becomes a value -/
theorem grs_freeze {i : Nat} {o : Own} {st : List Stmt} (hi : Γ[i]? = some (.ow none o)) (hx : ∀ (l : Addr) (ho : HO) (S S' : Hp), Same S S' → S' l = some ho → o.r l ho S → rep X.K S' x (.ref l)) (h : GRs X B (Γ.set i (.va x)) st Γ' y) : GRs X B Γ st Γ' y :=
  PSs_imp h fun D σ H ⟨S, en, k⟩ => by
    obtain ⟨S', _, en'⟩ := en.freeze hi (fun l ho S' sm q r => hx l ho S S' sm q r)
    exact ⟨S', en', k⟩
theorem gss_freeze {i : Nat} {o : Own} {st : List Stmt} (hi : Γ[i]? = some (.ow none o)) (hx : ∀ (l : Addr) (ho : HO) (S S' : Hp), Same S S' → S' l = some ho → o.r l ho S → rep X.K S' x (.ref l)) (h : GSs X B (Γ.set i (.va x)) st Γ') : GSs X B Γ st Γ' :=
  PSs_imp h fun D σ H ⟨S, en, k⟩ => by
    obtain ⟨S', _, en'⟩ := en.freeze hi (fun l ho S' sm q r => hx l ho S S' sm q r)
    exact ⟨S', en', k⟩
theorem owL_lst {K : PySem.W.Frag} (l : Addr) (ho : HO) (S S' : Hp) (sm : Same S S') (h : S' l = some ho) (r : (owL K xs).r l ho S) : rep K S' (.lst xs) (.ref l) := by
  obtain ⟨vs, e, _, r⟩ := r
  subst e
  exact ⟨l, vs, rfl, h, reps_mono sm _ _ r⟩
/-- truth of a list -/
theorem gt_truL (ha : GE X B Γ a (.lst xs)) (he : ∀ whole, isTrue a X.env whole = (do let v ← whole; standAt a.pos; holding [v] (truthy v)) := by intro _; rfl) : GT X B Γ a (!xs.isEmpty) :=
  PT_imp (pt_truth ha he) fun σ H Q ⟨S, en, k⟩ => ⟨S, en, fun v S1 H1 t1 ⟨p, vs, e1, e2, e3⟩ => ⟨!xs.isEmpty, by
    subst e1
    refine .inl ⟨vs, SqL.of (t1.st.sub _ _ e2), ?_⟩
    have hl := reps_length e3
    cases xs with
    | nil => cases vs with
      | nil => rfl
      | cons _ _ => simp at hl
    | cons _ _ => cases vs with
      | nil => simp at hl
      | cons _ _ => rfl, k S1 H1 t1⟩⟩
end
end G
set_option maxHeartbeats 1000000
/-! G6: the module's facts; short words for the built-ins. -/
namespace G
open PySem PySem.Spec PyProof.Rows L2 LamX NdefX

/-- the built-in names that the module leaves alone, its constants -/
structure Gf (mg : Str → Option Value) : Prop where
  isinstance : mg "isinstance" = none
  int : mg "int" = none
  bool : mg "bool" = none
  len : mg "len" = none
  range : mg "range" = none
  tuple : mg "tuple" = none
  list : mg "list" = none
  dict : mg "dict" = none
  sorted : mg "sorted" = none
  max : mg "max" = none
  min : mg "min" = none
  sum : mg "sum" = none
  all : mg "all" = none
  repr : mg "repr" = none
  blank : ∃ t, mg "BLANK" = some (.int (-1) t)
  mostP : ∃ t, mg "MOST_PLACES" = some (.int 4 t)
  mostL : ∃ t, mg "MOST_LABELS" = some (.int 16 t)
  mostT : ∃ t, mg "MOST_THING" = some (.int 99 t)
  mostN : ∃ t, mg "MOST_NODES" = some (.int 2000 t)
  mostR : ∃ t, mg "MOST_REQUESTS" = some (.int 60 t)

theorem bt_isinstance : bootBuiltins "isinstance" = some (.builtin "isinstance") := by decide +kernel
theorem bt_int : bootBuiltins "int" = some (.type "int") := by decide +kernel
theorem bt_bool : bootBuiltins "bool" = some (.type "bool") := by decide +kernel
theorem bt_tuple : bootBuiltins "tuple" = some (.type "tuple") := by decide +kernel
theorem bt_list : bootBuiltins "list" = some (.type "list") := by decide +kernel
theorem bt_dict : bootBuiltins "dict" = some (.type "dict") := by decide +kernel
theorem bt_max : bootBuiltins "max" = some (.builtin "max") := by decide +kernel
theorem bt_min : bootBuiltins "min" = some (.builtin "min") := by decide +kernel
theorem bt_sum : bootBuiltins "sum" = some (.builtin "sum") := by decide +kernel
theorem bt_all : bootBuiltins "all" = some (.builtin "all") := by decide +kernel
theorem bt_repr : bootBuiltins "repr" = some (.builtin "repr") := by decide +kernel
theorem bt_sorted : bootBuiltins "sorted" = some (.builtin "sorted") := by decide +kernel
theorem kb_ii : kitB "int" "int" = some true := by decide +kernel
theorem kb_ib : kitB "int" "bool" = some false := by decide +kernel
theorem kb_tt : kitB "tuple" "tuple" = some true := by decide +kernel

section
variable {X : Cx} {B : Bs} {Γ : List Sl} {x y z : Vl} {a b c e : Expr} {pos p q : Pos} {xs ys : List Vl} {i j : Int}
/-- the name in slot i -/
theorem gv (i : Nat) {n : Str} (hg : Γ[i]? = some (.va y) := by rfl) (hN : X.N[i]? = some n := by rfl) (hv : Vis X.env.scope n := by first | exact Or.inl rfl | exact Or.inr (Or.inl rfl) | exact Or.inr (Or.inr rfl)) (hd : (n == ("__debug__" : Str)) = false := by decide)
    (hcd : (n == ("__classdict__" : Str)) = false := by decide) : GE X B Γ (.Name n pos) y := ge_var hg hN hv hd hcd
theorem g_isiI (Gm : Gf X.mg) (h : GE X B Γ a (.int i)) (hg : Gl X "isinstance" := by rfl) (hg2 : Gl X "int" := by rfl) (hs : starEach [a, .Name "int" q] X.env = (false, eval a X.env) :: starEach [.Name "int" q] X.env := by rfl) (hs2 : starEach [.Name "int" q] X.env = (false, eval (.Name "int" q) X.env) :: starEach [] X.env := by rfl)
    (hpl : (backTo pos (starEach [.Name "int" q] X.env)).any (·.1) = false := by rfl) : GE X B Γ (.Call (.Name "isinstance" p) [a, .Name "int" q] [] pos) (.bl true) :=
  ge_callB call_isi Gm.isinstance hg bt_isinstance (ga_cons h (ga_cons (ge_ty (T := "int") Gm.int hg2 bt_int) ga_nil hs2) hs) (ra_isi_int kb_ii) (by decide) (by decide) hs hpl
theorem g_isiB (Gm : Gf X.mg) (h : GE X B Γ a (.int i)) (hg : Gl X "isinstance" := by rfl) (hg2 : Gl X "bool" := by rfl) (hs : starEach [a, .Name "bool" q] X.env = (false, eval a X.env) :: starEach [.Name "bool" q] X.env := by rfl) (hs2 : starEach [.Name "bool" q] X.env = (false, eval (.Name "bool" q) X.env) :: starEach [] X.env := by rfl)
    (hpl : (backTo pos (starEach [.Name "bool" q] X.env)).any (·.1) = false := by rfl) : GE X B Γ (.Call (.Name "isinstance" p) [a, .Name "bool" q] [] pos) (.bl false) :=
  ge_callB call_isi Gm.isinstance hg bt_isinstance (ga_cons h (ga_cons (ge_ty (T := "bool") Gm.bool hg2 bt_bool) ga_nil hs2) hs) (ra_isi_int kb_ib) (by decide) (by decide) hs hpl
theorem g_isiT (Gm : Gf X.mg) (h : GE X B Γ a (.tup xs)) (hg : Gl X "isinstance" := by rfl) (hg2 : Gl X "tuple" := by rfl) (hs : starEach [a, .Name "tuple" q] X.env = (false, eval a X.env) :: starEach [.Name "tuple" q] X.env := by rfl) (hs2 : starEach [.Name "tuple" q] X.env = (false, eval (.Name "tuple" q) X.env) :: starEach [] X.env := by rfl)
    (hpl : (backTo pos (starEach [.Name "tuple" q] X.env)).any (·.1) = false := by rfl) : GE X B Γ (.Call (.Name "isinstance" p) [a, .Name "tuple" q] [] pos) (.bl true) :=
  ge_callB call_isi Gm.isinstance hg bt_isinstance (ga_cons h (ga_cons (ge_ty (T := "tuple") Gm.tuple hg2 bt_tuple) ga_nil hs2) hs) (ra_isi_tup kb_tt) (by decide) (by decide) hs hpl
section
variable (hs : starEach [a] X.env = (false, eval a X.env) :: starEach [] X.env := by rfl)
theorem g_len (Gm : Gf X.mg) (h : GE X B Γ a (.tup xs)) (hg : Gl X "len" := by rfl) (hs : starEach [a] X.env = (false, eval a X.env) :: starEach [] X.env := by rfl) : GE X B Γ (.Call (.Name "len" p) [a] [] pos) (.int xs.length) :=
  ge_callB call_len_seq Gm.len hg PySem.boot_len (ga_cons h ga_nil hs) ra_lenT (by decide) (by decide) hs rfl
theorem g_lenL (Gm : Gf X.mg) (h : GE X B Γ a (.lst xs)) (hg : Gl X "len" := by rfl) (hs : starEach [a] X.env = (false, eval a X.env) :: starEach [] X.env := by rfl) : GE X B Γ (.Call (.Name "len" p) [a] [] pos) (.int xs.length) :=
  ge_callB call_len_seq Gm.len hg PySem.boot_len (ga_cons h ga_nil hs) ra_lenL (by decide) (by decide) hs rfl
theorem g_intB {d : Bool} (Gm : Gf X.mg) (h : GE X B Γ a (.bl d)) (hg : Gl X "int" := by rfl) (hs : starEach [a] X.env = (false, eval a X.env) :: starEach [] X.env := by rfl) : GE X B Γ (.Call (.Name "int" p) [a] [] pos) (.int (if d then 1 else 0)) :=
  ge_callT call_int1 Gm.int hg bt_int (ga_cons h ga_nil hs) ra_intB (by decide) (by decide) hs rfl
theorem g_all {bs : List Bool} (Gm : Gf X.mg) (hc : X.calm = true) (h : GE X B Γ a (.lst (bs.map .bl))) (hg : Gl X "all" := by rfl) (hs : starEach [a] X.env = (false, eval a X.env) :: starEach [] X.env := by rfl) : GE X B Γ (.Call (.Name "all" p) [a] [] pos) (.bl (bs.all id)) :=
  ge_callB (cr_all hc) Gm.all hg bt_all (ga_cons h ga_nil hs) ra_all (by decide) (by decide) hs rfl
theorem g_sum {ns : List Int} (Gm : Gf X.mg) (hc : X.calm = true) (h : GE X B Γ a (.lst (ns.map .int))) (hg : Gl X "sum" := by rfl) (hs : starEach [a] X.env = (false, eval a X.env) :: starEach [] X.env := by rfl) : GE X B Γ (.Call (.Name "sum" p) [a] [] pos) (.int ns.sum) :=
  ge_callB (cr_sum hc) Gm.sum hg bt_sum (ga_cons h ga_nil hs) ra_sum (by decide) (by decide) hs rfl
theorem g_repr (Gm : Gf X.mg) (h : GE X B Γ a (.int i)) (hb : i.natAbs.log2 < 1920) (hg : Gl X "repr" := by rfl) (hs : starEach [a] X.env = (false, eval a X.env) :: starEach [] X.env := by rfl) : GE X B Γ (.Call (.Name "repr" p) [a] [] pos) (.str (toString i)) :=
  ge_callB SkE.call_repr_int Gm.repr hg bt_repr (ga_cons h ga_nil hs) (ra_repr hb) (by decide) (by decide) hs rfl
/-- tuple(a list) -/
theorem g_tupL (Gm : Gf X.mg) (h : GE X B Γ a (.lst xs)) (hg : Gl X "tuple" := by rfl) (hs : starEach [a] X.env = (false, eval a X.env) :: starEach [] X.env := by rfl) : GE X B Γ (.Call (.Name "tuple" p) [a] [] pos) (.tud xs) :=
  ge_callT call_tuple_ofD Gm.tuple hg bt_tuple (ga_cons h ga_nil hs) ra_tupL (by decide) (by decide) hs rfl
theorem go_listT (Gm : Gf X.mg) (h : GE X B Γ a (.tup xs)) (hz : xs.length ≤ sizeLine) (hg : Gl X "list" := by rfl) (hs : starEach [a] X.env = (false, eval a X.env) :: starEach [] X.env := by rfl) : GO X B Γ (.Call (.Name "list" p) [a] [] pos) (owL X.K xs) :=
  go_callT call_list_of Gm.list hg bt_list (ga_cons h ga_nil hs) (rao_listT hz) (by decide) (by decide) hs rfl
theorem go_listL (Gm : Gf X.mg) (h : GE X B Γ a (.lst xs)) (hz : xs.length ≤ sizeLine) (hg : Gl X "list" := by rfl) (hs : starEach [a] X.env = (false, eval a X.env) :: starEach [] X.env := by rfl) : GO X B Γ (.Call (.Name "list" p) [a] [] pos) (owL X.K xs) :=
  go_callT call_list_of Gm.list hg bt_list (ga_cons h ga_nil hs) (rao_listL hz) (by decide) (by decide) hs rfl
end
theorem g_max2 (Gm : Gf X.mg) (hc : X.calm = true) (h : GE X B Γ a (.int i)) (h2 : GE X B Γ b (.int j)) (hg : Gl X "max" := by rfl) (hs : starEach [a, b] X.env = (false, eval a X.env) :: starEach [b] X.env := by rfl) (hs2 : starEach [b] X.env = (false, eval b X.env) :: starEach [] X.env := by rfl)
    (hpl : (backTo pos (starEach [b] X.env)).any (·.1) = false := by rfl) : GE X B Γ (.Call (.Name "max" p) [a, b] [] pos) (.int (if j > i then j else i)) :=
  ge_callB (call_max2 hc) Gm.max hg bt_max (ga_cons h (ga_cons h2 ga_nil hs2) hs) ra_max2 (by decide) (by decide) hs hpl
theorem g_min2 (Gm : Gf X.mg) (hc : X.calm = true) (h : GE X B Γ a (.int i)) (h2 : GE X B Γ b (.int j)) (hg : Gl X "min" := by rfl) (hs : starEach [a, b] X.env = (false, eval a X.env) :: starEach [b] X.env := by rfl) (hs2 : starEach [b] X.env = (false, eval b X.env) :: starEach [] X.env := by rfl)
    (hpl : (backTo pos (starEach [b] X.env)).any (·.1) = false := by rfl) : GE X B Γ (.Call (.Name "min" p) [a, b] [] pos) (.int (if j < i then j else i)) :=
  ge_callB (call_min2 hc) Gm.min hg bt_min (ga_cons h (ga_cons h2 ga_nil hs2) hs) ra_min2 (by decide) (by decide) hs hpl
theorem g_blank (Gm : Gf X.mg) (hg : Gl X "BLANK" := by rfl) : GE X B Γ (.Name "BLANK" p) (.int (-1)) := ge_gint hg Gm.blank
theorem g_mostP (Gm : Gf X.mg) (hg : Gl X "MOST_PLACES" := by rfl) : GE X B Γ (.Name "MOST_PLACES" p) (.int 4) := ge_gint hg Gm.mostP
theorem g_mostL (Gm : Gf X.mg) (hg : Gl X "MOST_LABELS" := by rfl) : GE X B Γ (.Name "MOST_LABELS" p) (.int 16) := ge_gint hg Gm.mostL
theorem g_mostT (Gm : Gf X.mg) (hg : Gl X "MOST_THING" := by rfl) : GE X B Γ (.Name "MOST_THING" p) (.int 99) := ge_gint hg Gm.mostT
theorem g_mostN (Gm : Gf X.mg) (hg : Gl X "MOST_NODES" := by rfl) : GE X B Γ (.Name "MOST_NODES" p) (.int 2000) := ge_gint hg Gm.mostN
theorem g_mostR (Gm : Gf X.mg) (hg : Gl X "MOST_REQUESTS" := by rfl) : GE X B Γ (.Name "MOST_REQUESTS" p) (.int 60) := ge_gint hg Gm.mostR
/-- low <= x <= high, where the first holds -/
theorem g_between {k : Int} (ha : GE X B Γ a (.int i)) (hb : GE X B Γ b (.int j)) (hc : GE X B Γ c (.int k)) (h : i ≤ j) (hm : lastMarks [.LtE, .LtE] [b, c] = false := by with_unfolding_all rfl) : GE X B Γ (.Compare a [.LtE, .LtE] [b, c] pos) (.bl (decide (j ≤ k))) := by
  refine ge_chain op_le op_le ha hb hc ?_ ro_B0 hm
  have := ro_B0 (X := X) (B := B) (g := fun i j => decide (i ≤ j)) (i := i) (j := j)
  rw [decide_eq_true h] at this
  exact this
theorem gt_between {k : Int} (ha : GE X B Γ a (.int i)) (hb : GE X B Γ b (.int j)) (hc : GE X B Γ c (.int k)) (h : i ≤ j) (hm : lastMarks [.LtE, .LtE] [b, c] = false := by with_unfolding_all rfl) : GT X B Γ (.Compare a [.LtE, .LtE] [b, c] pos) (decide (j ≤ k)) := by
  refine gt_chain op_le op_le ha hb hc ?_ ro_B0 hm
  have := ro_B0 (X := X) (B := B) (g := fun i j => decide (i ≤ j)) (i := i) (j := j)
  rw [decide_eq_true h] at this
  exact this
/-- tuple(range(n)), list(range(n)) -/
theorem rgV_ints (n : Nat) : rgV 0 (n : Int) = ((List.range n).map fun i : Nat => (i : Int)).map V.int := by
  unfold rgV
  rw [List.map_map]
  have e : ((n : Int) - 0).toNat = n := by omega
  rw [e]
  exact List.map_congr_left fun i _ => by show V.int (0 + (i : Int)) = V.int (i : Int); rw [Int.zero_add]
theorem g_tupRg {n : Nat} {r : Pos} (Gm : Gf X.mg) (hc : X.calm = true) (h : GE X B Γ a (.int n)) (hz : n ≤ 1000) (hg : Gl X "tuple" := by rfl) (hg2 : Gl X "range" := by rfl) (hs : starEach [.Call (.Name "range" q) [a] [] r] X.env = (false, eval (.Call (.Name "range" q) [a] [] r) X.env) :: starEach [] X.env := by rfl) (hs2 : starEach [a] X.env = (false, eval a X.env) :: starEach [] X.env := by rfl) :
    GE X B Γ (.Call (.Name "tuple" p) [.Call (.Name "range" q) [a] [] r] [] pos) (.tup (((List.range n).map fun i : Nat => (i : Int)).map .int)) :=
  PE_imp (pe_tupRg hc hg Gm.tuple (prg_1 hg2 Gm.range h hs2) hs) fun σ H Q ⟨S, en, k⟩ => ⟨S, en, fun v S1 H1 t1 h1 => ⟨(n : Int), h1, RgOk.of_le (by omega) (by omega) (by omega) (by omega), fun q hq => by
    have t2 := t1.st.newV hq (o := .tup (rgV 0 n)) (fun ps z => by cases z)
    exact k _ _ _ (t1.trans t2) ⟨q, _, rfl, SqT.of upd_same, by rw [rgV_ints]; exact ints_reps _⟩⟩⟩
theorem g_lstRg {n : Nat} {r : Pos} (Gm : Gf X.mg) (hc : X.calm = true) (h : GE X B Γ a (.int n)) (hz : n ≤ 1000) (hg : Gl X "list" := by rfl) (hg2 : Gl X "range" := by rfl) (hs : starEach [.Call (.Name "range" q) [a] [] r] X.env = (false, eval (.Call (.Name "range" q) [a] [] r) X.env) :: starEach [] X.env := by rfl) (hs2 : starEach [a] X.env = (false, eval a X.env) :: starEach [] X.env := by rfl) :
    GO X B Γ (.Call (.Name "list" p) [.Call (.Name "range" q) [a] [] r] [] pos) (owL X.K (((List.range n).map fun i : Nat => (i : Int)).map .int)) :=
  PE_imp (pe_listRg hc hg Gm.list (prg_1 hg2 Gm.range h hs2) hs) fun σ H Q ⟨S, en, k⟩ => ⟨S, en, fun v S1 H1 t1 h1 => ⟨(n : Int), h1, RgOk.of_le (by omega) (by omega) (by omega) (by omega), fun q hq => by
    have t2 := t1.st.newO hq (o := .lst (rgV 0 n))
    refine k q _ _ _ (t1.trans t2) (stp_none t1 hq) (sta_none t1.st hq) upd_same ⟨_, rfl, ?_, by rw [rgV_ints]; exact ints_reps _⟩
    rw [rgV_length, sizeLine_eq]; omega⟩⟩
end
end G
set_option maxHeartbeats 1000000
/-! M0: the program as plain Lean functions. No Python here. -/
namespace Mi

/-! ### rules, states, arrangements -/
abbrev Mv := List Int × Int
structure LR where
  hits : List Mv
  out : Int
  comes : List Mv
structure Rl where
  places : Int
  labels : List LR
abbrev Sta := List Int × Int
abbrev Nd := Sta × Sta

def rangeI (n : Nat) : List Int := (List.range n).map fun i : Nat => (i : Int)
def okOrder (p : Int) (o : List Int) : Prop := o.Perm (rangeI p.toNat)
def okMv (p L : Int) (m : Mv) : Prop := okOrder p m.1 ∧ 0 ≤ m.2 ∧ m.2 < L
structure okLR (p L : Int) (r : LR) : Prop where
  hl : (r.hits.length : Int) = p
  h : ∀ m ∈ r.hits, okMv p L m
  o : 0 ≤ r.out ∧ r.out < p
  cl : (r.comes.length : Int) = p
  c : ∀ m ∈ r.comes, okMv p L m
structure okRl (r : Rl) : Prop where
  p : 1 ≤ r.places ∧ r.places ≤ 3
  l : 1 ≤ r.labels.length ∧ r.labels.length ≤ 2
  a : ∀ x ∈ r.labels, okLR r.places r.labels.length x

def arr (row : List Int) (o : List Int) : List Int := o.map fun i => row.getD i.toNat (-1)
def lrAt (r : Rl) (l : Int) : LR := r.labels.getD l.toNat ⟨[], 0, []⟩
/-- where a new thing comes -/
def placeOf (r : Rl) (s : Sta) : Nat := if -1 ∈ s.1 then s.1.idxOf (-1) else (lrAt r s.2).out.toNat
def filled (row : List Int) (p : Nat) (x : Int) : List Int := row.take p ++ [x] ++ row.drop (p + 1)
def stepHit (r : Rl) (s : Sta) (x : Int) : Sta :=
  (arr s.1 ((lrAt r s.2).hits.getD (s.1.idxOf x) ([], 0)).1, ((lrAt r s.2).hits.getD (s.1.idxOf x) ([], 0)).2)
def stepMiss (r : Rl) (s : Sta) (x : Int) : Sta :=
  (arr (filled s.1 (placeOf r s) x) ((lrAt r s.2).comes.getD (placeOf r s) ([], 0)).1, ((lrAt r s.2).comes.getD (placeOf r s) ([], 0)).2)
/-- is it a hit, the state then -/
def isHit (s : Sta) (x : Int) : Bool := decide (x ∈ s.1)
def step (r : Rl) (s : Sta) (x : Int) : Sta := if x ∈ s.1 then stepHit r s x else stepMiss r s x
def goneOf (r : Rl) (s : Sta) (x : Int) : Option Int := if x ∈ s.1 then none else if s.1.getD (placeOf r s) (-1) = -1 then none else some (s.1.getD (placeOf r s) (-1))
structure okSt (r : Rl) (s : Sta) : Prop where
  len : (s.1.length : Int) = r.places
  lab : 0 ≤ s.2 ∧ s.2 < r.labels.length
  rng : ∀ x ∈ s.1, -1 ≤ x ∧ x ≤ 99
  dist : ∀ x ∈ s.1, x = -1 ∨ s.1.count x = 1
def first (r : Rl) : Sta := (List.replicate r.places.toNat (-1), 0)

/-! numbering anew -/
def nums : List (Int × Int) → List Int → List (Int × Int)
  | d, [] => d
  | d, t :: ts => nums (if (d.lookup t).isSome then d else d ++ [(t, (d.length : Int) - 1)]) ts
def numOf (d : List (Int × Int)) (t : Int) : Int := (d.lookup t).getD 0
def numsOf (n : Nd) : List (Int × Int) := nums [(-1, -1)] (n.1.1 ++ n.2.1)
def named (n : Nd) : Nd := ((n.1.1.map (numOf (numsOf n)), n.1.2), (n.2.1.map (numOf (numsOf n)), n.2.2))
def maxI : List Int → Int
  | [] => -1
  | x :: xs => if x > maxI xs then x else maxI xs
def howMany (n : Nd) : Int := maxI (n.1.1 ++ n.2.1) + 1
structure okNd (a b : Rl) (n : Nd) : Prop where
  x : okSt a n.1
  y : okSt b n.2
  nm : named n = n
def fstNd (a b : Rl) : Nd := (first a, first b)
def movedTo (a b : Rl) (n : Nd) (k : Int) : Nd := named (step a n.1 k, step b n.2 k)

/-- a step: name, miss in one, miss in other, the node behind -/
structure Stp where
  name : Int
  mine : Int
  its : Int
  later : Nd
def b01 (h : Bool) : Int := if h then 0 else 1
def stpAt (a b : Rl) (n : Nd) (k : Int) : Stp := ⟨k, b01 (isHit n.1 k), b01 (isHit n.2 k), movedTo a b n k⟩
def steps (a b : Rl) (n : Nd) : List Stp := (rangeI (howMany n + 1).toNat).map (stpAt a b n)

/-! ### the graph -/
/-- one node's steps gone through: the walks so far -/
def gIn (w : List Int) : List (Nd × List Int) → List Stp → List (Nd × List Int)
  | ws, [] => ws
  | ws, s :: ss => gIn w (if s.later ∈ ws.map (·.1) then ws else ws ++ [(s.later, w ++ [s.name])]) ss
def walkOf (ws : List (Nd × List Int)) (n : Nd) : List Int := ((ws.find? fun p => decide (p.1 = n)).map (·.2)).getD []
/-- behind i turns: the walks (the line is their nodes) -/
def gW (a b : Rl) : Nat → List (Nd × List Int)
  | 0 => [(fstNd a b, [])]
  | i + 1 => gIn (walkOf (gW a b i) (((gW a b i).map (·.1)).getD i (fstNd a b))) (gW a b i) (steps a b (((gW a b i).map (·.1)).getD i (fstNd a b)))
def gN (a b : Rl) (i : Nat) : Nd := ((gW a b i).map (·.1)).getD i (fstNd a b)

/-! ### climbing -/
inductive Rc where
  | root (n : Nd)
  | ext (n : Nd) (v k : Int) (b : Rc)
def Rc.node : Rc → Nd
  | .root n => n
  | .ext n _ _ _ => n
def Rc.value : Rc → Int
  | .root _ => 0
  | .ext _ v _ _ => v
def Rc.walk : Rc → List Int
  | .root _ => []
  | .ext _ _ k b => b.walk ++ [k]
def Rc.before : Rc → Option Rc
  | .root _ => none
  | .ext _ _ _ b => some b
/-- the last record with this node, from here on back -/
def sinceN (t : Nd) : Rc → Option Rc
  | .root m => if m = t then some (.root m) else none
  | .ext m v k b => if m = t then some (.ext m v k b) else sinceN t b
def Rc.since : Rc → Option Rc
  | .root _ => none
  | .ext n _ _ b => sinceN n b
def look {β : Type} (d : List (Nd × β)) (n : Nd) : Option β := (d.find? fun p => decide (p.1 = n)).map (·.2)
def put {β : Type} (d : List (Nd × β)) (n : Nd) (v : β) : List (Nd × β) :=
  if d.any (fun p => decide (p.1 = n)) then d.map (fun p => if p.1 = n then (p.1, v) else p) else d ++ [(n, v)]
def better (best : List (Nd × Int)) (n : Nd) (v : Int) : Bool := match look best n with
  | none => true
  | some u => decide (v > u)
def betterR (found : List (Nd × Rc)) (n : Nd) (v : Int) : Bool := match look found n with
  | none => true
  | some r => decide (v > r.value)
def imp1 (best : List (Nd × Int)) (r : Rc) (found : List (Nd × Rc)) (s : Stp) : List (Nd × Rc) :=
  if better best s.later (r.value + (s.its - s.mine)) && betterR found s.later (r.value + (s.its - s.mine)) then put found s.later (.ext s.later (r.value + (s.its - s.mine)) s.name r) else found
def impR (a b : Rl) (best : List (Nd × Int)) (found : List (Nd × Rc)) (r : Rc) : List (Nd × Rc) := (steps a b r.node).foldl (imp1 best r) found
def impF (a b : Rl) (best : List (Nd × Int)) (layer : List Rc) : List (Nd × Rc) := layer.foldl (impR a b best) []

end Mi
set_option maxHeartbeats 1000000
/-! M1: paths. -/
namespace Mi
/-- the steps along names -/
def pathS (a b : Rl) : Nd → List Int → List Stp
  | _, [] => []
  | n, k :: ks => stpAt a b n k :: pathS a b (movedTo a b n k) ks
def pathE (a b : Rl) : Nd → List Int → Nd
  | n, [] => n
  | n, k :: ks => pathE a b (movedTo a b n k) ks
def okPath (a b : Rl) : Nd → List Int → Prop
  | n, [] => okNd a b n
  | n, k :: ks => okNd a b n ∧ 0 ≤ k ∧ k ≤ howMany n ∧ okPath a b (movedTo a b n k) ks
theorem pathS_len (a b : Rl) : ∀ (n : Nd) (ks : List Int), (pathS a b n ks).length = ks.length
  | _, [] => rfl
  | n, k :: ks => by rw [pathS, List.length_cons, List.length_cons, pathS_len a b _ ks]
theorem okPath_nd {a b : Rl} {n : Nd} {ks : List Int} (h : okPath a b n ks) : okNd a b n := by
  cases ks with
  | nil => exact h
  | cons k ks => exact h.1
theorem okPath_end {a b : Rl} : ∀ {n : Nd} {ks : List Int}, okPath a b n ks → okNd a b (pathE a b n ks)
  | _, [], h => h
  | _, _ :: ks, h => okPath_end (ks := ks) h.2.2.2
theorem okPath_take {a b : Rl} : ∀ {n : Nd} {ks : List Int} (i : Nat), okPath a b n ks → okPath a b n (ks.take i)
  | _, [], i, h => by rw [List.take_nil]; exact h
  | _, k :: ks, 0, h => okPath_nd h
  | _, k :: ks, i + 1, h => ⟨h.1, h.2.1, h.2.2.1, okPath_take i h.2.2.2⟩
theorem okPath_at {a b : Rl} : ∀ {n : Nd} {ks : List Int} {i : Nat} {k : Int}, okPath a b n ks → ks[i]? = some k → okNd a b (pathE a b n (ks.take i)) ∧ 0 ≤ k ∧ k ≤ howMany (pathE a b n (ks.take i)) ∧
    pathE a b n (ks.take (i + 1)) = movedTo a b (pathE a b n (ks.take i)) k ∧ (pathS a b n ks)[i]? = some (stpAt a b (pathE a b n (ks.take i)) k)
  | _, [], i, k, h, e => by simp at e
  | n, x :: ks, 0, k, h, e => by
    have e : x = k := by simpa using e
    subst e
    refine ⟨h.1, h.2.1, h.2.2.1, ?_, rfl⟩
    show pathE a b n (x :: ks.take 0) = _
    rw [List.take_zero]; rfl
  | n, x :: ks, i + 1, k, h, e => by
    have e : ks[i]? = some k := by simpa using e
    obtain ⟨h1, h2, h3, h4, h5⟩ := okPath_at h.2.2.2 e
    exact ⟨h1, h2, h3, h4, by rw [pathS, List.getElem?_cons_succ, h5]; rfl⟩
theorem pathE_last {a b : Rl} : ∀ {n : Nd} {ks : List Int}, pathE a b n ks = match (pathS a b n ks).getLast? with
    | none => n
    | some s => s.later
  | _, [] => rfl
  | n, k :: ks => by
    rw [pathE, pathE_last (ks := ks), pathS]
    cases ks with
    | nil => rfl
    | cons k2 ks =>
      rw [pathS, List.getLast?_cons_cons]
      cases h : ((stpAt a b (movedTo a b n k) k2 :: pathS a b (movedTo a b (movedTo a b n k) k2) ks).getLast?) with
      | none => simp at h
      | some s => rfl
theorem pathE_app {a b : Rl} : ∀ {n : Nd} {ks ls : List Int}, pathE a b n (ks ++ ls) = pathE a b (pathE a b n ks) ls
  | _, [], _ => rfl
  | n, k :: ks, ls => pathE_app (n := movedTo a b n k) (ks := ks)
theorem okPath_app {a b : Rl} : ∀ {n : Nd} {ks ls : List Int}, okPath a b n (ks ++ ls) ↔ okPath a b n ks ∧ okPath a b (pathE a b n ks) ls
  | _, [], ls => ⟨fun h => ⟨okPath_nd h, h⟩, fun h => h.2⟩
  | n, k :: ks, ls => ⟨fun h => ⟨⟨h.1, h.2.1, h.2.2.1, (okPath_app.mp h.2.2.2).1⟩, (okPath_app.mp h.2.2.2).2⟩, fun h => ⟨h.1.1, h.1.2.1, h.1.2.2.1, okPath_app.mpr ⟨h.1.2.2.2, h.2⟩⟩⟩
end Mi
set_option maxHeartbeats 1000000
/-! M2: the graph, as it grows. -/
namespace Mi
section
variable {β : Type}
theorem look_some_iff (d : List (Nd × β)) (n : Nd) : (look d n).isSome = true ↔ n ∈ d.map (·.1) := by
  unfold look
  rw [Option.isSome_map, List.find?_isSome]
  constructor
  · rintro ⟨p, h1, h2⟩
    exact List.mem_map.mpr ⟨p, h1, of_decide_eq_true h2⟩
  · intro h
    obtain ⟨p, h1, h2⟩ := List.mem_map.mp h
    exact ⟨p, h1, decide_eq_true h2⟩
theorem look_none_iff (d : List (Nd × β)) (n : Nd) : look d n = none ↔ n ∉ d.map (·.1) := by
  rw [← look_some_iff]
  cases look d n <;> simp
theorem look_app (d e : List (Nd × β)) (n : Nd) : look (d ++ e) n = (look d n).or (look e n) := by
  unfold look
  rw [List.find?_append]
  cases d.find? _ <;> rfl
theorem put_new {d : List (Nd × β)} {n : Nd} (h : n ∉ d.map (·.1)) (v : β) : put d n v = d ++ [(n, v)] := by
  unfold put
  rw [if_neg]
  intro z
  obtain ⟨p, h1, h2⟩ := List.any_eq_true.mp z
  exact h (List.mem_map.mpr ⟨p, h1, of_decide_eq_true h2⟩)
theorem look_put (d : List (Nd × β)) (n m : Nd) (v : β) : look (put d n v) m = if m = n then some v else look d m := by
  by_cases hn : n ∈ d.map (·.1)
  · have e : put d n v = d.map (fun p => if p.1 = n then (p.1, v) else p) := by
      unfold put
      rw [if_pos]
      obtain ⟨p, h1, h2⟩ := List.mem_map.mp hn
      exact List.any_eq_true.mpr ⟨p, h1, decide_eq_true h2⟩
    rw [e]
    clear e
    induction d with
    | nil => cases hn
    | cons p d ih =>
      unfold look at ih ⊢
      rw [List.map_cons, List.find?_cons, List.find?_cons]
      by_cases h1 : p.1 = n
      · rw [if_pos h1]
        by_cases h2 : m = n
        · subst h2
          rw [if_pos rfl, decide_eq_true h1]; rfl
        · rw [if_neg h2, decide_eq_false (fun z : p.1 = m => h2 (z.symm.trans h1))]
          by_cases h3 : n ∈ d.map (·.1)
          · have := ih h3
            rw [if_neg h2] at this
            exact this
          · have e : d.map (fun p => if p.1 = n then (p.1, v) else p) = d := by
              refine (List.map_congr_left fun q hq => ?_).trans (List.map_id d)
              rw [if_neg (fun z => h3 (List.mem_map.mpr ⟨q, hq, z⟩))]; rfl
            rw [e]
      · rw [if_neg h1]
        have h3 : n ∈ d.map (·.1) := by
          rw [List.map_cons] at hn
          rcases List.mem_cons.mp hn with h | h
          · exact absurd h.symm h1
          · exact h
        by_cases h2 : p.1 = m
        · rw [decide_eq_true h2, if_neg (fun z => h1 (h2.trans z))]
        · rw [decide_eq_false h2]
          exact ih h3
  · rw [put_new hn, look_app]
    by_cases h2 : m = n
    · subst h2
      rw [if_pos rfl, (look_none_iff d m).mpr hn]
      show look [(m, v)] m = some v
      unfold look
      rw [List.find?_cons, decide_eq_true rfl]; rfl
    · rw [if_neg h2]
      have : look [(n, v)] m = none := by
        unfold look
        rw [List.find?_cons, decide_eq_false (fun z => h2 z.symm)]; rfl
      rw [this]
      cases look d m <;> rfl
end
theorem gIn_app (w : List Int) : ∀ (ss ts : List Stp) (ws : List (Nd × List Int)), gIn w ws (ss ++ ts) = gIn w (gIn w ws ss) ts
  | [], _, _ => rfl
  | _ :: ss, ts, _ => gIn_app w ss ts _
theorem gIn_pre (w : List Int) : ∀ (ss : List Stp) (ws : List (Nd × List Int)), ∃ more, gIn w ws ss = ws ++ more
  | [], ws => ⟨[], by rw [List.append_nil]; rfl⟩
  | s :: ss, ws => by
    obtain ⟨m, e⟩ := gIn_pre w ss (if s.later ∈ ws.map (·.1) then ws else ws ++ [(s.later, w ++ [s.name])])
    rw [gIn, e]
    split
    · exact ⟨m, rfl⟩
    · exact ⟨[(s.later, w ++ [s.name])] ++ m, by rw [List.append_assoc]⟩
theorem gW_pre (a b : Rl) (i : Nat) : ∀ j, ∃ more, gW a b (i + j) = gW a b i ++ more
  | 0 => ⟨[], by rw [List.append_nil]; rfl⟩
  | j + 1 => by
    obtain ⟨m, e⟩ := gW_pre a b i j
    obtain ⟨m2, e2⟩ := gIn_pre (walkOf (gW a b (i + j)) (((gW a b (i + j)).map (·.1)).getD (i + j) (fstNd a b))) (steps a b (((gW a b (i + j)).map (·.1)).getD (i + j) (fstNd a b))) (gW a b (i + j))
    refine ⟨m ++ m2, ?_⟩
    show gW a b (i + j + 1) = _
    rw [gW, e2, e, List.append_assoc]
theorem look_gIn {w : List Int} {ss : List Stp} {ws : List (Nd × List Int)} {n : Nd} {v : List Int} (h : look ws n = some v) : look (gIn w ws ss) n = some v := by
  obtain ⟨m, e⟩ := gIn_pre w ss ws
  rw [e, look_app, h]; rfl
/-- the graph so far -/
def gG (a b : Rl) : Nat → List (Nd × List Stp)
  | 0 => []
  | i + 1 => put (gG a b i) (gN a b i) (steps a b (gN a b i))
/-- the turns end at N -/
structure GOk (a b : Rl) (N : Nat) : Prop where
  ok : ∀ p ∈ gW a b N, okNd a b p.1
  lt : ∀ i < N, i < (gW a b i).length
  len : (gW a b N).length = N
  sm : N ≤ 1999
theorem GOk.sub {a b : Rl} {N i : Nat} (g : GOk a b N) (h : i ≤ N) : (∀ p ∈ gW a b i, okNd a b p.1) ∧ (gW a b i).length ≤ 1999 := by
  obtain ⟨m, e⟩ := gW_pre a b i (N - i)
  rw [show i + (N - i) = N by omega] at e
  refine ⟨fun p hp => g.ok p (by rw [e]; exact List.mem_append_left _ hp), ?_⟩
  have := g.len
  have := g.sm
  rw [e, List.length_append] at *
  omega
theorem gN_mem {a b : Rl} {i : Nat} (h : i < (gW a b i).length) : gN a b i ∈ (gW a b i).map (·.1) := by
  unfold gN
  rw [List.getD_eq_getElem?_getD, List.getElem?_eq_getElem (by rw [List.length_map]; exact h)]
  exact List.getElem_mem _
theorem look_walkOf {ws : List (Nd × List Int)} {n : Nd} (h : n ∈ ws.map (·.1)) : look ws n = some (walkOf ws n) := by
  obtain ⟨v, hv⟩ := Option.isSome_iff_exists.mp ((look_some_iff ws n).mpr h)
  have : walkOf ws n = v := by
    unfold walkOf
    unfold look at hv
    rw [hv]; rfl
  rw [hv, this]
theorem walk_len {a b : Rl} : ∀ i, ∀ p ∈ gW a b i, p.2.length ≤ i
  | 0, p, h => by
    have e : p = (fstNd a b, []) := by simpa [gW] using h
    rw [e]; exact Nat.le_refl _
  | i + 1, p, h => by
    have ih := walk_len (a := a) (b := b) i
    have hw : (walkOf (gW a b i) (((gW a b i).map (·.1)).getD i (fstNd a b))).length ≤ i := by
      unfold walkOf
      cases e : (gW a b i).find? fun p => decide (p.1 = ((gW a b i).map (·.1)).getD i (fstNd a b)) with
      | none => simp
      | some q => exact ih q (List.mem_of_find?_eq_some e)
    have go : ∀ (w : List Int) (ss : List Stp) (ws : List (Nd × List Int)), w.length ≤ i → (∀ p ∈ ws, p.2.length ≤ i + 1) → ∀ p ∈ gIn w ws ss, p.2.length ≤ i + 1 := by
      intro w ss
      induction ss with
      | nil => intro ws _ h; exact h
      | cons s ss ih =>
        intro ws hw h
        refine ih _ hw ?_
        split
        · exact h
        · intro p hp
          rcases List.mem_append.mp hp with hp | hp
          · exact h p hp
          · have : p = (s.later, w ++ [s.name]) := by simpa using hp
            rw [this]
            show (w ++ [s.name]).length ≤ _
            rw [List.length_append, List.length_singleton]; omega
    exact go _ _ _ hw (fun p hp => Nat.le_succ_of_le (ih p hp)) p h
end Mi
set_option maxHeartbeats 1000000
/-! M3: a layer improved: sizes. -/
namespace Mi
theorem imp1_len (best : List (Nd × Int)) (r : Rc) (f : List (Nd × Rc)) (s : Stp) : (imp1 best r f s).length ≤ f.length + 1 := by
  unfold imp1
  split
  · unfold put
    split
    · rw [List.length_map]; omega
    · rw [List.length_append, List.length_singleton]; exact Nat.le_refl _
  · omega
theorem fold1_len (best : List (Nd × Int)) (r : Rc) : ∀ (ss : List Stp) (f : List (Nd × Rc)), (ss.foldl (imp1 best r) f).length ≤ f.length + ss.length
  | [], f => Nat.le_refl _
  | s :: ss, f => by
    have h1 := fold1_len best r ss (imp1 best r f s)
    have h2 := imp1_len best r f s
    rw [List.foldl_cons, List.length_cons]
    omega
theorem put_mem {β : Type} {d : List (Nd × β)} {n : Nd} {v : β} {p : Nd × β} (h : p ∈ put d n v) : p ∈ d ∨ p.2 = v ∧ p.1 = n := by
  unfold put at h
  split at h
  · obtain ⟨q, h1, h2⟩ := List.mem_map.mp h
    by_cases e : q.1 = n
    · rw [if_pos e] at h2; rw [← h2]; exact .inr ⟨rfl, e⟩
    · rw [if_neg e] at h2; rw [← h2]; exact .inl h1
  · rcases List.mem_append.mp h with h | h
    · exact .inl h
    · have e : p = (n, v) := by simpa using h
      rw [e]; exact .inr ⟨rfl, rfl⟩
/-- every record that is found is behind one of the layer -/
theorem imp1_mem {best : List (Nd × Int)} {r : Rc} {f : List (Nd × Rc)} {s : Stp} {p : Nd × Rc} (h : p ∈ imp1 best r f s) : p ∈ f ∨ p.2 = .ext s.later (r.value + (s.its - s.mine)) s.name r ∧ p.1 = s.later ∧ better best s.later (r.value + (s.its - s.mine)) = true := by
  unfold imp1 at h
  split at h
  · rename_i hb
    rcases put_mem h with h | h
    · exact .inl h
    · exact .inr ⟨h.1, h.2, (Bool.and_eq_true_iff.mp hb).1⟩
  · exact .inl h
theorem fold1_mem {best : List (Nd × Int)} {r : Rc} : ∀ {ss : List Stp} {f : List (Nd × Rc)} {p : Nd × Rc}, p ∈ ss.foldl (imp1 best r) f → p ∈ f ∨ ∃ s ∈ ss, p.2 = .ext s.later (r.value + (s.its - s.mine)) s.name r ∧ p.1 = s.later ∧ better best s.later (r.value + (s.its - s.mine)) = true
  | [], f, p, h => .inl h
  | s :: ss, f, p, h => by
    rcases fold1_mem (ss := ss) h with h | ⟨t, h1, h2⟩
    · rcases imp1_mem h with h | h
      · exact .inl h
      · exact .inr ⟨s, .head _, h⟩
    · exact .inr ⟨t, .tail _ h1, h2⟩
theorem impF_mem {a b : Rl} {best : List (Nd × Int)} : ∀ {rs : List Rc} {f : List (Nd × Rc)} {p : Nd × Rc}, p ∈ rs.foldl (impR a b best) f → p ∈ f ∨ ∃ r ∈ rs, ∃ s ∈ steps a b r.node, p.2 = .ext s.later (r.value + (s.its - s.mine)) s.name r ∧ p.1 = s.later ∧ better best s.later (r.value + (s.its - s.mine)) = true
  | [], f, p, h => .inl h
  | r :: rs, f, p, h => by
    rcases impF_mem (rs := rs) h with h | ⟨t, h1, h2⟩
    · rcases fold1_mem h with h | ⟨s, h1, h2⟩
      · exact .inl h
      · exact .inr ⟨r, .head _, s, h1, h2⟩
    · exact .inr ⟨t, .tail _ h1, h2⟩
end Mi
set_option maxHeartbeats 1000000
/-! M4: the layers of the climb. -/
namespace Mi
def setB (best : List (Nd × Int)) (rs : List Rc) : List (Nd × Int) := rs.foldl (fun d r => put d r.node r.value) best
def setT (top : Rc) (rs : List Rc) : Rc := rs.foldl (fun t r => if r.value > t.value then r else t) top
structure Cl where
  layer : List Rc
  best : List (Nd × Int)
  top : Rc
def cl0 (a b : Rl) : Cl := ⟨[.root (fstNd a b)], [(fstNd a b, 0)], .root (fstNd a b)⟩
def clNext (srt : List Rc → List Rc) (a b : Rl) (c : Cl) : List Rc := srt ((impF a b c.best c.layer).map (·.2))
def cl (srt : List Rc → List Rc) (a b : Rl) : Nat → Cl
  | 0 => cl0 a b
  | i + 1 => ⟨clNext srt a b (cl srt a b i), setB (cl srt a b i).best (clNext srt a b (cl srt a b i)), setT (cl srt a b i).top (clNext srt a b (cl srt a b i))⟩
end Mi
set_option maxHeartbeats 1000000
/-! E0: what stands for what; short rules. -/
namespace G
open PySem PySem.Spec PyProof.Rows L2 LamX NdefX

def eI (ns : List Int) : Vl := .tup (ns.map .int)
def eMv (m : Mi.Mv) : Vl := .tup [eI m.1, .int m.2]
def eLR (r : Mi.LR) : Vl := .tup [.tup (r.hits.map eMv), .int r.out, .tup (r.comes.map eMv)]
def eRl (r : Mi.Rl) : Vl := .tup [.int r.places, .tup (r.labels.map eLR)]
def eSt (s : Mi.Sta) : Vl := .tup [.tud (s.1.map .int), .int s.2]
def eNd (n : Mi.Nd) : Vl := .tup [eSt n.1, eSt n.2]

theorem atI_nat {xs : List Vl} {k : Nat} {y : Vl} (h : xs[k]? = some y) : atI xs (k : Int) = some y := by
  have hk : k < xs.length := (List.getElem?_eq_some_iff.mp h).1
  unfold atI ixN
  rw [if_pos (show (0 : Int) ≤ (k : Int) from by omega), if_pos (show (k : Int) < (xs.length : Int) from by omega)]
  exact h

section
variable {X : Cx} {B : Bs} {Γ : List Sl} {x y z : Vl} {a b c e it : Expr} {pos p p2 : Pos} {xs ys : List Vl} {i j : Int}
theorem gt_lenNe {a b : Expr} (Gm : Gf X.mg) (h : GE X B Γ a (.tup xs)) (hb : GE X B Γ b (.int i)) (hn : (xs.length : Int) = i) (hg : Gl X "len" := by rfl) (hs : starEach [a] X.env = (false, eval a X.env) :: starEach [] X.env := by rfl) :
    GT X B Γ (.Compare (.Call (.Name "len" p) [a] [] pos) [.NotEq] [b] p2) false :=
  gt_is (gt_neI (g_len Gm h hg hs) hb) (by rw [decide_eq_true hn]; rfl)
theorem gt_lenEq {a b : Expr} (Gm : Gf X.mg) (h : GE X B Γ a (.tup xs)) (hb : GE X B Γ b (.int i)) (hn : (xs.length : Int) = i) (hg : Gl X "len" := by rfl) (hs : starEach [a] X.env = (false, eval a X.env) :: starEach [] X.env := by rfl) :
    GT X B Γ (.Compare (.Call (.Name "len" p) [a] [] pos) [.Eq] [b] p2) true :=
  gt_is (gt_eqI (g_len Gm h hg hs) hb) (decide_eq_true hn)
/-- not isinstance(a, tuple) or len(a) != n: no -/
theorem gt_guard {a b a' : Expr} {p1 p2 p3 p4 p5 p6 p7 q2 : Pos} (Gm : Gf X.mg) (h : GE X B Γ a (.tup xs)) (h' : GE X B Γ a' (.tup xs)) (hb : GE X B Γ b (.int i)) (hn : (xs.length : Int) = i) (hg : Gl X "len" := by rfl) (hg2 : Gl X "isinstance" := by rfl) (hg3 : Gl X "tuple" := by rfl)
    (hs : starEach [a'] X.env = (false, eval a' X.env) :: starEach [] X.env := by rfl) (hs1 : starEach [a, .Name "tuple" q2] X.env = (false, eval a X.env) :: starEach [.Name "tuple" q2] X.env := by rfl) (hs2 : starEach [.Name "tuple" q2] X.env = (false, eval (.Name "tuple" q2) X.env) :: starEach [] X.env := by rfl)
    (hpl : (backTo p4 (starEach [.Name "tuple" q2] X.env)).any (·.1) = false := by rfl) :
    GT X B Γ (.BoolOp .Or [.UnaryOp .Not (.Call (.Name "isinstance" p3) [a, .Name "tuple" q2] [] p4) p5, .Compare (.Call (.Name "len" p1) [a'] [] p2) [.NotEq] [b] p6] p7) false :=
  gw_t (gw_orF (gt_is (gt_not (gt_val (g_isiT Gm h hg2 hg3 hs1 hs2 hpl))) rfl) (gw_or1 (gt_lenNe Gm h' hb hn hg hs)))
/-- all([f for one in it]), it a tuple -/
theorem g_allC {α : Type} {as : List α} {elt : Expr} {scope : Scope} {nm : Str} {k : Nat} {q1 q2 : Pos} (enc : α → Vl) (f : α → Bool) (Gm : Gf X.mg) (hc : X.calm = true) (hN : X.N.Nodup) (hi : GE X B Γ it (.tup (as.map enc)))
    (ok : BlkOk X.N X.env.scope scope [(nm, k)]) (hnk : X.N[k]? = some nm) (hll : (relabel scope X.env).names.lookup nm = some .local) (hk : k < Γ.length)
    (he : ∀ (s : Shared) (H : Hp) (C : Addr) (cl : List (Str × Addr)) (fp : List Addr), ∀ a ∈ as, GE (X.blk s H scope (compEnvC scope cl C X.env) fp) B ((wipeG Γ [k]).set k (.va (enc a))) elt (.bl (f a)))
    (hl : as.length < sizeLine) (hg : Gl X "all" := by rfl) (hs : starEach [.ListComp elt [⟨.Name nm q1, it, [], 0⟩] scope q2] X.env = (false, eval (.ListComp elt [⟨.Name nm q1, it, [], 0⟩] scope q2) X.env) :: starEach [] X.env := by rfl) (hfs : ∀ x, foldedSetIterable it X.env x = pure x := by intro _; rfl) :
    GE X B Γ (.Call (.Name "all" p) [.ListComp elt [⟨.Name nm q1, it, [], 0⟩] scope q2] [] pos) (.bl (as.all f)) := by
  refine ge_is (g_all (bs := as.map f) Gm hc (go_v ?_) hg hs) (by rw [List.all_map]; rfl)
  have := go_lc (T := .nm k) (tg := .Name nm q1) (own := [(nm, k)]) (pos := q2) (elt := elt) (scope := scope) enc (fun a => Vl.bl (f a)) hc hN (gi_tup hi) ok (fun s H C cl fp => pg_name hN hnk (Or.inl hll) (Or.inr hll)) (fun s H C cl fp a ha => he s H C cl fp a ha) hl (fun _ _ => trivial) (fun j hj => by
    have : j = k := by simpa [Tg.idx] using hj
    subst this; exact ⟨hk, by simp⟩) hfs
  rw [List.map_map]
  exact this
/-- tuple([f for one in it]), it a tuple -/
theorem g_tupC {α : Type} {as : List α} {elt : Expr} {scope : Scope} {nm : Str} {k : Nat} {q1 q2 : Pos} (enc f : α → Vl) (Gm : Gf X.mg) (hc : X.calm = true) (hN : X.N.Nodup) (hi : GI X B Γ (.Name nm q1) it (as.map enc))
    (ok : BlkOk X.N X.env.scope scope [(nm, k)]) (hnk : X.N[k]? = some nm) (hll : (relabel scope X.env).names.lookup nm = some .local) (hk : k < Γ.length)
    (he : ∀ (s : Shared) (H : Hp) (C : Addr) (cl : List (Str × Addr)) (fp : List Addr), ∀ a ∈ as, GE (X.blk s H scope (compEnvC scope cl C X.env) fp) B ((wipeG Γ [k]).set k (.va (enc a))) elt (f a))
    (hl : as.length < sizeLine) (hg : Gl X "tuple" := by rfl) (hs : starEach [.ListComp elt [⟨.Name nm q1, it, [], 0⟩] scope q2] X.env = (false, eval (.ListComp elt [⟨.Name nm q1, it, [], 0⟩] scope q2) X.env) :: starEach [] X.env := by rfl) (hfs : ∀ x, foldedSetIterable it X.env x = pure x := by intro _; rfl) :
    GE X B Γ (.Call (.Name "tuple" p) [.ListComp elt [⟨.Name nm q1, it, [], 0⟩] scope q2] [] pos) (.tud (as.map f)) :=
  g_tupL Gm (go_v (go_lc (T := .nm k) (tg := .Name nm q1) (own := [(nm, k)]) (pos := q2) (elt := elt) (scope := scope) enc f hc hN hi ok (fun s H C cl fp => pg_name hN hnk (Or.inl hll) (Or.inr hll)) (fun s H C cl fp a ha => he s H C cl fp a ha) hl (fun _ _ => trivial) (fun j hj => by
    have : j = k := by simpa [Tg.idx] using hj
    subst this; exact ⟨hk, by simp⟩) hfs)) hg hs
/-- is_whole -/
def preWhole (xs : List Vl) (y : Vl) : Prop := ∃ i lo hi : Int, xs = [.int i, .int lo, .int hi] ∧ lo ≤ i ∧ y = .bl (decide (i ≤ hi))
end
end G
set_option maxHeartbeats 1000000
/-! E1: several targets at once, values and new objects mixed. -/
namespace G
open PySem PySem.Spec PyProof.Rows L2 LamX NdefX

def mix (K : PySem.W.Frag) (H0 S H : Hp) : List Sl → List V → Prop
  | [], vs => vs = []
  | .va x :: ms, vs => ∃ v r, vs = v :: r ∧ rep K S x v ∧ mix K H0 S H ms r
  | .ow _ o :: ms, vs => ∃ l ho r, vs = .ref l :: r ∧ H0 l = none ∧ S l = none ∧ H l = some ho ∧ o.r l ho S ∧ (∀ (j : Nat) (f : Option Addr) (o' : Own), ms[j]? = some (.ow f o') → r[j]? ≠ some (.ref l)) ∧ mix K H0 S H ms r
  | .no :: _, _ => False
def tM (K : PySem.W.Frag) (B : Bs) (Γ ms : List Sl) : TA := fun σ H Q => ∃ S, Env K B Γ σ S H ∧ ∀ vs S' H', Stp B.T S H S' H' → mix K H S' H' ms vs → Q vs H'
abbrev GM (X : Cx) (B : Bs) (Γ : List Sl) (es : List Expr) (ms : List Sl) : Prop := PA X es (tM X.K B Γ ms)
theorem mix_length {K : PySem.W.Frag} {H0 S H : Hp} : ∀ {ms : List Sl} {vs : List V}, mix K H0 S H ms vs → ms.length = vs.length
  | [], _, h => by have h : _ = [] := h; subst h; rfl
  | .va x :: ms, _, ⟨v, r, e1, _, e3⟩ => by subst e1; simp [mix_length e3]
  | .ow _ o :: ms, _, ⟨l, ho, r, e1, _, _, _, _, _, e3⟩ => by subst e1; simp [mix_length e3]
  | .no :: _, _, h => h.elim
/-- an owned one's place -/
theorem mix_own {K : PySem.W.Frag} {H0 S H : Hp} : ∀ {ms : List Sl} {vs : List V}, mix K H0 S H ms vs → ∀ (j : Nat) (f : Option Addr) (o : Own), ms[j]? = some (.ow f o) → ∃ l, vs[j]? = some (.ref l) ∧ H0 l = none
  | [], _, _, j, f, o, e => by simp at e
  | .va x :: ms, _, ⟨v, r, e1, _, e3⟩, 0, f, o, e => by simp at e
  | .va x :: ms, _, ⟨v, r, e1, _, e3⟩, j + 1, f, o, e => by
    subst e1
    have e : ms[j]? = some (.ow f o) := by simpa using e
    obtain ⟨l, h1, h2⟩ := mix_own e3 j f o e
    exact ⟨l, by simpa using h1, h2⟩
  | .ow _ o' :: ms, _, ⟨l, ho, r, e1, h0, _, _, _, _, e3⟩, 0, f, o, e => by subst e1; exact ⟨l, rfl, h0⟩
  | .ow _ o' :: ms, _, ⟨l, ho, r, e1, _, _, _, _, _, e3⟩, j + 1, f, o, e => by
    subst e1
    have e : ms[j]? = some (.ow f o) := by simpa using e
    obtain ⟨l, h1, h2⟩ := mix_own e3 j f o e
    exact ⟨l, by simpa using h1, h2⟩
  | .no :: _, _, h, _, _, _, _ => h.elim
section
variable {X : Cx} {B : Bs} {Γ : List Sl} {e : Expr} {es : List Expr} {x : Vl} {ms : List Sl} {pos : Pos}
theorem gm_nil : GM X B Γ [] [] := PA_imp pa_nil fun σ H Q ⟨S, en, k⟩ => k [] S H en.st.refl rfl
theorem mix_lv {K : PySem.W.Frag} {H0 H1 S H : Hp} (lv : ∀ a, H0 a ≠ none → H1 a ≠ none) : ∀ {ms : List Sl} {vs : List V}, mix K H1 S H ms vs → mix K H0 S H ms vs
  | [], _, h => h
  | .va x :: ms, _, ⟨v, r, e1, e2, e3⟩ => ⟨v, r, e1, e2, mix_lv lv e3⟩
  | .ow _ o :: ms, _, ⟨l, ho, r, e1, e2, e3, e4, e5, e6, e7⟩ => ⟨l, ho, r, e1, Classical.byContradiction fun n => lv l n e2, e3, e4, e5, e6, mix_lv lv e7⟩
  | .no :: _, _, h => h.elim
theorem gm_v (h : GE X B Γ e x) (h2 : GM X B Γ es ms) (hs : starEach (e :: es) X.env = (false, eval e X.env) :: starEach es X.env := by rfl) : GM X B Γ (e :: es) (.va x :: ms) :=
  PA_imp (pa_cons h h2 hs) fun σ H Q ⟨S, en, k⟩ => ⟨S, en, fun v S1 H1 t1 h1 => ⟨S1, en.step t1, fun vs S2 H2 t2 h2 => k (v :: vs) S2 H2 (t1.trans t2) ⟨v, vs, rfl, rep_mono t2.s _ _ h1, mix_lv t1.lv h2⟩⟩⟩
theorem gm_o {o : Own} (h : GO X B Γ e o) (h2 : GM X B Γ es ms) (hs : starEach (e :: es) X.env = (false, eval e X.env) :: starEach es X.env := by rfl) : GM X B Γ (e :: es) (.ow none o :: ms) :=
  PA_imp (pa_cons h h2 hs) fun σ H Q ⟨S, en, k⟩ => ⟨S, en, fun l ho S1 H1 t1 n1 n2 q1 q2 => ⟨S1, en.step t1, fun vs S2 H2 t2 h2 => k (.ref l :: vs) S2 H2 (t1.trans t2)
    (by
      have hd : ∀ (j : Nat) (f : Option Addr) (o' : Own), ms[j]? = some (.ow f o') → vs[j]? ≠ some (.ref l) := fun j f o' hj z => by
        obtain ⟨l', z1, z2⟩ := mix_own h2 j f o' hj
        rw [z] at z1; cases z1
        rw [q1] at z2; cases z2
      exact ⟨l, ho, vs, rfl, n1, t2.fr l n2 ⟨_, q1, o.nt _ ho S1 q2, o.nc _ ho S1 q2⟩, t2.h l ho q1 (o.nt _ ho S1 q2), o.mono _ _ _ _ t2.s q2, hd, mix_lv t1.lv h2⟩)⟩⟩
/-- slots set, one behind another -/
def setMs (Γ : List Sl) : List Nat → List Sl → List Sl
  | i :: is, m :: ms => setMs (Γ.set i (match m with | .va x => .va x | .ow _ o => .ow none o | .no => .no)) is ms
  | _, _ => Γ
def setSs (σ : L2.St) : List Nat → List V → L2.St
  | i :: is, v :: vs => setSs (σ.set i (some v)) is vs
  | _, _ => σ
theorem setMs_ok {K : PySem.W.Frag} {S H H0 : Hp} (h0 : ∀ l, H0 l = none → B.H0 l = none) : ∀ {is : List Nat} {ms : List Sl} {vs : List V} {Γ : List Sl} {σ : L2.St}, Env K B Γ σ S H → mix K H0 S H ms vs → is.length = ms.length → (∀ i ∈ is, i < Γ.length) →
    (∀ (j k : Nat) (f g : Option Addr) (o o' : Own) (l : Addr), Γ[j]? = some (.ow f o) → ms[k]? = some (.ow g o') → vs[k]? = some (.ref l) → σ[j]? ≠ some (some (.ref l))) → Env K B (setMs Γ is ms) (setSs σ is vs) S H
  | [], [], _, _, _, en, r, _, _, _ => by
    have r : _ = [] := r
    subst r
    exact en
  | [], _ :: _, _, _, _, _, _, h, _, _ => by simp at h
  | _ :: _, [], _, _, _, _, _, h, _, _ => by simp at h
  | i :: is, .no :: ms, _, Γ, σ, en, h, _, _, _ => h.elim
  | i :: is, .va x :: ms, _, Γ, σ, en, ⟨v, r, e1, e2, e3⟩, h, hi, hd => by
    subst e1
    refine setMs_ok h0 (is := is) (ms := ms) (en.setV (hi i (by simp)) e2) e3 (by simpa using h) (fun j hj => by rw [List.length_set]; exact hi j (by simp [hj])) fun j k f g o o' l h1 h2 h3 => ?_
    rcases getElem?_set_cases h1 with ⟨_, q⟩ | ⟨q1, q2⟩
    · cases q
    · rw [List.getElem?_set_ne q1]
      exact hd j (k + 1) f g o o' l q2 (by simpa using h2) (by simpa using h3)
  | i :: is, .ow g0 o0 :: ms, _, Γ, σ, en, ⟨l0, ho, r, e1, e2, e3, e4, e5, e6, e7⟩, h, hi, hd => by
    subst e1
    refine setMs_ok h0 (is := is) (ms := ms) (en.setO (hi i (by simp)) e3 e4 e5 (h0 l0 e2) fun j f o' hj _ => hd j 0 f g0 o' o0 l0 hj rfl rfl) e7 (by simpa using h) (fun j hj => by rw [List.length_set]; exact hi j (by simp [hj])) fun j k f g o o' l h1 h2 h3 => ?_
    rcases getElem?_set_cases h1 with ⟨q0, q⟩ | ⟨q1, q2⟩
    · subst q0
      intro z
      have hlt : i < σ.length := by rw [← en.len]; exact hi i (by simp)
      rw [List.getElem?_set_self hlt] at z
      cases z
      exact e6 k g o' h2 h3
    · rw [List.getElem?_set_ne q1]
      exact hd j (k + 1) f g o o' l q2 (by simpa using h2) (by simpa using h3)
theorem mix_fresh {S H : Hp} {σ : L2.St} {S' H' : Hp} {vs : List V} (en : Env X.K B Γ σ S H) (m : mix X.K H S' H' ms vs) :
    ∀ (j k : Nat) (f g : Option Addr) (o o' : Own) (l : Addr), Γ[j]? = some (.ow f o) → ms[k]? = some (.ow g o') → vs[k]? = some (.ref l) → σ[j]? ≠ some (some (.ref l)) := fun j k f g o o' l h1 h2 h3 => by
  obtain ⟨l', z1, z2⟩ := mix_own m k g o' h2
  rw [h3] at z1; cases z1
  exact en.hasOwn z2 j f o h1
/-- a, b = e1, e2 -/
theorem gs_par {i j : Nat} {nx ny : Str} {a b : Expr} {m1 m2 : Sl} {px py pt : Pos} {kt k2 pt2} (ha : GM X B Γ [a, b] [m1, m2]) (hc : X.calm = true) (hN : X.N.Nodup) (hi : X.N[i]? = some nx) (hj : X.N[j]? = some ny) (hij : i ≠ j) (hli : i < Γ.length) (hlj : j < Γ.length)
    (hx : X.env.scope.names.lookup nx = some .local) (hy : X.env.scope.names.lookup ny = some .local) 
    (hw : swappedStores [.Tuple [.Name nx px, .Name ny py] kt pt] (.Tuple [a, b] k2 pt2) X.env = pure (some [nx, ny])) (hs : swapsWithSole [.Tuple [.Name nx px, .Name ny py] kt pt] (.Tuple [a, b] k2 pt2) pos.line X.env = pure false := by rfl) :
    GS X B Γ (.Assign [.Tuple [.Name nx px, .Name ny py] kt pt] (.Tuple [a, b] k2 pt2) pos) (setMs Γ [i, j] [m1, m2]) :=
  PS_imp (ps_par hc hN hi hj hij hx hy ha hw hs) fun D σ H ⟨S, en, k⟩ => ⟨S, en, fun vs S1 H1 t1 m => by
    have hl := mix_length m
    match vs, hl, m with
    | [u, v], _, m =>
      refine ⟨u, v, rfl, ?_⟩
      refine k (setSs σ [i, j] [u, v]) S1 H1 (setMs_ok (is := [i, j]) (fun l z => Classical.byContradiction fun n => en.lv l n z) (en.step t1) m rfl (fun q hq => ?_) (mix_fresh en m))
      simp only [List.mem_cons, List.not_mem_nil, or_false] at hq
      rcases hq with rfl | rfl
      · exact hli
      · exact hlj⟩
/-- a, b, c = e1, e2, e3 -/
theorem gs_par3 {i j l : Nat} {nx ny nz : Str} {a b c : Expr} {m1 m2 m3 : Sl} {px py pz pt : Pos} {kt k2 pt2} (ha : GM X B Γ [a, b, c] [m1, m2, m3]) (hc : X.calm = true) (hN : X.N.Nodup) (hi : X.N[i]? = some nx) (hj : X.N[j]? = some ny) (hl : X.N[l]? = some nz) (hij : i ≠ j) (hil : i ≠ l) (hjl : j ≠ l) (hli : i < Γ.length) (hlj : j < Γ.length) (hll : l < Γ.length)
    (hx : X.env.scope.names.lookup nx = some .local) (hy : X.env.scope.names.lookup ny = some .local) (hz : X.env.scope.names.lookup nz = some .local)
    (hw : swappedStores [.Tuple [.Name nx px, .Name ny py, .Name nz pz] kt pt] (.Tuple [a, b, c] k2 pt2) X.env = pure (some [nx, ny, nz])) (hs : swapsWithSole [.Tuple [.Name nx px, .Name ny py, .Name nz pz] kt pt] (.Tuple [a, b, c] k2 pt2) pos.line X.env = pure false := by rfl) :
    GS X B Γ (.Assign [.Tuple [.Name nx px, .Name ny py, .Name nz pz] kt pt] (.Tuple [a, b, c] k2 pt2) pos) (setMs Γ [i, j, l] [m1, m2, m3]) :=
  PS_imp (ps_par3 hc hN hi hj hl hij hil hjl hx hy hz ha hw hs) fun D σ H ⟨S, en, k⟩ => ⟨S, en, fun vs S1 H1 t1 m => by
    have hl := mix_length m
    match vs, hl, m with
    | [u, v, w], _, m =>
      refine ⟨u, v, w, rfl, ?_⟩
      refine k (setSs σ [i, j, l] [u, v, w]) S1 H1 (setMs_ok (is := [i, j, l]) (fun l z => Classical.byContradiction fun n => en.lv l n z) (en.step t1) m rfl (fun q hq => ?_) (mix_fresh en m))
      simp only [List.mem_cons, List.not_mem_nil, or_false] at hq
      rcases hq with rfl | rfl | rfl
      · exact hli
      · exact hlj
      · exact hll⟩
theorem gNs_set {H : Hp} {Q : L2.St → Hp → Prop} : ∀ {is : List Nat} {vs : List V} {σ : L2.St}, is.length = vs.length → Q (setSs σ is vs) H → gNs is vs σ H Q
  | [], [], _, _, k => ⟨rfl, k⟩
  | [], _ :: _, _, h, _ => by simp at h
  | _ :: _, [], _, h, _ => by simp at h
  | i :: is, v :: vs, σ, h, k => ⟨v, vs, rfl, gNs_set (is := is) (vs := vs) (by simpa using h) k⟩
/-- a, b, .. = e1, e2, ..: through a tuple -/
theorem gs_asgM {ts es : List Expr} {is : List Nat} {kk kt2 : Nat} {p p2 : Pos} (h : GM X B Γ es ms) (hz : ms.length ≤ sizeLine) (hg : PGs X ts (gNs is)) (hl : is.length = ms.length) (hi : ∀ i ∈ is, i < Γ.length) (hc : X.calm = true)
    (hn : (assignEach ts X.env).length = ms.length := by rfl) (hst : (assignEach ts X.env).findIdx? (·.1) = none := by rfl)
    (hs : swapsWithSole [.Tuple ts kk p] (.Tuple es kt2 p2) pos.line X.env = pure false := by rfl) (hw : swappedStores [.Tuple ts kk p] (.Tuple es kt2 p2) X.env = pure none := by rfl) (h1 : (assignEach [.Tuple ts kk p] X.env).map (·.2) = [assign (.Tuple ts kk p) X.env] := by rfl) :
    GS X B Γ (.Assign [.Tuple ts kk p] (.Tuple es kt2 p2) pos) (setMs Γ is ms) :=
  PS_imp (ps_asg (pe_tup h) (pg_tup hc hg hn hst) hs hw h1) fun D σ H ⟨S, en, k⟩ => ⟨S, en, fun vs S1 H1 t1 m => ⟨by rw [← mix_length m]; exact hz, fun a ha => ⟨a, vs, rfl, SqT.of upd_same, (mix_length m).symm, by
    have t2 := t1.st.newV ha (o := .tup vs) (fun ps z => by cases z)
    have t3 := t1.trans t2
    refine gNs_set (by rw [hl, mix_length m]) (k _ (upd S1 a (.tup vs)) _ (setMs_ok (fun l z => Classical.byContradiction fun n => en.lv l n z) (en.step t3) (H0 := H) ?_ hl hi ?_))
    · have al : ∀ l, (∃ ho, H1 l = some ho) → l ≠ a := fun l ⟨ho, e⟩ z => by subst z; rw [ha] at e; cases e
      have go : ∀ {ms : List Sl} {vs0 : List V}, mix X.K H S1 H1 ms vs0 → mix X.K H (upd S1 a (.tup vs)) (upd H1 a (.tup vs)) ms vs0 := by
        intro ms
        induction ms with
        | nil => intro vs0 h; exact h
        | cons m ms ih =>
          intro vs0 h
          match m, h with
          | .va x, ⟨v, r, e1, e2, e3⟩ => exact ⟨v, r, e1, rep_mono t2.s _ _ e2, ih e3⟩
          | .ow _ o, ⟨l, ho, r, e1, e2, e3, e4, e5, e6, e7⟩ =>
            have hne := al l ⟨ho, e4⟩
            exact ⟨l, ho, r, e1, e2, by rw [upd_ne hne]; exact e3, by rw [upd_ne hne]; exact e4, o.mono _ _ _ _ t2.s e5, e6, ih e7⟩
      exact go m
    · exact mix_fresh en m⟩⟩⟩
theorem pgN1 {i : Nat} {n : Str} {p : Pos} (hN : X.N.Nodup) (h : X.N[i]? = some n) (hx : Loc X.env.scope n) (hf : X.fn n = true ∨ X.env.scope.names.lookup n = some .local) : PGs X [.Name n p] (gNs [i]) := pgs_cons (pg_name hN h hx hf) pgs_nil
theorem pgNc {i : Nat} {is : List Nat} {n : Str} {p : Pos} {ts : List Expr} (hN : X.N.Nodup) (h : X.N[i]? = some n) (h2 : PGs X ts (gNs is)) (hx : Loc X.env.scope n := by first | exact Or.inl rfl | exact Or.inr rfl) (hf : X.fn n = true ∨ X.env.scope.names.lookup n = some .local := by first | exact .inl rfl | exact .inr rfl)
    (hs : (assignEach (.Name n p :: ts) X.env).map (·.2) = assign (.Name n p) X.env :: (assignEach ts X.env).map (·.2) := by rfl) : PGs X (.Name n p :: ts) (gNs (i :: is)) := pgs_cons (pg_name hN h hx hf) h2 hs
theorem pgN0 : PGs X [] (gNs []) := pgs_nil
theorem allLt {is : List Nat} {n : Nat} (h : (is.all fun i => Nat.blt i n) = true) : ∀ i ∈ is, i < n := fun i hi => by
  have := List.all_eq_true.mp h i hi
  exact Nat.le_of_ble_eq_true this
/-- a, b, .. = a tuple's items -/
theorem gs_unp {ts : List Expr} {is : List Nat} {xs : List Vl} {kk : Nat} {p : Pos} (h : GE X B Γ e (.tup xs)) (hg : PGs X ts (gNs is)) (hc : X.calm = true := by rfl) (hl : is.length = xs.length := by rfl) (hi : (is.all fun i => Nat.blt i Γ.length) = true := by rfl)
    (hn : (assignEach ts X.env).length = xs.length := by rfl) (hst : (assignEach ts X.env).findIdx? (·.1) = none := by rfl)
    (hs : swapsWithSole [.Tuple ts kk p] e pos.line X.env = pure false := by rfl) (hw : swappedStores [.Tuple ts kk p] e X.env = pure none := by rfl) (h1 : (assignEach [.Tuple ts kk p] X.env).map (·.2) = [assign (.Tuple ts kk p) X.env] := by rfl) :
    GS X B Γ (.Assign [.Tuple ts kk p] e pos) (setVs Γ is xs) := gs_asgT h hg hl (allLt hi) hc hn hst hs hw h1
theorem gs_expr {y : Vl} (h : GE X B Γ e y) (hs : swapsWith e none pos.line X.env = pure false := by rfl) : GS X B Γ (.Expr e pos) Γ :=
  PS_imp (ps_expr h hs) fun D σ H ⟨S, en, k⟩ => ⟨S, en, fun v S1 H1 t1 _ => k σ S1 H1 (en.step t1)⟩
theorem hu1 {A : Around} {k : Nat} (hr : Room k A) : A.units + 1 < cLine := by have := hr.un; omega
theorem hu4 {A : Around} {k : Nat} (hr : Room k A) : A.units + 4 < cLine := by have := hr.un; omega
theorem hu9 {A : Around} {k : Nat} (hr : Room k A) : A.units + 9 < cLine := by have := hr.un; omega
theorem hu12 {A : Around} {k : Nat} (hr : Room k A) : A.units + 12 < cLine := by have := hr.un; omega
/-- fewer things known -/
def Wk : List Sl → List Sl → Prop
  | [], [] => True
  | s :: r, t :: r' => (t = .no ∨ t = s) ∧ Wk r r'
  | _, _ => False
theorem Wk.len : ∀ {Γ Γ' : List Sl}, Wk Γ Γ' → Γ'.length = Γ.length
  | [], [], _ => rfl
  | _ :: _, _ :: _, h => by simp [Wk.len h.2]
theorem Wk.at : ∀ {Γ Γ' : List Sl} {i : Nat} {s : Sl}, Wk Γ Γ' → Γ'[i]? = some s → s = .no ∨ Γ[i]? = some s
  | [], [], _, _, _, h => .inr h
  | a :: r, b :: r', 0, s, ⟨h, _⟩, e => by
    simp at e; subst e
    rcases h with h | h
    · exact .inl h
    · exact .inr (by rw [h]; rfl)
  | a :: r, b :: r', i + 1, s, ⟨_, h⟩, e => by
    have := Wk.at (i := i) (s := s) h (by simpa using e)
    simpa using this
theorem Wk.refl : ∀ Γ : List Sl, Wk Γ Γ
  | [] => trivial
  | _ :: r => ⟨.inr rfl, Wk.refl r⟩
theorem Env.weak {K : PySem.W.Frag} {Γ Γ' : List Sl} {σ : L2.St} {S H : Hp} (en : Env K B Γ σ S H) (w : Wk Γ Γ') : Env K B Γ' σ S H where
  st := en.st
  bs := en.bs
  fr := en.fr
  nw := en.nw
  lv := en.lv
  len := by rw [w.len]; exact en.len
  va := fun i x h => by
    rcases w.at h with h | h
    · cases h
    · exact en.va i x h
  ow := fun i f o h => by
    rcases w.at h with h | h
    · cases h
    · exact en.ow i f o h
  dis := fun i j f g o o' l h1 h2 h3 h4 => by
    rcases w.at h1 with h1 | h1
    · cases h1
    rcases w.at h2 with h2 | h2
    · cases h2
    exact en.dis i j f g o o' l h1 h2 h3 h4
section
variable {Γ1 Γ2 : List Sl} {st : List Stmt} {s : Stmt} {y : Vl}
theorem gss_weak (h : GSs X B Γ st Γ1) (w : Wk Γ1 Γ2) : GSs X B Γ st Γ2 := PSs_imp h fun D σ H ⟨S, en, k⟩ => ⟨S, en, fun σ1 S1 H1 e1 => k σ1 S1 H1 (e1.weak w)⟩
theorem gs_weak (h : GS X B Γ s Γ1) (w : Wk Γ1 Γ2) : GS X B Γ s Γ2 := PS_imp h fun D σ H ⟨S, en, k⟩ => ⟨S, en, fun σ1 S1 H1 e1 => k σ1 S1 H1 (e1.weak w)⟩
theorem gss_pre (h : GSs X B Γ1 st Γ2) (w : Wk Γ Γ1) : GSs X B Γ st Γ2 := PSs_imp h fun D σ H ⟨S, en, k⟩ => ⟨S, en.weak w, k⟩
theorem grs_pre (h : GRs X B Γ1 st Γ2 y) (w : Wk Γ Γ1) : GRs X B Γ st Γ2 y := PSs_imp h fun D σ H ⟨S, en, k⟩ => ⟨S, en.weak w, k⟩
theorem gs_to (h : GS X B Γ s Γ1) (e : Γ1 = Γ2) : GS X B Γ s Γ2 := e ▸ h
theorem gss_to (h : GSs X B Γ st Γ1) (e : Γ1 = Γ2) : GSs X B Γ st Γ2 := e ▸ h
end
end
end G
set_option maxHeartbeats 1000000
/-! K1: dicts whose keys are nested tuples. -/
namespace G
open PySem PySem.Spec PyProof.Rows L2 LamX NdefX

/-! ### keys -/
mutual
def toK : Vl → NestedKey
  | .non => .none
  | .bl b => .num (if b then 1 else 0)
  | .int i => .num i
  | .str x => .text x
  | .tup xs => .tup (toKs xs)
  | .tud xs => .tup (toKs xs)
  | .lst _ => .none
  | .ob _ => .none
def toKs : List Vl → List NestedKey
  | [] => []
  | x :: xs => toK x :: toKs xs
end
mutual
def keyable : Vl → Bool
  | .tup xs => keyables xs
  | .tud xs => keyables xs
  | .lst _ => false
  | .ob _ => false
  | _ => true
def keyables : List Vl → Bool
  | [] => true
  | x :: xs => keyable x && keyables xs
end
def keyOk (x : Vl) : Prop := keyable x = true ∧ (toK x).depth ≤ 8
section
variable {X : Cx} {pins : List (Addr × Obj)} {σ : L2.St} {H : Hp} {s : Shared}
mutual
theorem rep_key (I : Inv X pins σ H s) : ∀ (x : Vl) (v : V) (u : Value), keyable x = true → rep X.K H x v → RelV v u → NestedIs s.heap (toK x) u
  | .non, _, u, _, h, r => by have h : _ = _ := h; subst h; have r : u = .none := r; subst r; exact .none
  | .bl b, _, u, _, h, r => by have h : _ = _ := h; subst h; have r : u = .bool b := r; subst r; exact .bool rfl
  | .int i, _, u, _, h, r => by have h : _ = _ := h; subst h; obtain ⟨t, r⟩ := r; subst r; exact .int _ _
  | .str x, _, u, _, h, r => by have h : _ = _ := h; subst h; obtain ⟨t, r⟩ := r; subst r; exact .text _ _
  | .tup xs, _, u, k, ⟨a, vs, e1, e2, e3⟩, r => by
    subst e1
    have r : u = .ref a := r
    subst r
    obtain ⟨its, rv, ⟨o, q1, q2, n, q3⟩, _⟩ := I.tuple e2
    exact .tup q1 q2 q3 (reps_keys I xs vs its k e3 rv)
  | .tud xs, _, u, k, ⟨a, vs, o', e1, e2, _, e3⟩, r => by
    subst e1
    have r : u = .ref a := r
    subst r
    obtain ⟨its, rv, ⟨o, q1, q2, n, q3⟩, _⟩ := I.tuple (.inl (.inr ⟨o', e2⟩))
    exact .tup q1 q2 q3 (reps_keys I xs vs its k e3 rv)
  | .lst _, _, _, k, _, _ => by cases k
  | .ob _, _, _, k, _, _ => by cases k
theorem reps_keys (I : Inv X pins σ H s) : ∀ (xs : List Vl) (vs : List V) (us : List Value), keyables xs = true → reps X.K H xs vs → Vals vs us → NestedAll s.heap (toKs xs) us
  | [], _, us, _, h, r => by have h : _ = _ := h; subst h; cases r; exact .nil
  | x :: xs, _, us, k, ⟨v, t, e1, e2, e3⟩, r => by
    subst e1
    have k : (keyable x && keyables xs) = true := k
    obtain ⟨k1, k2⟩ := Bool.and_eq_true_iff.mp k
    cases r with
    | cons r1 r2 => exact .cons (rep_key I x v _ k1 e2 r1) (reps_keys I xs t _ k2 e3 r2)
end
end

/-! ### the object -/
abbrev Ent := NestedKey × Addr × V
abbrev KN (es : List Ent) (xs : List (NestedKey × Addr × Value)) : Prop := Paired (fun (p : Ent) (q : NestedKey × Addr × Value) => p.1 = q.1 ∧ p.2.1 = q.2.1 ∧ RelV p.2.2 q.2.2) es xs
def kdP (P : Program) (w : World) (a : Addr) (es : List Ent) (h : Heap) : Prop :=
  (a == sysModules) = false ∧ es.length ≤ sizeLine ∧ (es.map (·.1)).Nodup ∧ ∃ xs, KN es xs ∧ ∃ o ar ep, h.get? a = some o ∧ o.ExactDict ∧ o.data = .dict ar ep ∧ ar.toList = xs.map (entryOfKey (nestedKind P w))
def kdH (P : Program) (w : World) (a : Addr) (es : List Ent) : HO := .ext (kdP P w a es)
theorem kdH_tbl {P : Program} {w : World} {a : Addr} {es : List Ent} (ps : Array Value) : kdH P w a es ≠ .tbl ps := fun z => by
  unfold kdH at z; cases z
theorem kdH_code {P : Program} {w : World} {a : Addr} {es : List Ent} (c : Addr) (q : Str) : kdH P w a es ≠ CodeO c q := fun z => by
  unfold kdH CodeO at z
  have z := HO.ext.inj z
  let ob : Obj := { cls := .none, data := .fields #[.none, .str q 0] }
  let h : Heap := { objs := Array.replicate (c + a + 1) ob }
  have hg : ∀ b : Nat, b ≤ c + a → h.get? b = some ob := fun b hb => by
    have e : h.objs[b]? = some ob := by
      show (Array.replicate (c + a + 1) ob)[b]? = some ob
      rw [Array.getElem?_replicate, if_pos (Nat.lt_succ_of_le hb)]
    unfold Heap.get?
    rw [e]
  have hz := congrFun z h
  have : kdP P w a es h := by
    rw [hz]
    exact ⟨ob, _, 0, hg c (Nat.le_add_right _ _), rfl, rfl⟩
  obtain ⟨_, _, _, xs, _, o, ar, ep, h1, _, h2, _⟩ := this
  rw [hg a (Nat.le_add_left _ _)] at h1
  cases h1
  cases h2

def valE (es : List Ent) (k : NestedKey) : Option V := (es.find? fun e => decide (e.1 = k)).map (·.2.2)
def putE (es : List Ent) (k : NestedKey) (a : Addr) (v : V) : List Ent :=
  if es.any (fun e => decide (e.1 = k)) then es.map (fun e => if e.1 = k then (e.1, e.2.1, v) else e) else es ++ [(k, a, v)]
theorem KN.val {es : List Ent} {xs : List (NestedKey × Addr × Value)} (r : KN es xs) (k : NestedKey) : RelO (valE es k) ((atKey xs k).map (·.2)) := by
  induction r with
  | nil => exact True.intro
  | @cons p q ps qs h t ih =>
    obtain ⟨h1, _, h2⟩ := h
    by_cases e : p.1 = k
    · have e' : q.1 = k := h1.symm.trans e
      have b : atKey (q :: qs) k = some q.2 := by simp [atKey, List.find?_cons, e']
      have b2 : valE (p :: ps) k = some p.2.2 := by simp [valE, List.find?_cons, e]
      rw [b2, b]; exact h2
    · have e' : ¬ q.1 = k := fun z => e (h1.trans z)
      have b : atKey (q :: qs) k = atKey qs k := by simp [atKey, List.find?_cons, e']
      have b2 : valE (p :: ps) k = valE ps k := by simp [valE, List.find?_cons, e]
      rw [b2, b]; exact ih
theorem any_val (es : List Ent) (k : NestedKey) : (es.any fun e => decide (e.1 = k)) = (valE es k).isSome := by
  induction es with
  | nil => rfl
  | cons e es ih =>
    by_cases h : e.1 = k
    · simp [valE, List.find?_cons, h]
    · simp only [List.any_cons, decide_eq_false h, Bool.false_or, ih]
      simp [valE, List.find?_cons, h]
theorem KN.keys {es : List Ent} {xs : List (NestedKey × Addr × Value)} (r : KN es xs) : es.map (·.1) = xs.map (·.1) := by
  induction r with
  | nil => rfl
  | cons h t ih => rw [List.map_cons, List.map_cons, h.1, ih]
theorem KN.put {es : List Ent} {xs : List (NestedKey × Addr × Value)} (r : KN es xs) (k : NestedKey) {a : Addr} {v : V} {u : Value} (rv : RelV v u) : KN (putE es k a v) (storedH xs k a u) := by
  have e : (es.any fun e => decide (e.1 = k)) = (atKey xs k).isSome := by
    rw [any_val, (r.val k).isSome_eq, Option.isSome_map]
  unfold putE storedH
  rw [e]
  by_cases q : (atKey xs k).isSome = true
  · rw [if_pos q, if_pos q]
    clear e q
    induction r with
    | nil => exact .nil
    | @cons p q ps qs h t ih =>
      rw [List.map_cons, List.map_cons]
      refine .cons ?_ ih
      unfold putAt
      by_cases z : p.1 = k
      · rw [if_pos z, if_pos (h.1.symm.trans z)]; exact ⟨h.1, h.2.1, rv⟩
      · rw [if_neg z, if_neg (fun y => z (h.1.trans y))]; exact h
  · rw [if_neg q, if_neg q]; exact Paired.snoc r ⟨rfl, rfl, rv⟩
theorem putE_length (es : List Ent) (k : NestedKey) (a : Addr) (v : V) : (putE es k a v).length ≤ es.length + 1 := by
  unfold putE; split
  · rw [List.length_map]; omega
  · simp
theorem putE_keys (es : List Ent) (k : NestedKey) (a : Addr) (v : V) : (putE es k a v).map (·.1) = if (valE es k).isSome then es.map (·.1) else es.map (·.1) ++ [k] := by
  unfold putE
  rw [any_val]
  split
  · rw [List.map_map]
    refine List.map_congr_left fun e _ => ?_
    show (if e.1 = k then (e.1, e.2.1, v) else e).1 = e.1
    split <;> rfl
  · simp
theorem valE_none {es : List Ent} {k : NestedKey} (h : ¬ (valE es k).isSome = true) : k ∉ es.map (·.1) := by
  rw [← any_val] at h
  intro z
  obtain ⟨e, h1, h2⟩ := List.mem_map.mp z
  exact h (List.any_eq_true.mpr ⟨e, h1, decide_eq_true h2⟩)
theorem putE_nodup {es : List Ent} {k : NestedKey} {a : Addr} {v : V} (h : (es.map (·.1)).Nodup) : ((putE es k a v).map (·.1)).Nodup := by
  rw [putE_keys]
  split
  · exact h
  · rename_i z
    rw [List.nodup_append]
    refine ⟨h, by simp, fun x hx y hy => ?_⟩
    simp only [List.mem_singleton] at hy
    subst hy
    intro e
    subst e
    exact valE_none z hx

/-- the keys are there -/
def keyIn (K : PySem.W.Frag) (H : Hp) (k : NestedKey) (b : Addr) : Prop := ∃ x, keyOk x ∧ toK x = k ∧ rep K H x (.ref b)
def EsOk (K : PySem.W.Frag) (H : Hp) (es : List Ent) : Prop := ∀ e ∈ es, keyIn K H e.1 e.2.1
section
variable {X : Cx} {pins : List (Addr × Obj)} {σ : L2.St} {H : Hp} {s : Shared} {a b : Addr} {es : List Ent} {k : NestedKey} {A : Around} {E : Value → Shared → Prop}
theorem key_is (I : Inv X pins σ H s) (h : keyIn X.K H k b) : (nestedKind X.prog X.w).is s.heap k b := by
  obtain ⟨x, h1, h2, h3⟩ := h
  subst h2
  exact ⟨rep_key I x _ _ h1.1 h3 rfl, h1.2⟩
theorem kd_of (I : Inv X pins σ H s) (e : H a = some (kdH X.prog X.w a es)) (ok : EsOk X.K H es) : (a == sysModules) = false ∧ es.length ≤ sizeLine ∧ (es.map (·.1)).Nodup ∧ ∃ xs, KN es xs ∧ s.heap.DictOfH (nestedKind X.prog X.w) a xs := by
  obtain ⟨⟨h1, h2, h3, xs, h4, o, ar, ep, q1, q2, q3, q4⟩, _⟩ := (show ObjOk X.prog X.w H s.heap a (.ext (kdP X.prog X.w a es)) from I.hok a _ e)
  refine ⟨h1, h2, h3, xs, h4, o, ar, ep, q1, q2, q3, q4, fun x hx => ?_, by rw [← h4.keys]; exact h3⟩
  have all : ∀ {l : List Ent} {m : List (NestedKey × Addr × Value)}, KN l m → EsOk X.K H l → ∀ x ∈ m, (nestedKind X.prog X.w).is s.heap x.1 x.2.1 := by
    intro l m r
    induction r with
    | nil => intro _ x hx; cases hx
    | @cons p q ps qs h t ih =>
      intro ok x hx
      rcases List.mem_cons.mp hx with rfl | hx
      · have := key_is I (ok p (.head _))
        rw [h.1, h.2.1] at this
        exact this
      · exact ih (fun e he => ok e (.tail _ he)) x hx
  exact all h4 ok x hx
theorem kd_stable {P : Program} {w : World} (h1 h2 : Heap) (x : kdP P w a es h1) (k : ∀ o, h1.get? a = some o → h2.get? a = some o) : kdP P w a es h2 := by
  obtain ⟨e1, e2, e3, xs, e4, o, ar, ep, q1, q⟩ := x
  exact ⟨e1, e2, e3, xs, e4, o, ar, ep, k _ q1, q⟩
theorem kd_new {P : Program} {w : World} {H' : Hp} {h' : Heap} {xs : List (NestedKey × Addr × Value)} (hd : (a == sysModules) = false) (hl : es.length ≤ sizeLine) (hn : (es.map (·.1)).Nodup) (r : KN es xs) (dd : h'.DictOfH (nestedKind P w) a xs) : ObjOk P w H' h' a (kdH P w a es) := by
  obtain ⟨o, ar, ep, q1, q2, q3, q4, _⟩ := dd
  exact ⟨⟨hd, hl, hn, xs, r, o, ar, ep, q1, q2, q3, q4⟩, ⟨o, q1⟩, fun h1 h2 x k => kd_stable h1 h2 x k⟩
end
end G
set_option maxHeartbeats 1000000
/-! K2: the rules for dicts whose keys are nested tuples. -/
namespace G
open PySem PySem.Spec PyProof.Rows L2 LamX NdefX
section
variable {X : Cx} {pins : List (Addr × Obj)} {σ : L2.St} {H : Hp} {s : Shared} {a b : Addr} {es : List Ent} {k : NestedKey} {v : V} {A : Around} {E : Value → Shared → Prop}
theorem nk_room (hu : A.units + 9 < cLine) : (nestedKind X.prog X.w).room A.in1 := by
  show A.units + 1 + 8 < cLine
  omega
theorem d_getK {Q : Value → Shared → Prop} (hu : A.units + 9 < cLine) (I : Inv X pins σ H s) (e : H a = some (kdH X.prog X.w a es)) (ok : EsOk X.K H es) (kb : keyIn X.K H k b) (hv : valE es k = some v) (h : ∀ w' s', Inv X pins σ H s' → RelV v w' → Q w' s') :
    wpAny (model X.prog X.w) A (getItem (.ref a) (.ref b)) Q E s := by
  obtain ⟨hd, _, _, xs, rel, dd⟩ := kd_of I e ok
  obtain ⟨w', hw, rw'⟩ := RelO.some_of (v := v) (o := (atKey xs k).map (·.2)) (by rw [← hv]; exact rel.val k)
  obtain ⟨p, hp, hp2⟩ := Option.map_eq_some_iff.mp hw
  refine wpAny_getItem_heap (nk_room hu) (key_is I kb) dd hp ?_
  rw [hp2]
  exact h w' _ (I.tok _) rw'
theorem d_inK {Q : Value → Shared → Prop} (hu : A.units + 9 < cLine) (I : Inv X pins σ H s) (e : H a = some (kdH X.prog X.w a es)) (ok : EsOk X.K H es) (kb : keyIn X.K H k b) (h : ∀ s', Inv X pins σ H s' → Q (.bool (valE es k).isSome) s') :
    wpAny (model X.prog X.w) A (compareOp .In (.ref b) (.ref a)) Q E s := by
  obtain ⟨hd, _, _, xs, rel, dd⟩ := kd_of I e ok
  refine wpAny_in_heap (nk_room hu) (key_is I kb) hd dd ?_
  have q := (rel.val k).isSome_eq
  rw [Option.isSome_map] at q
  rw [← q]
  exact h _ (I.tok _)
theorem d_ninK {Q : Value → Shared → Prop} (hu : A.units + 9 < cLine) (I : Inv X pins σ H s) (e : H a = some (kdH X.prog X.w a es)) (ok : EsOk X.K H es) (kb : keyIn X.K H k b) (h : ∀ s', Inv X pins σ H s' → Q (.bool (!(valE es k).isSome)) s') :
    wpAny (model X.prog X.w) A (compareOp .NotIn (.ref b) (.ref a)) Q E s := by
  obtain ⟨hd, _, _, xs, rel, dd⟩ := kd_of I e ok
  refine wpAny_notIn_heap (nk_room hu) (key_is I kb) hd dd ?_
  have q := (rel.val k).isSome_eq
  rw [Option.isSome_map] at q
  rw [← q]
  exact h _ (I.tok _)
theorem d_putK {r : Value} {Q : Unit → Shared → Prop} (hu : A.units + 9 < cLine) (I : Inv X pins σ H s) (e : H a = some (kdH X.prog X.w a es)) (ok : EsOk X.K H es) (kb : keyIn X.K H k b) (hl : es.length < sizeLine) (rv : RelV v r)
    (h : ∀ s', Inv X pins σ (upd H a (kdH X.prog X.w a (putE es k b v))) s' → Q () s') : wpAny (model X.prog X.w) A (setItem (.ref a) (.ref b) r) Q E s := by
  obtain ⟨hd, hz, hn, xs, rel, dd⟩ := kd_of I e ok
  refine wpAny_setItem_heap (hsz := by rw [← Paired.length rel]; exact hz) (nk_room hu) (key_is I kb) dd fun h' dd' hs => h _ ?_
  have he : ∃ q, h'.get? a = some q := let ⟨q, _, _, hq, _⟩ := dd'; ⟨q, hq⟩
  exact d_write I (by rw [e]; exact True.intro) hs he (kd_new hd (by have := putE_length es k b v; omega) (putE_nodup hn) (rel.put k rv) dd')
theorem d_get1K {Q : Value → Shared → Prop} (hu : A.units + 9 < cLine) (I : Inv X pins σ H s) (e : H a = some (kdH X.prog X.w a es)) (ok : EsOk X.K H es) (kb : keyIn X.K H k b) (h : ∀ w' s', Inv X pins σ H s' → RelV ((valE es k).getD .non) w' → Q w' s') :
    wpAny (model X.prog X.w) A (call (.builtin "dict.get") [.ref a, .ref b]) Q E s := by
  obtain ⟨hd, _, _, xs, rel, dd⟩ := kd_of I e ok
  refine call_meetsIn PySem.F.slot_dict_get dd.typeIs PySem.F.entry_dict_get (PySem.F.args_dict_get_2 _ _) (meetsH_dict_get (nestedKind X.prog X.w) a b hd) ⟨nk_room hu, k, xs, key_is I kb, dd, h _ _ (I.tok _) ?_⟩
  exact (rel.val k).getD rfl
theorem kd_type (I : Inv X pins σ H s) (e : H a = some (kdH X.prog X.w a es)) : ∃ o, s.heap.get? a = some o ∧ o.cls = .type "dict" ∧ o.dict = none := by
  obtain ⟨⟨h1, h2, h3, xs, h4, o, ar, ep, q1, q2, q3, q4⟩, _⟩ := (show ObjOk X.prog X.w H s.heap a (.ext (kdP X.prog X.w a es)) from I.hok a _ e)
  exact ⟨o, q1, q2.1, q2.2.1⟩
theorem kd_typeIs (I : Inv X pins σ H s) (e : H a = some (kdH X.prog X.w a es)) : s.TypeIs (.ref a) "dict" := let ⟨o, h1, h2, _⟩ := kd_type I e; ⟨o, h1, h2⟩
end

/-! ### in the G layer -/
def krep (K : PySem.W.Frag) (S : Hp) : List (Vl × Vl) → List Ent → Prop
  | [], es => es = []
  | (x, y) :: r, es => ∃ b v t, es = (toK x, b, v) :: t ∧ keyOk x ∧ rep K S x (.ref b) ∧ rep K S y v ∧ krep K S r t
section
variable {K : PySem.W.Frag} {S S' : Hp}
theorem krep_mono (e : Same S S') : ∀ {kvs : List (Vl × Vl)} {es : List Ent}, krep K S kvs es → krep K S' kvs es
  | [], _, h => h
  | (x, y) :: r, _, ⟨b, v, t, e1, e2, e3, e4, e5⟩ => ⟨b, v, t, e1, e2, rep_mono e _ _ e3, rep_mono e _ _ e4, krep_mono e e5⟩
theorem krep_length : ∀ {kvs : List (Vl × Vl)} {es : List Ent}, krep K S kvs es → kvs.length = es.length
  | [], _, h => by have h : _ = [] := h; subst h; rfl
  | (x, y) :: r, _, ⟨b, v, t, e1, e2, e3, e4, e5⟩ => by subst e1; simp [krep_length e5]
theorem krep_ok : ∀ {kvs : List (Vl × Vl)} {es : List Ent}, krep K S kvs es → EsOk K S es
  | [], _, h => by have h : _ = [] := h; subst h; intro e he; cases he
  | (x, y) :: r, _, ⟨b, v, t, e1, e2, e3, e4, e5⟩ => by
    subst e1
    intro e he
    rcases List.mem_cons.mp he with rfl | he
    · exact ⟨x, e2, rfl, e3⟩
    · exact krep_ok e5 e he
theorem EsOk.mono {es : List Ent} (h : EsOk K S es) (e : Same S S') : EsOk K S' es := fun x hx => let ⟨y, h1, h2, h3⟩ := h x hx; ⟨y, h1, h2, rep_mono e _ _ h3⟩
def lkK (kvs : List (Vl × Vl)) (k : NestedKey) : Option Vl := (kvs.find? fun p => decide (toK p.1 = k)).map (·.2)
def putK2 (kvs : List (Vl × Vl)) (x y : Vl) : List (Vl × Vl) :=
  if kvs.any (fun p => decide (toK p.1 = toK x)) then kvs.map (fun p => if toK p.1 = toK x then (p.1, y) else p) else kvs ++ [(x, y)]
theorem krep_val : ∀ {kvs : List (Vl × Vl)} {es : List Ent} {k : NestedKey}, krep K S kvs es → (∀ y, lkK kvs k = some y → ∃ v, valE es k = some v ∧ rep K S y v) ∧ (lkK kvs k = none → valE es k = none)
  | [], _, k, h => by have h : _ = [] := h; subst h; exact ⟨fun y z => (by cases z), fun _ => rfl⟩
  | (x, y) :: r, _, k, ⟨b, v, t, e1, e2, e3, e4, e5⟩ => by
    subst e1
    by_cases h : toK x = k
    · have h1 : lkK ((x, y) :: r) k = some y := by simp [lkK, List.find?_cons, h]
      have h2 : valE ((toK x, b, v) :: t) k = some v := by simp [valE, List.find?_cons, h]
      rw [h1, h2]
      exact ⟨fun z e => (by cases e; exact ⟨v, rfl, e4⟩), fun z => (by cases z)⟩
    · have h1 : lkK ((x, y) :: r) k = lkK r k := by simp [lkK, List.find?_cons, h]
      have h2 : valE ((toK x, b, v) :: t) k = valE t k := by simp [valE, List.find?_cons, h]
      rw [h1, h2]
      exact krep_val e5
theorem krep_some {kvs : List (Vl × Vl)} {es : List Ent} {k : NestedKey} (h : krep K S kvs es) : (valE es k).isSome = (lkK kvs k).isSome := by
  obtain ⟨h1, h2⟩ := krep_val (k := k) h
  cases e : lkK kvs k with
  | none => rw [h2 e]; rfl
  | some y => obtain ⟨v, q, _⟩ := h1 y e; rw [q]; rfl
theorem krep_any : ∀ {kvs : List (Vl × Vl)} {es : List Ent} {k : NestedKey}, krep K S kvs es → (es.any fun e => decide (e.1 = k)) = kvs.any fun p => decide (toK p.1 = k)
  | [], _, k, h => by have h : _ = [] := h; subst h; rfl
  | (x, y) :: r, _, k, ⟨b, v, t, e1, e2, e3, e4, e5⟩ => by
    subst e1
    rw [List.any_cons, List.any_cons, krep_any e5]
theorem krep_app {kvs : List (Vl × Vl)} {es : List Ent} {x y : Vl} {b : Addr} {v : V} : krep K S kvs es → keyOk x → rep K S x (.ref b) → rep K S y v → krep K S (kvs ++ [(x, y)]) (es ++ [(toK x, b, v)]) := by
  induction kvs generalizing es with
  | nil =>
    intro h hk hb hv
    have h : es = [] := h
    subst h
    exact ⟨b, v, [], rfl, hk, hb, hv, rfl⟩
  | cons p kvs ih =>
    obtain ⟨x0, y0⟩ := p
    rintro ⟨b0, v0, t, e1, e2, e3, e4, e5⟩ hk hb hv
    subst e1
    exact ⟨b0, v0, _, rfl, e2, e3, e4, ih e5 hk hb hv⟩
theorem krep_repl {kvs : List (Vl × Vl)} {es : List Ent} {k : NestedKey} {y : Vl} {v : V} (hv : rep K S y v) : krep K S kvs es → krep K S (kvs.map fun p => if toK p.1 = k then (p.1, y) else p) (es.map fun e => if e.1 = k then (e.1, e.2.1, v) else e) := by
  induction kvs generalizing es with
  | nil => intro h; have h : es = [] := h; subst h; rfl
  | cons p kvs ih =>
    obtain ⟨x0, y0⟩ := p
    rintro ⟨b0, v0, t, e1, e2, e3, e4, e5⟩
    subst e1
    rw [List.map_cons, List.map_cons]
    by_cases h : toK x0 = k
    · rw [if_pos h, if_pos h]; exact ⟨b0, v, _, rfl, e2, e3, hv, ih e5⟩
    · rw [if_neg h, if_neg h]; exact ⟨b0, v0, _, rfl, e2, e3, e4, ih e5⟩
theorem krep_put {kvs : List (Vl × Vl)} {es : List Ent} {x y : Vl} {b : Addr} {v : V} (h : krep K S kvs es) (hk : keyOk x) (hb : rep K S x (.ref b)) (hv : rep K S y v) : krep K S (putK2 kvs x y) (putE es (toK x) b v) := by
  unfold putK2 putE
  rw [krep_any h]
  split
  · exact krep_repl hv h
  · exact krep_app h hk hb hv
end
/-- a dict of one's own -/
def owK (P : Program) (w : World) (K : PySem.W.Frag) (kvs : List (Vl × Vl)) : Own where
  r := fun l o H => ∃ es, o = kdH P w l es ∧ krep K H kvs es
  mono := fun _ _ _ _ e ⟨es, h1, h2⟩ => ⟨es, h1, krep_mono e h2⟩
  nt := fun _ o H ⟨es, h1, _⟩ ps z => by rw [h1] at z; exact kdH_tbl ps z
  nc := fun _ o H ⟨es, h1, _⟩ c q z => by rw [h1] at z; exact kdH_code c q z
/-- a dict as a value -/
def dkO (P : Program) (w : World) (K : PySem.W.Frag) (kvs : List (Vl × Vl)) : Ob where
  p := fun v H => ∃ l es, v = .ref l ∧ H l = some (kdH P w l es) ∧ krep K H kvs es
  mono := fun v H H' e ⟨l, es, h1, h2, h3⟩ => ⟨l, es, h1, e _ _ h2, krep_mono e h3⟩
abbrev dkV (P : Program) (w : World) (K : PySem.W.Frag) (kvs : List (Vl × Vl)) : Vl := .ob (dkO P w K kvs)
theorem owK_dkV {P : Program} {w : World} {K : PySem.W.Frag} {kvs : List (Vl × Vl)} (l : Addr) (ho : HO) (S S' : Hp) (sm : Same S S') (h : S' l = some ho) (r : (owK P w K kvs).r l ho S) : rep K S' (dkV P w K kvs) (.ref l) := by
  obtain ⟨es, e1, e2⟩ := r
  subst e1
  exact ⟨l, es, rfl, h, krep_mono sm e2⟩
/-- an expression that stands for a dict that is there already -/
def tD (X : Cx) (B : Bs) (Γ : List Sl) (kvs : List (Vl × Vl)) : TE := fun σ H Q => ∃ S, Env X.K B Γ σ S H ∧ ∀ l es S' H', Stp B.T S H S' H' → H' l = some (kdH X.prog X.w l es) → krep X.K S' kvs es → Q (.ref l) H'
abbrev GD (X : Cx) (B : Bs) (Γ : List Sl) (e : Expr) (kvs : List (Vl × Vl)) : Prop := PE X e (tD X B Γ kvs)
section
variable {X : Cx} {B : Bs} {Γ Γ' : List Sl} {x y z : Vl} {a b c e d : Expr} {pos : Pos} {kvs : List (Vl × Vl)}
theorem gd_own (i : Nat) {f : Option Addr} {n : Str} {p : Pos} (hg : Γ[i]? = some (.ow f (owK X.prog X.w X.K kvs)) := by rfl) (hN : X.N[i]? = some n := by rfl) (hv : Vis X.env.scope n := by first | exact Or.inl rfl | exact Or.inr (Or.inl rfl) | exact Or.inr (Or.inr rfl)) (hd : (n == ("__debug__" : Str)) = false := by decide) (hcd : (n == ("__classdict__" : Str)) = false := by decide) : GD X B Γ (.Name n p) kvs :=
  PE_imp (pe_var hN hv hd hcd) fun σ H Q ⟨S, en, k⟩ => by
    obtain ⟨l, ho, h1, _, _, h2, ⟨es, e1, e2⟩, _⟩ := en.ow i f _ hg
    subst e1
    exact ⟨.ref l, h1, k l es S H en.st.refl h2 e2⟩
theorem gd_val (h : GE X B Γ e (dkV X.prog X.w X.K kvs)) : GD X B Γ e kvs :=
  PE_imp h fun σ H Q ⟨S, en, k⟩ => ⟨S, en, fun v S' H' t ⟨l, es, e1, e2, e3⟩ => by
    subst e1
    exact k l es S' H' t (t.st.sub _ _ e2) e3⟩
theorem gd_v (i : Nat) {n : Str} {p : Pos} (hg : Γ[i]? = some (.va (dkV X.prog X.w X.K kvs)) := by rfl) (hN : X.N[i]? = some n := by rfl) (hv : Vis X.env.scope n := by first | exact Or.inl rfl | exact Or.inr (Or.inl rfl) | exact Or.inr (Or.inr rfl)) (hd : (n == ("__debug__" : Str)) = false := by decide) (hcd : (n == ("__classdict__" : Str)) = false := by decide) : GD X B Γ (.Name n p) kvs := gd_val (ge_var hg hN hv hd hcd)
theorem kd_keep {S H S' H' : Hp} {T : List NTab} (t : Stp T S H S' H') {l : Addr} {es : List Ent} (h : H l = some (kdH X.prog X.w l es)) : H' l = some (kdH X.prog X.w l es) := t.h l _ h (fun ps z => kdH_tbl ps z)
theorem rep_ref {S : Hp} {v : V} (hk : keyOk x) (ht : ∃ xs, x = .tup xs ∨ x = .tud xs) (h : rep X.K S x v) : ∃ b, v = .ref b := by
  obtain ⟨xs, rfl | rfl⟩ := ht
  · obtain ⟨a, _, e, _⟩ := h; exact ⟨a, e⟩
  · obtain ⟨a, _, _, e, _⟩ := h; exact ⟨a, e⟩
def isTu (x : Vl) : Prop := ∃ xs, x = .tup xs ∨ x = .tud xs
def rInK (P : Program) (w : World) (K : PySem.W.Frag) (neg : Bool) : R2 := fun y d H Q => ∃ a b es k, d = .ref a ∧ y = .ref b ∧ H a = some (kdH P w a es) ∧ EsOk K H es ∧ keyIn K H k b ∧ Q (.bl (neg ^^ (valE es k).isSome)) H
theorem op_inK (hu : X.A.units + 9 < cLine) : OpR X (compareOp .In) (rInK X.prog X.w X.K false) := fun pins s σ H y d v u Q I ry rd ⟨a, b, es, k, e1, e2, h1, h2, h3, q⟩ => by
  subst e1 e2
  have ry : v = .ref b := ry
  have rd : u = .ref a := rd
  subst ry rd
  exact d_inK hu I h1 h2 h3 fun s' I' => ⟨.bl (valE es k).isSome, H, I', rfl, by rw [Bool.false_xor] at q; exact q⟩
theorem op_ninK (hu : X.A.units + 9 < cLine) : OpR X (compareOp .NotIn) (rInK X.prog X.w X.K true) := fun pins s σ H y d v u Q I ry rd ⟨a, b, es, k, e1, e2, h1, h2, h3, q⟩ => by
  subst e1 e2
  have ry : v = .ref b := ry
  have rd : u = .ref a := rd
  subst ry rd
  exact d_ninK hu I h1 h2 h3 fun s' I' => ⟨.bl (!(valE es k).isSome), H, I', rfl, by rw [Bool.true_xor] at q; exact q⟩
theorem in_imp {neg : Bool} {σ : L2.St} {H : Hp} {Q : VK} (hk : keyOk x) (ht : isTu x) : tG X.K B Γ (.bl (neg ^^ (lkK kvs (toK x)).isSome)) σ H Q → tOp (rInK X.prog X.w X.K neg) (tG X.K B Γ x) (tD X B Γ kvs) σ H Q := fun ⟨S, en, k⟩ =>
  ⟨S, en, fun v S1 H1 t1 h1 => ⟨S1, en.step t1, fun l es S2 H2 t2 h2 h3 => by
    obtain ⟨b, eb⟩ := rep_ref hk ht h1
    subst eb
    refine ⟨l, b, es, toK x, rfl, rfl, h2, (krep_ok h3).mono t2.st.sub, ⟨x, hk, rfl, rep_mono (t2.s.trans t2.st.sub) _ _ h1⟩, ?_⟩
    exact k _ S2 H2 (t1.trans t2) (by rw [krep_some h3]; rfl)⟩⟩
theorem ge_inD (ha : GE X B Γ a x) (hd : GD X B Γ d kvs) (hk : keyOk x) (ht : isTu x) (hu : X.A.units + 9 < cLine) (hm : behindInMarks .In d = false := by rfl) : GE X B Γ (.Compare a [.In] [d] pos) (.bl (lkK kvs (toK x)).isSome) :=
  PE_imp (pe_cmpR (op_inK hu) ha hd hm) fun σ H Q q => in_imp hk ht (by rw [Bool.false_xor]; exact q)
theorem gt_inD (ha : GE X B Γ a x) (hd : GD X B Γ d kvs) (hk : keyOk x) (ht : isTu x) (hu : X.A.units + 9 < cLine) (hm : behindInMarks .In d = false := by rfl) : GT X B Γ (.Compare a [.In] [d] pos) (lkK kvs (toK x)).isSome :=
  PT_imp (pt_cmpR (op_inK hu) ha hd hm) fun σ H Q ⟨S, en, k⟩ => in_imp hk ht ⟨S, en, fun v S' H' t h => ⟨(lkK kvs (toK x)).isSome, by rw [Bool.false_xor] at h; exact h, k S' H' t⟩⟩
theorem gt_niD (ha : GE X B Γ a x) (hd : GD X B Γ d kvs) (hk : keyOk x) (ht : isTu x) (hu : X.A.units + 9 < cLine) (hm : behindInMarks .NotIn d = false := by rfl) : GT X B Γ (.Compare a [.NotIn] [d] pos) (!(lkK kvs (toK x)).isSome) :=
  PT_imp (pt_cmpR (op_ninK hu) ha hd hm) fun σ H Q ⟨S, en, k⟩ => in_imp hk ht ⟨S, en, fun v S' H' t h => ⟨!(lkK kvs (toK x)).isSome, by rw [Bool.true_xor] at h; exact h, k S' H' t⟩⟩
/-- d[k] -/
theorem ge_ixD (hd : GD X B Γ d kvs) (ha : GE X B Γ a x) (hk : keyOk x) (ht : isTu x) (hu : X.A.units + 9 < cLine) (hy : lkK kvs (toK x) = some y) (hs : NoSl a := by exact fun _ _ => rfl) : GE X B Γ (.Subscript d a pos) y := by
  refine ⟨fun pins s σ H Q I h => ?_⟩
  obtain ⟨S, en, q⟩ := h
  refine subD_of PySem.F.slot_dict_getitem.lookup hs (thn (hd.run pins s σ H (fun xd H1 => ∃ l es S1, xd = V.ref l ∧ Stp B.T S H S1 H1 ∧ H1 l = some (kdH X.prog X.w l es) ∧ krep X.K S1 kvs es) I ⟨S, en, fun l es S1 H1 t1 h1 h2 => ⟨l, es, S1, rfl, t1, h1, h2⟩⟩) fun u s1 ⟨xd, H1, I1, rx, l, es, S1, ex, t1, h1, h2⟩ => thn (ha.run pins s1 σ H1 (fun v H2 => ∃ S2, Stp B.T S1 H1 S2 H2 ∧ rep X.K S2 x v) I1 ⟨S1, en.step t1, fun v S2 H2 t2 h3 => ⟨S2, t2, h3⟩⟩) fun iv s2 ⟨yv, H2, I2, ry, S2, t2, h3⟩ => ?_)
  subst ex
  obtain rfl : u = Value.ref l := rx
  obtain ⟨b, eb⟩ := rep_ref hk ht h3
  subst eb
  obtain rfl : iv = Value.ref b := ry
  have h1' := kd_keep (X := X) t2 h1
  have h2' := krep_mono t2.s h2
  obtain ⟨v, q1, q2⟩ := (krep_val h2').1 y hy
  exact ⟨kd_typeIs I2 h1', d_getK hu I2 h1' ((krep_ok h2').mono t2.st.sub) ⟨x, hk, rfl, rep_mono t2.st.sub _ _ h3⟩ q1 fun w' s3 I3 rw' => ⟨v, H2, I3, rw', q v S2 H2 (t1.trans t2) q2⟩⟩
/-- d.get(k) -/
theorem ge_getD {apos : Pos} (hd : GD X B Γ d kvs) (ha : GE X B Γ a x) (hk : keyOk x) (ht : isTu x) (hu : X.A.units + 9 < cLine) (hy : lkK kvs (toK x) = some y) (m : M1 X d "get" apos a pos) : GE X B Γ (.Call (.Attribute d "get" apos) [a] [] pos) y := by
  refine ⟨fun pins s σ H Q I h => ?_⟩
  obtain ⟨S, en, q⟩ := h
  refine wpAny_Call_method m.base m.few m.line PySem.F.plainAttrs_dict PySem.F.slot_dict_get PySem.F.type_dict_get (thn (hd.run pins s σ H (fun xd H1 => ∃ l es S1, xd = V.ref l ∧ Stp B.T S H S1 H1 ∧ H1 l = some (kdH X.prog X.w l es) ∧ krep X.K S1 kvs es) I ⟨S, en, fun l es S1 H1 t1 h1 h2 => ⟨l, es, S1, rfl, t1, h1, h2⟩⟩) fun u s1 ⟨xd, H1, I1, rx, l, es, S1, ex, t1, h1, h2⟩ => ?_)
  subst ex
  obtain rfl : u = Value.ref l := rx
  obtain ⟨o, o1, o2, o3⟩ := kd_type I1 h1
  refine ⟨⟨o, o1, o2⟩, fun a' e => by cases e; exact ⟨o, o1, o3⟩, ?_⟩
  rw [m.trees]
  refine Calls.callWith_builtin rfl (Calls.evalArgs_plain (Calls.spliced_cons (thn (ha.run pins s1 σ H1 (fun v H2 => ∃ S2, Stp B.T S1 H1 S2 H2 ∧ rep X.K S2 x v) I1 ⟨S1, en.step t1, fun v S2 H2 t2 h3 => ⟨S2, t2, h3⟩⟩) fun iv s2 ⟨yv, H2, I2, ry, S2, t2, h3⟩ => Calls.spliced_nil ?_)))
  obtain ⟨b, eb⟩ := rep_ref hk ht h3
  subst eb
  obtain rfl : iv = Value.ref b := ry
  have h1' := kd_keep (X := X) t2 h1
  have h2' := krep_mono t2.s h2
  obtain ⟨v, q1, q2⟩ := (krep_val h2').1 y hy
  exact d_get1K hu I2 h1' ((krep_ok h2').mono t2.st.sub) ⟨x, hk, rfl, rep_mono t2.st.sub _ _ h3⟩ fun w' s3 I3 rw' => ⟨v, H2, I3, by rw [q1] at rw'; exact rw', q v S2 H2 (t1.trans t2) q2⟩
end
end G
set_option maxHeartbeats 1000000
/-! K3: making and writing dicts whose keys are nested tuples. -/
namespace G
open PySem PySem.Spec PyProof.Rows L2 LamX NdefX
theorem Stp.over {T : List NTab} {S0 H0 S H : Hp} {D : Addr} {o : HO} (t : Stp T S0 H0 S H) (h0 : H0 D = none) (hS : S D = none) (hD : H D = some o) (nt : ∀ ps, o ≠ .tbl ps) (nc : ∀ c q, o ≠ CodeO c q) (o' : HO) : Stp T S0 H0 S (upd H D o') := by
  refine ⟨⟨fun c u e => ?_, fun p hp => ?_, t.st.nt⟩, t.s, fun c u e n => ?_, t.fr, fun c h => upd_lv (t.lv c h)⟩
  · rw [upd_ne (ne_of_none e hS)]; exact t.st.sub _ _ e
  · obtain ⟨ps, t1, t2, t3⟩ := t.st.tb p hp
    refine ⟨ps, ?_, t2, fun pos cv hc => ?_⟩
    · rw [upd_ne]
      · exact t1
      · intro z; rw [z, hD] at t1; exact nt _ (Option.some.inj t1)
    · obtain ⟨c, e1, e2⟩ := t3 pos cv hc
      refine ⟨c, e1, ?_⟩
      rw [upd_ne]
      · exact e2
      · intro z; rw [z, hD] at e2; exact nc _ _ (Option.some.inj e2)
  · rw [upd_ne (ne_of_none e h0)]; exact t.h c u e n
section
variable {P : Program} {w : World}
theorem kd_empty {H : Hp} (h : Heap) (hb : sysModules < h.objs.size) : ObjOk P w H (h.push { cls := .type "dict", data := .dict #[] }) h.objs.size (kdH P w h.objs.size []) :=
  kd_new (xs := []) (beq_eq_false_iff_ne.mpr (Ne.symm (Nat.ne_of_lt hb))) (Nat.zero_le _) List.nodup_nil .nil (Heap.DictOfH.new h)
end
section
variable {prog : Program} {w : World} {Kk : Type} [DecidableEq Kk] {knd : HeapKind prog w Kk} {A : Around} {E : Value → Shared → Prop} {s : Shared}
theorem wpAny_Dict_ents {env : PySem.Env} {keys : List (Option Expr)} {values : List Expr} {pos : Pos} {pairs : List (Sem Value × Sem Value)} {Q : Value → Shared → Prop} (hu : knd.room A)
    (hshape : (evalEachOpt keys env).zip ((evalEach values env).map fun v => do let x ← v; standAt pos; pure x) = pairs.map fun p => (some p.1, p.2)) (h0 : pairs ≠ []) (hlen : pairs.length ≤ 15)
    (h : wpAny (model prog w) A (evalPairs pairs) (fun vs s₁ => ∃ ps, CarriesH knd s₁.heap vs ps ∧ s₁.heap.DictOfH knd s.heap.objs.size [] ∧
      ∀ h' tk, h'.DictOfH knd s.heap.objs.size (storedAllH [] ps) → Heap.SameBut s.heap.objs.size s₁.heap h' → Q (.ref s.heap.objs.size) { s₁ with heap := h', toks := tk }) E
      { s with heap := s.heap.push { cls := .type "dict", data := .dict #[] } }) :
    wpAny (model prog w) A (eval (.Dict keys values pos) env) Q E s := by
  rw [arm_eval_Dict, hshape, dictDisplay_pairs pairs h0 (by omega)]
  exact wpAny_bind (wpAny_standAt (wpAny_bind (wpAny_subDictH (knd := knd) (Q := fun d s' => wpAny (model prog w) A (pure (Value.ref d)) Q E s') hu hlen
    (wpAny_mono h (fun vs s₁ h₁ => by obtain ⟨ps, hc, hm, hq⟩ := h₁; exact ⟨ps, hc, hm, fun h' tk a b => wpAny_pure (hq h' tk a b)⟩) fun _ _ e => e))))
end
section
variable {X : Cx} {B : Bs} {Γ Γ' : List Sl} {x y z : Vl} {a b c e d : Expr} {pos : Pos} {kvs : List (Vl × Vl)}
theorem go_dict0 : GO X B Γ (.Dict [] [] pos) (owK X.prog X.w X.K []) := ⟨fun pins s σ H Q I ⟨S, en, k⟩ => by
  have hp := I.hok.fresh (Nat.le_refl s.heap.objs.size)
  refine wpAny_Dict_empty ⟨.ref s.heap.objs.size, _, I.laid (a := s.heap.objs.size) (o := kdH X.prog X.w s.heap.objs.size []) (t' := s.toks) (fun _ _ q => Heap.get?_push_of_some _ q) (Nat.le_refl _) (kd_empty s.heap I.big), rfl, ?_⟩
  exact k _ _ S _ (en.st.newO hp) hp (sta_none en.st hp) upd_same ⟨[], rfl, rfl⟩⟩
theorem go_dict1 (hk : GE X B Γ a x) (hv : GE X B Γ b y) (kx : keyOk x) (ht : isTu x) (hu : X.A.units + 9 < cLine) : GO X B Γ (.Dict [some a] [b] pos) (owK X.prog X.w X.K [(x, y)]) := ⟨fun pins s σ H Q I ⟨S, en, k⟩ => by
  have hp := I.hok.fresh (Nat.le_refl s.heap.objs.size)
  have I1 := I.laid (a := s.heap.objs.size) (o := kdH X.prog X.w s.heap.objs.size []) (t' := s.toks) (h' := s.heap.push { cls := .type "dict", data := .dict #[] }) (fun _ _ q => Heap.get?_push_of_some _ q) (Nat.le_refl _) (kd_empty s.heap I.big)
  have t0 : Stp B.T S H S (upd H s.heap.objs.size (kdH X.prog X.w s.heap.objs.size [])) := en.st.newO hp
  refine wpAny_Dict_ents (knd := nestedKind X.prog X.w) (pairs := pairTrees [some a] [b] X.env pos) (by show X.A.units + 8 < cLine; omega) (zip_pairTrees [some a] [b] X.env pos rfl rfl) (by intro z; have := pairTrees_length [some a] [b] X.env pos rfl rfl; rw [z] at this; simp at this)
    (by have := pairTrees_length [some a] [b] X.env pos rfl rfl; rw [this]; simp) ?_
  refine pairTrees_cons_walk (thn (hk.run pins _ σ _ (fun v H1 => ∃ S1, Stp B.T S (upd H s.heap.objs.size (kdH X.prog X.w s.heap.objs.size [])) S1 H1 ∧ rep X.K S1 x v) I1 ⟨S, en.step t0, fun v S1 H1 t1 h1 => ⟨S1, t1, h1⟩⟩) fun u s1 ⟨v1, H1, I1, r1, S1, t1, h1⟩ =>
    thn (hv.run pins s1 σ H1 (fun v H2 => ∃ S2, Stp B.T S1 H1 S2 H2 ∧ rep X.K S2 y v) I1 ⟨S1, (en.step t0).step t1, fun v S2 H2 t2 h2 => ⟨S2, t2, h2⟩⟩) fun u2 s2 ⟨v2, H2, I2, r2, S2, t2, h2⟩ => pairTrees_nil_walk ?_)
  obtain ⟨bb, eb⟩ := rep_ref kx ht h1
  subst eb
  obtain rfl : u = Value.ref bb := r1
  have tt := (t0.trans t1).trans t2
  have hD : H2 s.heap.objs.size = some (kdH X.prog X.w s.heap.objs.size []) := (t1.trans t2).h _ _ upd_same (fun ps z => kdH_tbl ps z)
  have hk2 : keyIn X.K H2 (toK x) bb := ⟨x, kx, rfl, rep_mono (t2.s.trans t2.st.sub) _ _ h1⟩
  have hki := key_is I2 hk2
  obtain ⟨hd, hz, hn, xs, rel, dd⟩ := kd_of I2 hD (fun e he => by cases he)
  cases rel
  refine ⟨[(toK x, bb, u2)], ⟨rfl, rfl, hki, True.intro⟩, dd, fun h' tk dd' hs => ?_⟩
  have hS : S2 s.heap.objs.size = none := (t1.trans t2).fr _ (sta_none en.st hp) ⟨_, upd_same, (fun ps z => kdH_tbl ps z), (fun c q z => kdH_code c q z)⟩
  have he : ∃ q, h'.get? s.heap.objs.size = some q := let ⟨q, _, _, hq, _⟩ := dd'; ⟨q, hq⟩
  have dd2 : h'.DictOfH (nestedKind X.prog X.w) s.heap.objs.size [(toK x, bb, u2)] := dd'
  have I3 := d_write (t' := tk) I2 (by rw [hD]; exact True.intro) hs he (kd_new (es := [(toK x, bb, v2)]) (P := X.prog) (w := X.w) (H' := upd H2 s.heap.objs.size (kdH X.prog X.w s.heap.objs.size [(toK x, bb, v2)])) hd (Nat.le_of_ble_eq_true rfl) (by simp) (.cons ⟨rfl, rfl, r2⟩ .nil) dd2)
  refine ⟨.ref s.heap.objs.size, _, I3, rfl, k _ _ S2 _ (tt.over hp hS hD (fun ps z => kdH_tbl ps z) (fun c q z => kdH_code c q z) _) hp hS upd_same ⟨_, rfl, bb, v2, [], rfl, kx, rep_mono t2.s _ _ h1, h2, rfl⟩⟩⟩
/-- len(d) -/
theorem ge_lenD {p : Pos} (Gm : Gf X.mg) (hd : GD X B Γ d kvs) (hg : Gl X "len" := by rfl) (hs : starEach [d] X.env = (false, eval d X.env) :: starEach [] X.env := by rfl) : GE X B Γ (.Call (.Name "len" p) [d] [] pos) (.int kvs.length) := by
  have hc : CallR X (.builtin "len") (fun xs H Q => ∃ l es, xs = [.ref l] ∧ H l = some (kdH X.prog X.w l es) ∧ EsOk X.K H es ∧ Q (.int es.length) H) := fun pins s σ H xs us Q I r ⟨l, es, e1, h1, h2, q⟩ => by
    subst e1
    obtain ⟨u, eu, rx⟩ := vals1 r
    subst eu
    cases rx
    obtain ⟨hd, hz, hn, ys, rel, dd⟩ := kd_of I h1 h2
    obtain ⟨es', ep, hr, hs', _⟩ := dd.raw
    refine Calls.call_function_entry kind_len plain_len entry_len (args_len1 _) ?_
    unfold Builtin.«len»
    refine wpAny_bind (m := oneArg "len" _) (wpAny_pure ?_)
    refine wpAny_bind (m := callSpecial? (.ref l) (Str.ofString "__len__")) (wpAny_callSpecial?_slot (name := Str.ofString "__len__") dd.typeIs F.slot_dict_len (call_len_raw hd hr ?_))
    have hl : es'.size = es.length := by rw [hs', ← Paired.length rel]
    rw [hl]
    have hz' : es.length ≤ 1000000000000 := by rw [sizeLine_eq] at hz; omega
    refine wpAny_bind (wpAny_holding (wpAny_pure ?_))
    refine wpAny_bind (wpAny_letGo ?_)
    show wpAny _ _ (if ((es.length : Nat) : Int) < 0 then _ else _) _ _ _
    rw [if_neg (by omega)]
    show wpAny _ _ (if ((es.length : Nat) : Int) ≥ 2 ^ 63 then _ else _) _ _ _
    rw [if_neg (by omega)]
    exact wpAny_bind (wpAny_mkInt (wpAny_pure ⟨_, rfl, ⟨.int es.length, H, I.tok _, ⟨_, rfl⟩, q⟩⟩))
  refine PE_imp (pe_callB hc hg Gm.len PySem.boot_len (pa_cons hd pa_nil hs) (by decide) (by decide) hs rfl) fun σ H Q ⟨S, en, k⟩ => ⟨S, en, fun l es S1 H1 t1 h1 h2 => ?_⟩
  exact ⟨l, es, rfl, h1, (krep_ok h2).mono t1.st.sub, k _ S1 H1 t1 (by rw [krep_length h2]; rfl)⟩
/-- d[k] = v, d one's own -/
theorem gs_putD {i : Nat} {f : Option Addr} {n : Str} {np p' : Pos} (hi : Γ[i]? = some (.ow f (owK X.prog X.w X.K kvs))) (hN : X.N[i]? = some n) (hv : Vis X.env.scope n) (hval : GE X B Γ b y) (hkey : GE X B Γ a x) (kx : keyOk x) (ht : isTu x) (hu : X.A.units + 9 < cLine) (hl : kvs.length < sizeLine) (hw : ∀ l, f = some l → l ∈ B.L0)
    (hs : swapsWith b (some (.Subscript (.Name n np) a p')) pos.line X.env = pure false := by rfl) (hd : (n == ("__debug__" : Str)) = false := by decide) (hcd : (n == ("__classdict__" : Str)) = false := by decide) :
    GS X B Γ (.Assign [.Subscript (.Name n np) a p'] b pos) (Γ.set i (.ow f (owK X.prog X.w X.K (putK2 kvs x y)))) := ⟨fun pins s σ H D I ⟨S, en, k⟩ => by
  refine wpAny_Assign_Subscript (thn (hval.run pins s σ H (fun v H1 => ∃ S1, Stp B.T S H S1 H1 ∧ rep X.K S1 y v) I ⟨S, en, fun v S1 H1 t1 h1 => ⟨S1, t1, h1⟩⟩) fun r s1 ⟨v, H1, I1, rv, S1, t1, h1⟩ => ?_) hs
  have en1 := en.step t1
  obtain ⟨l, ho, o1, o2, o3, o4, ⟨es, e1, e2⟩, o6⟩ := en1.ow i f _ hi
  subst e1
  refine thn ((pe_var hN hv hd hcd).run pins s1 σ H1 (fun v H2 => v = .ref l ∧ H2 = H1) I1 ⟨.ref l, o1, rfl, rfl⟩) fun u s2 ⟨xv, H2, I2, rx, ex, eH⟩ => ?_
  subst ex eH
  obtain rfl : u = Value.ref l := rx
  refine thn (hkey.run pins s2 σ H2 (fun v H3 => ∃ S3, Stp B.T S1 H2 S3 H3 ∧ rep X.K S3 x v) I2 ⟨S1, en1, fun v S3 H3 t3 h3 => ⟨S3, t3, h3⟩⟩) fun iv s3 ⟨xk, H3, I3, ry, S3, t3, h3⟩ => ?_
  obtain ⟨bb, eb⟩ := rep_ref kx ht h3
  subst eb
  obtain rfl : iv = Value.ref bb := ry
  have e2' := krep_mono t3.s e2
  have hl3 : es.length < sizeLine := by rw [← krep_length e2]; exact hl
  have hD := kd_keep (X := X) t3 o4
  refine d_putK hu I3 hD ((krep_ok e2').mono t3.st.sub) ⟨x, kx, rfl, rep_mono t3.st.sub _ _ h3⟩ hl3 rv fun s4 I4 => ⟨σ, _, I4, ?_⟩
  exact k σ S3 _ ((en1.step t3).write hi o1 ⟨_, rfl, krep_put e2' kx h3 (rep_mono t3.s _ _ h1)⟩ hw)⟩
end
end G
set_option maxHeartbeats 1000000
/-! K4: views of dicts, what they collect to, sorted. -/
namespace G
open PySem PySem.Spec PyProof.Rows L2 LamX NdefX

/-! ### views -/
def vaO (p d : Addr) : HO := .ext fun h => h.IsValuesView p d
theorem vaO_ok {P : Program} {w : World} {H : Hp} {h : Heap} {p d : Addr} (e : h.get? p = some { cls := .type "dict_values", data := .fields #[.ref d] }) : ObjOk P w H h p (vaO p d) :=
  ⟨⟨_, e, rfl, rfl⟩, ⟨_, e⟩, fun h1 h2 x k => let ⟨o, ho, r⟩ := x; ⟨o, k o ho, r⟩⟩
def itOb (P : Program) (w : World) (K : PySem.W.Frag) (kvs : List (Vl × Vl)) : Ob where
  p := fun v H => ∃ r l es, v = .ref r ∧ H r = some (L2.DX.itemsO r l) ∧ H l = some (kdH P w l es) ∧ krep K H kvs es
  mono := fun v H H' e ⟨r, l, es, h1, h2, h3, h4⟩ => ⟨r, l, es, h1, e _ _ h2, e _ _ h3, krep_mono e h4⟩
def vaOb (P : Program) (w : World) (K : PySem.W.Frag) (kvs : List (Vl × Vl)) : Ob where
  p := fun v H => ∃ r l es, v = .ref r ∧ H r = some (vaO r l) ∧ H l = some (kdH P w l es) ∧ krep K H kvs es
  mono := fun v H H' e ⟨r, l, es, h1, h2, h3, h4⟩ => ⟨r, l, es, h1, e _ _ h2, e _ _ h3, krep_mono e h4⟩
section
variable {X : Cx} {pins : List (Addr × Obj)} {σ : L2.St} {H : Hp} {s : Shared} {a : Addr} {es : List Ent}
theorem kd_raw (I : Inv X pins σ H s) (e : H a = some (kdH X.prog X.w a es)) (ok : EsOk X.K H es) : (a == sysModules) = false ∧ es.length ≤ sizeLine ∧ ∃ ar ep xs, s.heap.DictRaw a ar ep ∧ KN es xs ∧ ar.toList = xs.map (entryOfKey (nestedKind X.prog X.w)) := by
  obtain ⟨⟨h1, h2, h3, xs, h4, o, ar, ep, q1, q2, q3, q4⟩, _⟩ := (show ObjOk X.prog X.w H s.heap a (.ext (kdP X.prog X.w a es)) from I.hok a _ e)
  exact ⟨h1, h2, ar, ep, xs, ⟨o, q1, q2, q3⟩, h4, q4⟩
end
section
variable {X : Cx} {B : Bs} {Γ Γ' : List Sl} {x y z : Vl} {a b c e d : Expr} {pos apos : Pos} {kvs : List (Vl × Vl)}
theorem tBM_items (K : PySem.W.Frag) : True := trivial
theorem ge_items (h : GE X B Γ d (dkV X.prog X.w X.K kvs)) (hbase : attributeBase d "items" X.env (eval d X.env) = eval d X.env := by rfl) (hline : (apos.endLine == pos.line) = true := by rfl) :
    GE X B Γ (.Call (.Attribute d "items" apos) [] [] pos) (.ob (itOb X.prog X.w X.K kvs)) := by
  refine ⟨fun pins s σ H Q I hq => ?_⟩
  obtain ⟨S, en, q⟩ := hq
  refine wpAny_Call_method0_late hbase hline (thn (h.run pins s σ H (fun v H1 => ∃ S1, Stp B.T S H S1 H1 ∧ rep X.K S1 (dkV X.prog X.w X.K kvs) v) I ⟨S, en, fun v S1 H1 t1 h1 => ⟨S1, t1, h1⟩⟩) fun u s1 ⟨v, H1, I1, r1, S1, t1, ⟨l, es, e1, e2, e3⟩⟩ => ?_)
  subst e1
  obtain rfl : u = Value.ref l := r1
  have hH := t1.st.sub _ _ e2
  obtain ⟨o, o1, o2, o3⟩ := kd_type I1 hH
  obtain ⟨hd, _, ar, ep, xs, raw, _, _⟩ := kd_raw I1 hH ((krep_ok e3).mono t1.st.sub)
  refine ⟨"dict", "dict.items", PySem.F.plainAttrs_dict, PySem.F.slot_dict_items, PySem.F.type_dict_items, ⟨o, o1, o2⟩, fun a' e => by cases e; exact ⟨o, o1, o3⟩, Calls.callWith_builtin rfl (PySem.evalArgs_none ?_)⟩
  refine DT.callItems (es := ar) (ep := ep) hd raw ?_
  have hf : H1 s1.heap.objs.size = none := I1.hok.fresh (Nat.le_refl _)
  refine ⟨.ref s1.heap.objs.size, upd H1 s1.heap.objs.size (L2.DX.itemsO s1.heap.objs.size l), I1.laid (t' := s1.toks) (fun b u e => Heap.get?_push_of_some _ e) (Nat.le_refl _) (L2.DX.itemsO_ok (Heap.get?_push_size _ rfl)), rfl, ?_⟩
  have t2 := t1.st.newV hf (o := L2.DX.itemsO s1.heap.objs.size l) (fun ps z => by unfold L2.DX.itemsO at z; cases z)
  exact q _ _ _ (t1.trans t2) ⟨_, l, es, rfl, upd_same, t2.s _ _ e2, krep_mono t2.s e3⟩
theorem ge_values (h : GE X B Γ d (dkV X.prog X.w X.K kvs)) (hbase : attributeBase d "values" X.env (eval d X.env) = eval d X.env := by rfl) (hline : (apos.endLine == pos.line) = true := by rfl) :
    GE X B Γ (.Call (.Attribute d "values" apos) [] [] pos) (.ob (vaOb X.prog X.w X.K kvs)) := by
  refine ⟨fun pins s σ H Q I hq => ?_⟩
  obtain ⟨S, en, q⟩ := hq
  refine wpAny_Call_method0_late hbase hline (thn (h.run pins s σ H (fun v H1 => ∃ S1, Stp B.T S H S1 H1 ∧ rep X.K S1 (dkV X.prog X.w X.K kvs) v) I ⟨S, en, fun v S1 H1 t1 h1 => ⟨S1, t1, h1⟩⟩) fun u s1 ⟨v, H1, I1, r1, S1, t1, ⟨l, es, e1, e2, e3⟩⟩ => ?_)
  subst e1
  obtain rfl : u = Value.ref l := r1
  have hH := t1.st.sub _ _ e2
  obtain ⟨o, o1, o2, o3⟩ := kd_type I1 hH
  obtain ⟨hd, _, ar, ep, xs, raw, _, _⟩ := kd_raw I1 hH ((krep_ok e3).mono t1.st.sub)
  refine ⟨"dict", "dict.values", PySem.F.plainAttrs_dict, PySem.F.slot_dict_values, PySem.F.type_dict_values, ⟨o, o1, o2⟩, fun a' e => by cases e; exact ⟨o, o1, o3⟩, Calls.callWith_builtin rfl (PySem.evalArgs_none ?_)⟩
  have hf : H1 s1.heap.objs.size = none := I1.hok.fresh (Nat.le_refl _)
  have t2 := t1.st.newV hf (o := vaO s1.heap.objs.size l) (fun ps z => by unfold vaO at z; cases z)
  refine call_meetsIn PySem.F.slot_dict_values raw.typeIs PySem.F.entry_dict_values (PySem.F.args_dict_values_1 _) (meets_dict_values_raw l hd) ⟨⟨ar, ep, raw⟩, ?_⟩
  refine ⟨.ref s1.heap.objs.size, upd H1 s1.heap.objs.size (vaO s1.heap.objs.size l), I1.laid (t' := s1.toks) (fun b u e => Heap.get?_push_of_some _ e) (Nat.le_refl _) (vaO_ok (Heap.get?_push_size _ rfl)), rfl, ?_⟩
  exact q _ _ _ (t1.trans t2) ⟨_, l, es, rfl, upd_same, t2.s _ _ e2, krep_mono t2.s e3⟩
end

/-! ### what a value collects to -/
/-- x, walked at once, gives the values xs -/
def Col (X : Cx) (T : List NTab) (A : Around) (x : Vl) (xs : List Vl) : Prop :=
  ∀ (pins : List (Addr × Obj)) (s : Shared) (σ : L2.St) (S H : Hp) (v : V) (u : Value) (Q : List Value → Shared → Prop), Inv X pins σ H s → Sta T S H → rep X.K S x v → RelV v u →
    (∀ s' S' H' vs us, Inv X pins σ H' s' → Stp T S H S' H' → reps X.K S' xs vs → Vals vs us → us.length ≤ sizeLine → Q us s') → wpAny (model X.prog X.w) A (collect u) Q X.xe s ∧ ∃ a, u = .ref a
section
variable {X : Cx} {T : List NTab} {A : Around} {xs : List Vl} {kvs : List (Vl × Vl)}
theorem Inv.kept0 {pins : List (Addr × Obj)} {σ : L2.St} {H : Hp} {s : Shared} {h' : Heap} {tk : Nat} (I : Inv X pins σ H s) (k : ∀ b o, s.heap.get? b = some o → h'.get? b = some o) : Inv X pins σ H { s with heap := h', toks := tk } :=
  I.turned (it := s.heap.objs.size) (fun b o _ e => k b o e) (I.hok.fresh (Nat.le_refl _)) (Nat.ne_of_gt I.lt) (.inr I.sz) (fun x c e z => by
    obtain ⟨v, q⟩ := I.cell x c e
    exact absurd (Nat.lt_of_lt_of_le q.lt (by rw [z]; exact Nat.le_refl _)) (Nat.lt_irrefl _)) (fun p hp z => absurd (Nat.lt_of_lt_of_le (Heap.lt_size (I.pin p hp).1) (by rw [z]; exact Nat.le_refl _)) (Nat.lt_irrefl _))
theorem col_tup : Col X T A (.tup xs) xs := fun pins s σ S H v u Q I st ⟨a, vs, e1, e2, e3⟩ r k => by
  subst e1
  obtain rfl : u = Value.ref a := r
  obtain ⟨its, rv, ⟨o, q1, q2, n, q3⟩, hz⟩ := I.tuple (Same.sqT st.sub e2)
  refine ⟨wpAny_collect_seq a (.inr rfl) q1 q2 q3 (fun h' hk => ?_) (by rw [List.size_toArray, ← rv.length]; exact hz), a, rfl⟩
  exact k { s with heap := h' } S H vs _ (Inv.kept0 (tk := s.toks) I hk) st.refl e3 rv (by show its.length ≤ _; rw [← rv.length]; exact hz)
theorem kn_get {es : List Ent} {ys : List (NestedKey × Addr × Value)} (r : KN es ys) {j : Nat} {q : NestedKey × Addr × Value} (h : ys[j]? = some q) : ∃ p, es[j]? = some p ∧ p.1 = q.1 ∧ p.2.1 = q.2.1 ∧ RelV p.2.2 q.2.2 := by
  induction r generalizing j with
  | nil => simp at h
  | @cons p q0 ps qs h0 t ih =>
    cases j with
    | zero => simp at h; subst h; exact ⟨p, rfl, h0⟩
    | succ j =>
      obtain ⟨p', e1, e2⟩ := ih (j := j) (by simpa using h)
      exact ⟨p', by simpa using e1, e2⟩
theorem ar_get {P : Program} {w : World} {es : List Ent} {ys : List (NestedKey × Addr × Value)} {ar : Array DictEntry} (r : KN es ys) (e : ar.toList = ys.map (entryOfKey (nestedKind P w))) {j : Nat} (hj : j < ar.size) : ∃ p, es[j]? = some p ∧ ar[j].key = .ref p.2.1 ∧ RelV p.2.2 ar[j].val := by
  have h1 : ar.toList[j]? = some ar[j] := by rw [Array.getElem?_toList]; exact Array.getElem?_eq_getElem hj
  rw [e, List.getElem?_map] at h1
  cases hq : ys[j]? with
  | none => rw [hq] at h1; cases h1
  | some q =>
    rw [hq] at h1
    have h1 : entryOfKey (nestedKind P w) q = ar[j] := Option.some.inj h1
    obtain ⟨p, p1, p2, p3, p4⟩ := kn_get r hq
    exact ⟨p, p1, by rw [← h1, p3]; rfl, by rw [← h1]; exact p4⟩
theorem ar_size {P : Program} {w : World} {es : List Ent} {ys : List (NestedKey × Addr × Value)} {ar : Array DictEntry} (r : KN es ys) (e : ar.toList = ys.map (entryOfKey (nestedKind P w))) : ar.size = es.length := by
  rw [← Array.length_toList, e, List.length_map, Paired.length r]
theorem vals_of_get {vs : List V} {us : List Value} (hl : vs.length = us.length) (h : ∀ (j : Nat) v u, vs[j]? = some v → us[j]? = some u → RelV v u) : Vals vs us := by
  induction vs generalizing us with
  | nil => cases us with
    | nil => exact .nil
    | cons _ _ => simp at hl
  | cons v vs ih => cases us with
    | nil => simp at hl
    | cons u us => exact .cons (h 0 v u rfl rfl) (ih (by simpa using hl) fun j v' u' h1 h2 => h (j + 1) v' u' (by simpa using h1) (by simpa using h2))
theorem krep_keys {S : Hp} : ∀ {kvs : List (Vl × Vl)} {es : List Ent}, krep X.K S kvs es → reps X.K S (kvs.map (·.1)) (es.map fun e => V.ref e.2.1)
  | [], _, h => by have h : _ = [] := h; subst h; rfl
  | (x, y) :: r, _, ⟨b, v, t, e1, e2, e3, e4, e5⟩ => by subst e1; exact ⟨_, _, rfl, e3, krep_keys e5⟩
theorem krep_vals {S : Hp} : ∀ {kvs : List (Vl × Vl)} {es : List Ent}, krep X.K S kvs es → reps X.K S (kvs.map (·.2)) (es.map fun e => e.2.2)
  | [], _, h => by have h : _ = [] := h; subst h; rfl
  | (x, y) :: r, _, ⟨b, v, t, e1, e2, e3, e4, e5⟩ => by subst e1; exact ⟨_, _, rfl, e4, krep_vals e5⟩
theorem col_keys (hh : A.handled = none) : Col X T A (dkV X.prog X.w X.K kvs) (kvs.map (·.1)) := fun pins s σ S H v u Q I st ⟨l, es, e1, e2, e3⟩ r k => by
  subst e1
  obtain rfl : u = Value.ref l := r
  obtain ⟨hd, hz, ar, ep, ys, raw, rel, he⟩ := kd_raw I (st.sub _ _ e2) ((krep_ok e3).mono st.sub)
  have hsz := ar_size rel he
  refine ⟨PySem.W.kdu_collect (KdlSrc.rawDict (prog := X.prog) (w := X.w) (es := ar) (ep := ep) hd) hh raw (by rw [hsz]; exact hz) (fun h' tk acc hk hacc => ?_), l, rfl⟩
  refine k _ S H (es.map fun e => V.ref e.2.1) _ (Inv.kept0 (tk := tk) I hk) st.refl (krep_keys e3) ?_ (by rw [Array.length_toList, hacc.1, hsz]; exact hz)
  refine vals_of_get (by have h9 := hacc.1; rw [hsz] at h9; rw [List.length_map, ← h9]; exact Array.length_toList.symm) fun j v u h1 h2 => ?_
  rw [Array.getElem?_toList] at h2
  obtain ⟨hj, e4⟩ := hacc.2 j u h2
  obtain ⟨p, p1, p2, _⟩ := ar_get rel he hj
  rw [List.getElem?_map, p1] at h1
  cases h1
  rw [e4, p2]; rfl
theorem col_vals (hh : A.handled = none) : Col X T A (.ob (vaOb X.prog X.w X.K kvs)) (kvs.map (·.2)) := fun pins s σ S H v u Q I st ⟨r0, l, es, e1, e0, e2, e3⟩ r k => by
  subst e1
  obtain rfl : u = Value.ref r0 := r
  obtain ⟨hd, hz, ar, ep, ys, raw, rel, he⟩ := kd_raw I (st.sub _ _ e2) ((krep_ok e3).mono st.sub)
  have view : s.heap.IsValuesView r0 l := (show ObjOk X.prog X.w H s.heap r0 (vaO r0 l) from I.hok _ _ (st.sub _ _ e0)).1
  have hsz := ar_size rel he
  refine ⟨PySem.W.kdu_collect (KdlSrc.rawValues (prog := X.prog) (w := X.w) (es := ar) (ep := ep)) hh ⟨view, raw⟩ (by rw [hsz]; exact hz) (fun h' tk acc hk hacc => ?_), r0, rfl⟩
  refine k _ S H (es.map fun e => e.2.2) _ (Inv.kept0 (tk := tk) I hk) st.refl (krep_vals e3) ?_ (by rw [Array.length_toList, hacc.1, hsz]; exact hz)
  refine vals_of_get (by have h9 := hacc.1; rw [hsz] at h9; rw [List.length_map, ← h9]; exact Array.length_toList.symm) fun j v u h1 h2 => ?_
  rw [Array.getElem?_toList] at h2
  obtain ⟨hj, e4⟩ := hacc.2 j u h2
  obtain ⟨p, p1, _, p3⟩ := ar_get rel he hj
  rw [List.getElem?_map, p1] at h1
  cases h1
  rw [e4]; exact p3
/-- new pairs taken up, one behind another -/
theorem take_pairs {pins : List (Addr × Obj)} {σ : L2.St} {H : Hp} {s : Shared} (I0 : Inv X pins σ H s) {h' : Heap} {tk : Nat} : ∀ (as : List Addr) (ps : List (V × V)) (xs : List (Vl × Vl)) (S1 H1 : Hp), Inv X pins σ H1 { s with heap := h', toks := tk } → Sta T S1 H1 → as.Nodup → as.length = ps.length → reps X.K S1 (xs.map (·.1)) (ps.map (·.1)) → reps X.K S1 (xs.map (·.2)) (ps.map (·.2)) →
    (∀ (j : Nat) a p, as[j]? = some a → ps[j]? = some p → s.heap.objs.size ≤ a ∧ H1 a = none ∧ ∃ u1 u2, RelV p.1 u1 ∧ RelV p.2 u2 ∧ h'.get? a = some { cls := .type "tuple", data := .seq #[u1, u2] }) →
    ∃ S2 H2, Inv X pins σ H2 { s with heap := h', toks := tk } ∧ Stp T S1 H1 S2 H2 ∧ reps X.K S2 (xs.map fun x => .tup [x.1, x.2]) (as.map V.ref)
  | [], [], xs, S1, H1, I1, t1, _, _, r1, _, _ => by
    have e : xs = [] := by
      have := reps_length r1
      simpa using this
    subst e
    exact ⟨S1, H1, I1, t1.refl, rfl⟩
  | [], _ :: _, _, _, _, _, _, _, h, _, _, _ => by simp at h
  | _ :: _, [], _, _, _, _, _, _, h, _, _, _ => by simp at h
  | a :: as, p :: ps, [], S1, H1, I1, t1, hn, hl, r1, _, _ => by have := reps_length r1; simp at this
  | a :: as, p :: ps, x :: xs, S1, H1, I1, st1, hn, hl, ⟨v1, t1', q1, q2, q3⟩, ⟨v2, t2', q4, q5, q6⟩, hp => by
    cases q1
    cases q4
    obtain ⟨hb, hnone, u1, u2, ru1, ru2, hg⟩ := hp 0 a p rfl rfl
    have ok : ObjOk X.prog X.w (upd H1 a (.tup [p.1, p.2])) h' a (.tup [p.1, p.2]) := ⟨Nat.le_of_ble_eq_true rfl, [u1, u2], .cons ru1 (.cons ru2 .nil), _, hg, rfl, 0, rfl⟩
    have I2 : Inv X pins σ (upd H1 a (.tup [p.1, p.2])) { s with heap := h', toks := tk } := I1.take (h' := h') (t' := tk) (fun b ob _ e => e) (I0.fpOk hb hnone) ok
    have t2 := st1.newV hnone (o := .tup [p.1, p.2]) (fun ps z => by cases z)
    rw [List.nodup_cons] at hn
    obtain ⟨S2, H2, I3, t3, r3⟩ := take_pairs I0 as ps xs (upd S1 a (.tup [p.1, p.2])) (upd H1 a (.tup [p.1, p.2])) I2 t2.st hn.2 (by simpa using hl) (reps_mono t2.s _ _ q3) (reps_mono t2.s _ _ q6) (fun j b p' h1 h2 => by
      obtain ⟨c1, c2, c3⟩ := hp (j + 1) b p' (by simpa using h1) (by simpa using h2)
      refine ⟨c1, ?_, c3⟩
      rw [upd_ne (fun z => hn.1 (by rw [← z]; exact List.mem_of_getElem? h1))]
      exact c2)
    exact ⟨S2, H2, I3, t2.trans t3, .ref a, _, rfl, ⟨a, [p.1, p.2], rfl, SqT.of (t3.s _ _ upd_same), _, _, rfl, rep_mono (t2.s.trans t3.s) _ _ q2, _, _, rfl, rep_mono (t2.s.trans t3.s) _ _ q5, rfl⟩, r3⟩
theorem col_items (hh : A.handled = none) : Col X T A (.ob (itOb X.prog X.w X.K kvs)) (kvs.map fun x => .tup [x.1, x.2]) := fun pins s σ S H v u Q I st ⟨r0, l, es, e1, e0, e2, e3⟩ r k => by
  subst e1
  obtain rfl : u = Value.ref r0 := r
  obtain ⟨hd, hz, ar, ep, ys, raw, rel, he⟩ := kd_raw I (st.sub _ _ e2) ((krep_ok e3).mono st.sub)
  have view : s.heap.IsItemsView r0 l := (show ObjOk X.prog X.w H s.heap r0 (L2.DX.itemsO r0 l) from I.hok _ _ (st.sub _ _ e0)).1
  have hsz := ar_size rel he
  refine ⟨PySem.W.dil_collect (es := ar) (ep := ep) hh view raw (by rw [hsz]; exact hz) (fun h' tk as hk hl hG => ?_), r0, rfl⟩
  have I1 := Inv.kept0 (tk := tk) I hk
  have nd : as.Nodup := List.Pairwise.imp (fun h => Nat.ne_of_lt h) hG.rise
  obtain ⟨S2, H2, I2, t2, r2⟩ := take_pairs I as (es.map fun e => (V.ref e.2.1, e.2.2)) kvs S H I1 st nd (by rw [List.length_map, hl, hsz]) (by rw [List.map_map]; exact krep_keys e3) (by rw [List.map_map]; exact krep_vals e3) (fun j a p h1 h2 => by
    obtain ⟨hj, hg⟩ := hG.pairs j a h1
    have ab := hG.above a (List.mem_of_getElem? h1)
    obtain ⟨p', p1, p2, p3⟩ := ar_get rel he hj
    rw [List.getElem?_map, p1] at h2
    cases h2
    exact ⟨Nat.le_of_lt ab, I.hok.fresh (Nat.le_of_lt ab), ar[j].key, ar[j].val, by rw [p2]; rfl, p3, hg⟩)
  refine k _ S2 H2 (as.map V.ref) _ I2 t2 r2 (vals_of_get (by rw [List.length_map, List.length_map]) fun j v u h1 h2 => ?_) (by rw [List.length_map, hl, hsz]; exact hz)
  rw [List.getElem?_map] at h1 h2
  cases hq : as[j]? with
  | none => rw [hq] at h1; cases h1
  | some b =>
    rw [hq] at h1 h2
    cases h1
    cases h2
    rfl
end
end G
set_option maxHeartbeats 1000000
/-! K5: sorted without a key. -/
namespace G
open PySem PySem.Spec PyProof.Rows L2 LamX NdefX PySem.W
section
variable {X : Cx} {pins : List (Addr × Obj)} {σ : L2.St} {H : Hp} {s : Shared}
mutual
theorem rep_reads (I : Inv X pins σ H s) : ∀ (x : Vl) (v : V) (u : Value), keyable x = true → rep X.K H x v → RelV v u → Reads s.heap u (toD x) []
  | .non, _, u, _, h, r => by have h : _ = _ := h; subst h; have r : u = .none := r; subst r; exact .none
  | .bl b, _, u, _, h, r => by have h : _ = _ := h; subst h; have r : u = .bool b := r; subst r; exact .bool b
  | .int i, _, u, _, h, r => by have h : _ = _ := h; subst h; obtain ⟨t, r⟩ := r; subst r; exact .int _ _
  | .str x, _, u, _, h, r => by have h : _ = _ := h; subst h; obtain ⟨t, r⟩ := r; subst r; exact .str _ _
  | .tup xs, _, u, k, ⟨a, vs, e1, e2, e3⟩, r => by
    subst e1
    have r : u = .ref a := r
    subst r
    obtain ⟨its, rv, ⟨o, q1, q2, n, q3⟩, _⟩ := I.tuple e2
    exact .tuple q1 q2 q3 (reps_reads I xs vs its k e3 rv)
  | .tud xs, _, u, k, ⟨a, vs, o', e1, e2, _, e3⟩, r => by
    subst e1
    have r : u = .ref a := r
    subst r
    obtain ⟨its, rv, ⟨o, q1, q2, n, q3⟩, _⟩ := I.tuple (.inl (.inr ⟨o', e2⟩))
    exact .tuple q1 q2 q3 (reps_reads I xs vs its k e3 rv)
  | .lst _, _, _, k, _, _ => by cases k
  | .ob _, _, _, k, _, _ => by cases k
theorem reps_reads (I : Inv X pins σ H s) : ∀ (xs : List Vl) (vs : List V) (us : List Value), keyables xs = true → reps X.K H xs vs → Vals vs us → ReadsAll s.heap us (toDs xs) []
  | [], _, us, _, h, r => by have h : _ = _ := h; subst h; cases r; exact .nil
  | x :: xs, _, us, k, ⟨v, t, e1, e2, e3⟩, r => by
    subst e1
    have k : (keyable x && keyables xs) = true := k
    obtain ⟨k1, k2⟩ := Bool.and_eq_true_iff.mp k
    cases r with
    | cons r1 r2 => exact .cons (as := []) (bs := []) (rep_reads I x v _ k1 e2 r1) (reps_reads I xs t _ k2 e3 r2)
end
end
theorem each_zip {K : PySem.W.Frag} {S : Hp} : ∀ {xs : List Vl} {vs : List V} {us : List Value}, reps K S xs vs → Vals vs us → EachIs (fun (u : Value) (b : V × Vl) => RelV b.1 u ∧ rep K S b.2 b.1) us (vs.zip xs)
  | [], _, us, h, r => by have h : _ = _ := h; subst h; cases r; exact .nil
  | x :: xs, _, us, ⟨v, t, e1, e2, e3⟩, r => by
    subst e1
    cases r with
    | cons r1 r2 => exact .cons ⟨r1, e2⟩ (each_zip e3 r2)
theorem zip_snd {K : PySem.W.Frag} {S : Hp} : ∀ {xs : List Vl} {vs : List V}, reps K S xs vs → (vs.zip xs).map (·.2) = xs
  | [], _, h => by have h : _ = _ := h; subst h; rfl
  | x :: xs, _, ⟨v, t, e1, e2, e3⟩ => by subst e1; show x :: (t.zip xs).map _ = _; rw [zip_snd e3]
theorem each_back {K : PySem.W.Frag} {S : Hp} : ∀ {us : List Value} {bs : List (V × Vl)}, EachIs (fun (u : Value) (b : V × Vl) => RelV b.1 u ∧ rep K S b.2 b.1) us bs → Vals (bs.map (·.1)) us ∧ reps K S (bs.map (·.2)) (bs.map (·.1))
  | [], [], _ => ⟨.nil, rfl⟩
  | u :: us, b :: bs, .cons h t => ⟨.cons h.1 (each_back t).1, _, _, rfl, h.2, (each_back t).2⟩
theorem each_mono {α β : Type} {R R' : α → β → Prop} (k : ∀ a b, R a b → R' a b) : ∀ {as : List α} {bs : List β}, EachIs R as bs → EachIs R' as bs
  | [], [], _ => .nil
  | _ :: _, _ :: _, .cons h t => .cons (k _ _ h) (each_mono k t)
/-- the things in order -/
def sortX (xs : List Vl) : List Vl := xs.mergeSort (dataLe false toD)
structure SortOk (A : Around) (xs : List Vl) : Prop where
  key : ∀ x ∈ xs, keyable x = true
  alike : AllAlike (xs.map toD)
  sortable : Sortable (xs.map toD)
  room : ∀ x ∈ xs, A.units + 4 + (toD x).depth < cLine
section
variable {X : Cx} {T : List NTab}
def rSo (X : Cx) (T : List NTab) : List V → Hp → VK → Prop := fun vs H Q => ∃ S x xs v, vs = [v] ∧ Sta T S H ∧ rep X.K S x v ∧ Col X T X.A.in1 x xs ∧ SortOk X.A xs ∧
  ∀ l ho S' H', Stp T S H S' H' → H l = none → S' l = none → H' l = some ho → (owL X.K (sortX xs)).r l ho S' → Q (.ref l) H'
theorem cr_sortedG : CallR X (.builtin "sorted") (rSo X T) := fun pins s σ H vs us Q I r ⟨S, x, xs, v, e1, st, rx, col, ok, q⟩ => by
  subst e1
  obtain ⟨u, eu, ru⟩ := vals1 r
  subst eu
  obtain ⟨-, a, rfl⟩ := col pins s σ S H v u (fun _ _ => True) I st rx ru (fun _ _ _ _ _ _ _ _ _ _ => True.intro)
  refine Calls.call_function_entry PyProof.Rows.kind_sorted PyProof.Rows.plain_sorted PyProof.Rows.entry_sorted (PyProof.Rows.args_sorted1 _) ?_
  unfold Builtin.«sorted»
  refine wpAny_bind (m := checkCount "sorted" 1 1 _) (wpAny_pure ?_)
  refine wpAny_bind (col pins s σ S H v _ _ I st rx ru fun s1 S1 H1 vs us I1 t1 r1 rv hz => ?_).1
  refine wpAny_bind (wpAny_newList ?_ hz)
  have hl : vs.length = us.length := rv.length
  have hp : H1 s1.heap.objs.size = none := I1.hok.fresh (Nat.le_refl _)
  have ho : (s1.heap.push { cls := .type "list", data := .seq us.toArray }).get? s1.heap.objs.size = some (seqObj "list" us.toArray 0) := Heap.get?_push_size _ rfl
  have I2 : Inv X pins σ (upd H1 s1.heap.objs.size (.lst vs)) { s1 with heap := s1.heap.push { cls := .type "list", data := .seq us.toArray } } :=
    I1.laid (t' := s1.toks) (fun b u e => Heap.get?_push_of_some _ e) (Nat.le_refl _) ⟨by rw [hl]; exact hz, us, 0, rv, ho⟩
  have t2 : Stp T S H S1 (upd H1 s1.heap.objs.size (.lst vs)) := t1.trans (t1.st.newO hp)
  have hS1 : S1 s1.heap.objs.size = none := sta_none t1.st hp
  have mem : ∀ b ∈ vs.zip xs, b.2 ∈ xs := fun b hb => (List.of_mem_zip hb).2
  have er0 := each_zip r1 rv
  have emap : (vs.zip xs).map (fun b : V × Vl => toD b.2) = xs.map toD := by
    have := congrArg (List.map toD) (zip_snd r1)
    rw [List.map_map] at this
    exact this
  have hlen : (vs.zip xs).length = us.length := er0.length.symm
  refine wpAny_bind (wpAny_holding (wpAny_mono (list_sort_data (vs := us) (bs := vs.zip xs) (R := fun (u : Value) (b : V × Vl) => RelV b.1 u ∧ rep X.K S1 b.2 b.1) (enc := fun b => toD b.2) (Q := fun _ s' => ∃ out, out.length = us.length ∧ EachIs (fun (u : Value) (b : V × Vl) => RelV b.1 u ∧ rep X.K S1 b.2 b.1) out ((vs.zip xs).mergeSort (dataLe false fun b => toD b.2)) ∧
      s' = { s1 with heap := sortedHeap (s1.heap.push { cls := .type "list", data := .seq us.toArray }) s1.heap.objs.size us out.toArray }) (s := { s1 with heap := s1.heap.push { cls := .type "list", data := .seq us.toArray } }) ho er0 ?_ (by rw [emap]; exact ok.alike) (by rw [emap]; exact ok.sortable) (by rw [hlen]; exact hz) ?_ ?_) (fun _ s' hs' => ?_) fun _ _ e => e))
  · refine each_mono (fun u b h => ?_) (PySem.W.each_mem er0)
    refine ⟨[], ?_, by simp⟩
    obtain ⟨⟨h1, h2⟩, h3⟩ := h
    exact rep_reads I2 b.2 b.1 u (ok.key _ (mem b h3)) (rep_mono t2.st.sub _ _ h2) h1
  · intro b hb
    have := ok.room _ (mem b hb)
    show X.A.units + 1 + 1 + (toD b.2).depth < cLine
    omega
  · intro out ho' eo
    exact ⟨out, by rw [ho', hlen], eo, rfl⟩
  · obtain ⟨out, lo, eo, rfl⟩ := hs'
    obtain ⟨rv', rr'⟩ := each_back eo
    obtain ⟨ep, he'⟩ := sortedHeap_at (vs := us) (out := out.toArray) ho
    have hl' : (((vs.zip xs).mergeSort (dataLe false fun b => toD b.2)).map (·.1)).length ≤ sizeLine := by rw [rv'.length, lo]; exact hz
    have I3 := I2.write (x := s1.heap.objs.size) (e := s1.heap.objs.size) (o := .lst (((vs.zip xs).mergeSort (dataLe false fun b => toD b.2)).map (·.1))) (h' := sortedHeap (s1.heap.push { cls := .type "list", data := .seq us.toArray }) s1.heap.objs.size us out.toArray) (t' := s1.toks) (by rw [upd_same]; exact True.intro) (.inl rfl)
      (fun b u hb e => (sortedHeap_old hb (Heap.lt_size e)).trans e) ⟨_, he'⟩ ⟨hl', out, ep, rv', he'⟩
    refine wpAny_pure ⟨_, rfl, .ref s1.heap.objs.size, _, I3, rfl, ?_⟩
    refine q _ _ S1 _ (t2.over (stp_none t1 hp) hS1 upd_same (fun ps z => by cases z) (fun c q z => by unfold CodeO at z; cases z) _) (stp_none t1 hp) hS1 upd_same ⟨_, rfl, hl', ?_⟩
    have e5 : ((vs.zip xs).mergeSort (dataLe false fun b => toD b.2)).map (·.2) = sortX xs := by
      have e6 := List.map_mergeSort (r := dataLe false fun b : V × Vl => toD b.2) (s := dataLe false toD) (f := fun b : V × Vl => b.2) (l := vs.zip xs) (fun a _ b _ => rfl)
      rw [zip_snd r1] at e6
      exact e6
    rw [← e5]
    exact rr'
end
section
variable {X : Cx} {B : Bs} {Γ Γ' : List Sl} {x y z : Vl} {a b c e d : Expr} {pos apos p : Pos} {xs : List Vl}
theorem go_sorted (Gm : Gf X.mg) (h : GE X B Γ a x) (col : Col X B.T X.A.in1 x xs) (ok : SortOk X.A xs) (hg : Gl X "sorted" := by rfl) (hs : starEach [a] X.env = (false, eval a X.env) :: starEach [] X.env := by rfl) : GO X B Γ (.Call (.Name "sorted" p) [a] [] pos) (owL X.K (sortX xs)) :=
  PE_imp (pe_callB (cr_sortedG (T := B.T)) hg Gm.sorted bt_sorted (ga_cons h ga_nil hs) (by decide) (by decide) hs rfl) fun σ H Q ⟨S, en, k⟩ => ⟨S, en, fun vs S1 H1 t1 ⟨v, r, e1, e2, e3⟩ => by
    have e3 : r = [] := e3
    subst e1 e3
    exact ⟨S1, x, xs, v, rfl, t1.st, e2, col, ok, fun l ho S' H' t n1 n2 h1 h2 => k l ho S' H' (t1.trans t) (stp_none t1 n1) n2 h1 h2⟩⟩
end
end G
set_option maxHeartbeats 1000000
/-! K6: max of a tuple of ints, of a dict's values; dict(pairs). -/
namespace G
open PySem PySem.Spec PyProof.Rows L2 LamX NdefX
section
variable {prog : Program} {w : World} {A : Around} {E : Value → Shared → Prop} {s : Shared}
theorem max_of {x : Value} {ns : List Int} {m : Int} {Q : Value → Shared → Prop} (hm : m ∈ ns) (hx : ∀ y ∈ ns, y ≤ m)
    (h : wpAny (model prog w) A.in1 (pyIter x) (fun it s₂ => ∃ I fp wr P SS, it = .ref I ∧ Walks prog w A.in1 I fp wr ns.length P SS ∧ SS 0 s₂.heap ∧ (∀ b ∈ fp, b < s₂.heap.objs.size) ∧ (∀ i v, P i v → ∃ t, v = .int (ns.getD i 0) t) ∧
      ∀ t h' tk, (∀ b o, b ∉ wr → s₂.heap.get? b = some o → h'.get? b = some o) → Q (.int m t) { s₂ with heap := h', toks := tk }) E s) : wpAny (model prog w) A (call (.builtin "max") [x]) Q E s := by
  refine call_max_walk (wpAny_mono h (fun it s₂ ⟨I, fp, wr, P, SS, e, W, st, hfp, hv, hq⟩ => ?_) fun _ _ e => e)
  have hn : 0 < ns.length := List.length_pos_of_mem hm
  refine ⟨I, fp, wr, ns.length, P, SS, _, e, W, st, hfp, hn, CmpOf.ints_gt (fun i => ns.getD i 0) hv, fun v h' tk hp hk => ?_⟩
  obtain ⟨t, rfl⟩ := hv _ _ hp
  have e1 : ns.getD (argBest (fun i j => decide (ns.getD i 0 > ns.getD j 0)) (ns.length - 1)) 0 = m := by
    obtain ⟨h1, h2⟩ := argBest_gt (fun i => ns.getD i 0) (ns.length - 1)
    have a1 : ns.getD (argBest (fun i j => decide (ns.getD i 0 > ns.getD j 0)) (ns.length - 1)) 0 ≤ m := by
      refine hx _ ?_
      have hlt : argBest (fun i j => decide (ns.getD i 0 > ns.getD j 0)) (ns.length - 1) < ns.length := by omega
      rw [List.getD_eq_getElem?_getD, List.getElem?_eq_getElem hlt]
      exact List.getElem_mem hlt
    obtain ⟨j, hj, ej⟩ := List.mem_iff_getElem.mp hm
    have a2 := h2 j (by omega)
    have ej' : ns.getD j 0 = m := by rw [List.getD_eq_getElem?_getD, List.getElem?_eq_getElem hj]; exact ej
    rw [ej'] at a2
    omega
  rw [e1]
  exact hq t h' tk hk
end
section
variable {X : Cx} {B : Bs} {Γ Γ' : List Sl} {x y z : Vl} {a b c e d : Expr} {pos apos p : Pos} {xs : List Vl} {kvs : List (Vl × Vl)}
theorem ra_maxT {ns : List Int} {m : Int} (hc : X.calm = true) (hm : m ∈ ns) (hx : ∀ y ∈ ns, y ≤ m) : CallR X (.builtin "max") (fun vs H Q => ∃ a, vs = [.ref a] ∧ SqT X.K H a (ns.map V.int) ∧ Q (.int m) H) := fun pins s σ H vs us Q I r ⟨a, e1, e2, q⟩ => by
  subst e1
  rw [Vals.ref1 r]
  have hh : X.A.handled = none := I.ok.hd hc
  obtain ⟨its, rv, ht, hz⟩ := I.tuple e2
  have ht' : s.heap.IsTuple a its.toArray := ht
  have hlen : its.length = ns.length := by rw [← rv.length, List.length_map]
  refine max_of hm hx (wpAny_pyIter_tuple ht' ?_)
  have hne : a ≠ s.heap.objs.size := fun e => by obtain ⟨o, ho, _⟩ := ht; rw [e] at ho; exact absurd (Heap.lt_size ho) (Nat.lt_irrefl _)
  refine ⟨s.heap.objs.size, [s.heap.objs.size, a], [s.heap.objs.size], (fun i v => its.toArray[i]? = some v), (fun i h => h.IsTupleIter s.heap.objs.size a i ∧ h.IsTuple a its.toArray), rfl, ?_, ⟨⟨_, Heap.get?_push_size _ rfl, rfl, rfl⟩, ?_⟩, ?_, ?_, ?_⟩
  · have := Walks.tuple (prog := X.prog) (w := X.w) (A := X.A.in1) hh s.heap.objs.size a hne its.toArray
    have e9 : its.toArray.size = ns.length := by rw [List.size_toArray]; exact hlen
    rw [e9] at this
    exact this
  · obtain ⟨o, ho, r⟩ := ht'; exact ⟨o, Heap.get?_push_of_some _ ho, r⟩
  · intro b hb
    show b < (s.heap.push _).objs.size
    rw [size_push']
    have : a < s.heap.objs.size := by obtain ⟨o, ho, _⟩ := ht; exact Heap.lt_size ho
    simp only [List.mem_cons, List.not_mem_nil, or_false] at hb
    rcases hb with rfl | rfl
    · exact Nat.lt_succ_self _
    · exact Nat.lt_succ_of_lt this
  · intro i v hv
    have hv : its[i]? = some v := by simpa using hv
    have hi : i < ns.length := by rw [← hlen]; exact (List.getElem?_eq_some_iff.mp hv).1
    obtain ⟨u, e4, e5⟩ := Vals.get rv (i := i) (x := V.int ns[i]) (by rw [List.getElem?_map, List.getElem?_eq_getElem hi]; rfl)
    rw [hv] at e4
    cases e4
    rw [List.getD_eq_getElem?_getD, List.getElem?_eq_getElem hi]
    exact e5
  · intro t h' tk hk
    exact ⟨.int m, H, Inv.kept0 (s := s) (h' := h') (tk := tk) I (fun b o e => hk b o (fun z => absurd (List.mem_singleton.mp z) (Nat.ne_of_lt (Heap.lt_size e))) (Heap.get?_push_of_some _ e)), ⟨t, rfl⟩, q⟩
theorem g_maxT {ns : List Int} {m : Int} (Gm : Gf X.mg) (hc : X.calm = true) (h : GE X B Γ a (.tup (ns.map .int))) (hm : m ∈ ns) (hx : ∀ y ∈ ns, y ≤ m) (hg : Gl X "max" := by rfl) (hs : starEach [a] X.env = (false, eval a X.env) :: starEach [] X.env := by rfl) :
    GE X B Γ (.Call (.Name "max" p) [a] [] pos) (.int m) :=
  ge_callB (ra_maxT hc hm hx) Gm.max hg bt_max (ga_cons h ga_nil hs) (ra1 fun v S H Q st ⟨a, vs, e1, e2, e3⟩ k => ⟨a, by rw [e1], by rw [← reps_ints e3]; exact Same.sqT st.sub e2, k _ S H st.refl rfl⟩) (by decide) (by decide) hs rfl
theorem g_maxV {ns : List Int} {m : Int} (Gm : Gf X.mg) (hc : X.calm = true) (h : GE X B Γ a (.ob (vaOb X.prog X.w X.K kvs))) (hv : kvs.map (·.2) = ns.map .int) (hm : m ∈ ns) (hx : ∀ y ∈ ns, y ≤ m) (hg : Gl X "max" := by rfl) (hs : starEach [a] X.env = (false, eval a X.env) :: starEach [] X.env := by rfl) :
    GE X B Γ (.Call (.Name "max" p) [a] [] pos) (.int m) := by
  have cr : CallR X (.builtin "max") (fun vs H Q => ∃ r0 l es, vs = [.ref r0] ∧ H r0 = some (vaO r0 l) ∧ H l = some (kdH X.prog X.w l es) ∧ EsOk X.K H es ∧ es.map (·.2.2) = ns.map V.int ∧ Q (.int m) H) := fun pins s σ H vs us Q I r ⟨r0, l, es, e1, e2, e3, ok, ev, q⟩ => by
    subst e1
    rw [Vals.ref1 r]
    have hh : X.A.handled = none := I.ok.hd hc
    obtain ⟨hd, hz, ar, ep, ys, raw, rel, he⟩ := kd_raw I e3 ok
    have view : s.heap.IsValuesView r0 l := (show ObjOk X.prog X.w H s.heap r0 (vaO r0 l) from I.hok _ _ e2).1
    have hsz := ar_size rel he
    have hl2 : es.length = ns.length := by have := congrArg List.length ev; simpa using this
    refine max_of hm hx (wpAny_pyIter_values_raw view raw ?_)
    have hlt : l < s.heap.objs.size := raw.lt_size
    refine ⟨s.heap.objs.size, [s.heap.objs.size, l], [s.heap.objs.size], (fun i v => ∃ hi : i < ar.size, v = ar[i].val), (fun i h => h.IsValIter s.heap.objs.size l i ar.size ep ∧ h.DictRaw l ar ep), rfl, ?_, ⟨⟨_, Heap.get?_push_size _ rfl, rfl, rfl⟩, raw.push _⟩, ?_, ?_, ?_⟩
    · have := Walks.rawValues (prog := X.prog) (w := X.w) (A := X.A.in1) hh s.heap.objs.size l (Nat.ne_of_lt hlt) ar ep
      rw [show ns.length = ar.size by rw [hsz, hl2]]
      exact this
    · intro b hb
      show b < (s.heap.push _).objs.size
      rw [size_push']
      simp only [List.mem_cons, List.not_mem_nil, or_false] at hb
      rcases hb with rfl | rfl
      · exact Nat.lt_succ_self _
      · exact Nat.lt_succ_of_lt hlt
    · rintro i v ⟨hi, e4⟩
      obtain ⟨pp, p1, _, p3⟩ := ar_get rel he hi
      have hi2 : i < ns.length := by rw [← hl2, ← hsz]; exact hi
      have e5 : (es.map (·.2.2))[i]? = some pp.2.2 := by rw [List.getElem?_map, p1]; rfl
      rw [ev, List.getElem?_map, List.getElem?_eq_getElem hi2] at e5
      have e5 : V.int ns[i] = pp.2.2 := Option.some.inj e5
      rw [← e5] at p3
      rw [List.getD_eq_getElem?_getD, List.getElem?_eq_getElem hi2, e4]
      exact p3
    · intro t h' tk hk
      exact ⟨.int m, H, Inv.kept0 (s := s) (h' := h') (tk := tk) I (fun b o e => hk b o (fun z => absurd (List.mem_singleton.mp z) (Nat.ne_of_lt (Heap.lt_size e))) (Heap.get?_push_of_some _ e)), ⟨t, rfl⟩, q⟩
  refine ge_callB cr Gm.max hg bt_max (ga_cons h ga_nil hs) (ra1 fun v S H Q st ⟨r0, l, es, e1, e0, e2, e3⟩ k => ⟨r0, l, es, by rw [e1], st.sub _ _ e0, st.sub _ _ e2, (krep_ok e3).mono st.sub, ?_, k _ S H st.refl rfl⟩) (by decide) (by decide) hs rfl
  have := krep_vals e3
  rw [hv] at this
  exact reps_ints this
end
end G
set_option maxHeartbeats 1000000
/-! K7: dict(pairs). -/
namespace G
open PySem PySem.Spec PyProof.Rows L2 LamX NdefX
section
variable {X : Cx} {T : List NTab}
/-- the pairs of a tuple, as they lie -/
theorem pairs_lie {pins : List (Addr × Obj)} {σ : L2.St} {S H : Hp} {s : Shared} (I : Inv X pins σ H s) (sub : Same S H) : ∀ {kvs : List (Vl × Vl)} {vs : List V} {us : List Value}, reps X.K S (kvs.map fun p => Vl.tup [p.1, p.2]) vs → Vals vs us → (∀ p ∈ kvs, keyOk p.1 ∧ isTu p.1) →
    ∃ (Ts : List Addr) (es : List Ent) (xs : List (NestedKey × Addr × Value)), us = Ts.map Value.ref ∧ krep X.K S kvs es ∧ KN es xs ∧ Ts.length = xs.length ∧ ∀ (j : Nat) t x, Ts[j]? = some t → xs[j]? = some x → PairAt s.heap t (.ref x.2.1) x.2.2
  | [], vs, us, r, rv, _ => by
    have r : vs = [] := r
    subst r
    cases rv
    exact ⟨[], [], [], rfl, rfl, .nil, rfl, fun j t x h => by simp at h⟩
  | (k, y) :: kvs, _, us, ⟨v, t, e1, e2, e3⟩, rv, hk => by
    subst e1
    cases rv with
    | @cons _ u _ us' r1 r2 =>
      obtain ⟨Ts, es, xs, q1, q2, q3, q4, q5⟩ := pairs_lie I sub e3 r2 (fun p hp => hk p (.tail _ hp))
      obtain ⟨a, ps, f1, f2, w1, t1, g1, g2, w2, t2, g3, g4, g5⟩ := e2
      have g5 : t2 = [] := g5
      subst f1 g1 g3 g5
      obtain rfl : u = Value.ref a := r1
      obtain ⟨hko, hit⟩ := hk _ (.head _)
      obtain ⟨bb, eb⟩ := rep_ref hko hit g2
      subst eb
      obtain ⟨its, ri, ht, _⟩ := I.tuple (Same.sqT sub f2)
      cases ri with
      | @cons _ u1 _ its1 m1 m2 =>
        cases m2 with
        | @cons _ u2 _ its2 m3 m4 =>
          cases m4
          obtain rfl : u1 = Value.ref bb := m1
          refine ⟨a :: Ts, (toK k, bb, w2) :: es, (toK k, bb, u2) :: xs, by rw [q1]; rfl, ⟨bb, w2, es, rfl, hko, g2, g4, q2⟩, .cons ⟨rfl, rfl, m3⟩ q3, by simp [q4], fun j t x h1 h2 => ?_⟩
          cases j with
          | zero =>
            simp at h1 h2
            subst h1 h2
            exact .inl ht
          | succ j => exact q5 j t x (by simpa using h1) (by simpa using h2)
def rDictP (X : Cx) (T : List NTab) : List V → Hp → VK → Prop := fun vs H Q => ∃ (S : Hp) (kvs : List (Vl × Vl)) (v : V), vs = [v] ∧ Sta T S H ∧ rep X.K S (.tud (kvs.map fun p => Vl.tup [p.1, p.2])) v ∧ (∀ p ∈ kvs, keyOk p.1 ∧ isTu p.1) ∧ (kvs.map fun p => toK p.1).Nodup ∧
  ∀ l es, H l = none → krep X.K S kvs es → Q (.ref l) (upd H l (kdH X.prog X.w l es))
theorem krep_ks {K : PySem.W.Frag} {S : Hp} : ∀ {kvs : List (Vl × Vl)} {es : List Ent}, krep K S kvs es → es.map (·.1) = kvs.map fun p => toK p.1
  | [], _, h => by have h : _ = [] := h; subst h; rfl
  | (x, y) :: r, _, ⟨b, v, t, e1, e2, e3, e4, e5⟩ => by subst e1; rw [List.map_cons, List.map_cons, krep_ks e5]
theorem cr_dictP (hc : X.calm = true) (hu : X.A.units + 12 < cLine) : CallR X (.type "dict") (rDictP X T) := fun pins s σ H vs us Q I r ⟨S, kvs, v, e1, st, rx, hk, hn, q⟩ => by
  subst e1
  obtain ⟨u, eu, ru⟩ := vals1 r
  subst eu
  obtain ⟨a, vs, o, f1, f2, f3, f4⟩ := rx
  subst f1
  obtain rfl : u = Value.ref a := ru
  have hh : X.A.handled = none := I.ok.hd hc
  obtain ⟨hg, hz, its, rv, o', ho', hcl, n, hd'⟩ := (show ObjOk X.prog X.w H s.heap a (.frz o (.tup vs)) from I.hok a _ (st.sub _ _ f2))
  rw [hg] at ho'
  cases ho'
  obtain ⟨Ts, es, xs, q1, q2, q3, q4, q5⟩ := pairs_lie I st.sub f4 rv hk
  have hlen : its.length = xs.length := by rw [q1, List.length_map]; exact q4
  have hz' : xs.length ≤ sizeLine := by rw [← hlen, ← rv.length]; exact hz
  have ok := (krep_ok q2).mono st.sub
  have keysIs : ∀ x ∈ xs, (nestedKind X.prog X.w).is s.heap x.1 x.2.1 := by
    have all : ∀ {l : List Ent} {m : List (NestedKey × Addr × Value)}, KN l m → EsOk X.K H l → ∀ x ∈ m, (nestedKind X.prog X.w).is s.heap x.1 x.2.1 := by
      intro l m r
      induction r with
      | nil => intro _ x hx; cases hx
      | @cons p q ps qs h t ih =>
        intro ok x hx
        rcases List.mem_cons.mp hx with rfl | hx
        · have := key_is I (ok p (.head _))
          rw [h.1, h.2.1] at this
          exact this
        · exact ih (fun e he => ok e (.tail _ he)) x hx
    exact all q3 ok
  have hnx : (xs.map (·.1)).Nodup := by rw [← q3.keys, krep_ks q2]; exact hn
  have pl : PlainSeq "tuple" s.heap a its.toArray := ⟨o, n, hg, hcl, f3, hd'⟩
  have pit : PairItems s.heap its.toArray (fun j => Ts.getD j 0) (xs.map fun x => (Value.ref x.2.1, x.2.2)) := by
    refine ⟨by rw [List.size_toArray, List.length_map]; exact hlen, fun j k v hj => ?_⟩
    rw [List.getElem?_map] at hj
    cases hx : xs[j]? with
    | none => rw [hx] at hj; cases hj
    | some x =>
      rw [hx] at hj
      cases hj
      have hjl : j < Ts.length := by rw [q4]; exact (List.getElem?_eq_some_iff.mp hx).1
      have ht : Ts[j]? = some Ts[j] := List.getElem?_eq_getElem hjl
      have hg2 : Ts.getD j 0 = Ts[j] := by rw [List.getD_eq_getElem?_getD, ht]; rfl
      refine ⟨?_, by show PairAt s.heap (Ts.getD j 0) _ _; rw [hg2]; exact q5 j _ x ht hx⟩
      show its.toArray[j]? = some (Value.ref (Ts.getD j 0))
      rw [hg2]
      simp [q1, ht]
  have st9 := nestedKind_stays (prog := X.prog) (w := X.w)
  refine call_dict_pairsH (knd := nestedKind X.prog X.w) (ps := xs) (PairArg.tuple (prog := X.prog) (w := X.w) a its.toArray (fun j => Ts.getD j 0) (xs.map fun x => (Value.ref x.2.1, x.2.2))) hh (by show X.A.units + 1 + 1 + 8 < cLine; omega) ⟨pl, pit⟩ ?_ ?_ (by rw [List.length_map]; exact hz') fun h' tk dd hk' => ?_
  · refine ⟨by rw [List.length_map], fun i key v hr => ?_⟩
    have hr : (xs.map fun x => (Value.ref x.2.1, x.2.2))[i]? = some (key, v) := hr
    rw [List.getElem?_map] at hr
    cases hx : xs[i]? with
    | none => rw [hx] at hr; cases hr
    | some x => rw [hx] at hr; cases hr; exact ⟨x.1, x.2.1, rfl, rfl⟩
  · intro h' hk' x hx
    exact st9.stays (fun b o vs n e _ => hk' b o (Nat.ne_of_lt (Heap.lt_size e)) (by simp) e) (keysIs x hx)
  · rw [storedAllH_nil_of_nodup xs hnx] at dd
    have hm : (s.heap.objs.size == sysModules) = false := beq_eq_false_iff_ne.mpr (Nat.ne_of_gt I.big)
    refine ⟨.ref s.heap.objs.size, _, I.laid (a := s.heap.objs.size) (t' := tk) (h' := h') (fun b o e => hk' b o (by simp) e) (Nat.le_refl _) (kd_new (es := es) hm (by rw [Paired.length q3]; exact hz') (by rw [q3.keys]; exact hnx) q3 dd), rfl, q _ es (I.hok.fresh (Nat.le_refl _)) q2⟩
end
section
variable {X : Cx} {B : Bs} {Γ Γ' : List Sl} {a : Expr} {pos p : Pos} {kvs : List (Vl × Vl)}
theorem go_dictP (Gm : Gf X.mg) (hc : X.calm = true) (hu : X.A.units + 12 < cLine) (h : GE X B Γ a (.tud (kvs.map fun p => Vl.tup [p.1, p.2]))) (hk : ∀ p ∈ kvs, keyOk p.1 ∧ isTu p.1) (hn : (kvs.map fun p => toK p.1).Nodup) (hg : Gl X "dict" := by rfl) (hs : starEach [a] X.env = (false, eval a X.env) :: starEach [] X.env := by rfl) :
    GO X B Γ (.Call (.Name "dict" p) [a] [] pos) (owK X.prog X.w X.K kvs) :=
  go_callT (cr_dictP (T := B.T) hc hu) Gm.dict hg bt_dict (ga_cons h ga_nil hs) (rao1 fun v S H Q st r k => ⟨S, kvs, v, rfl, st, r, hk, hn, fun l es hl hr => by
    refine k l _ S _ (st.newO hl) hl (sta_none st hl) upd_same ⟨es, rfl, hr⟩⟩) (by decide) (by decide) hs rfl
end
end G
set_option maxHeartbeats 1000000
/-! K8: dicts from ints to ints. -/
namespace G
open PySem PySem.Spec PyProof.Rows L2 LamX NdefX
def enI (ds : List (Int × Int)) : List (L2.Key × V) := ds.map fun p => (Sum.inl p.1, V.int p.2)
theorem val_enI (ds : List (Int × Int)) (k : Int) : valV (enI ds) (Sum.inl k : L2.Key) = (ds.lookup k).map V.int := by
  unfold valV enI
  induction ds with
  | nil => rfl
  | cons p ds ih =>
    obtain ⟨a, b⟩ := p
    rw [List.map_cons, List.find?_cons, List.lookup_cons]
    by_cases h : a = k
    · subst h
      rw [decide_eq_true rfl]
      simp
    · rw [decide_eq_false (fun z => h (Sum.inl.inj z)), show (k == a) = false from by simpa using fun z => h z.symm]
      exact ih
theorem put_enI {ds : List (Int × Int)} {k v : Int} (h : ds.lookup k = none) : putK (enI ds) (Sum.inl k : L2.Key) (V.int v) = enI (ds ++ [(k, v)]) := by
  have e : valV (enI ds) (Sum.inl k : L2.Key) = none := by rw [val_enI, h]; rfl
  unfold putK
  rw [valV_any, e]
  show enI ds ++ [_] = _
  unfold enI
  rw [List.map_append]; rfl
theorem enI_len (ds : List (Int × Int)) : (enI ds).length = ds.length := by unfold enI; rw [List.length_map]
def owI (ds : List (Int × Int)) : Own where
  r := fun _ o _ => o = .dK (enI ds)
  mono := fun _ _ _ _ _ h => h
  nt := fun _ o H h ps z => by rw [h] at z; cases z
  nc := fun _ o H h c q z => by rw [h] at z; unfold CodeO at z; cases z
def diO (ds : List (Int × Int)) : Ob where
  p := fun v H => ∃ l, v = .ref l ∧ H l = some (.dK (enI ds))
  mono := fun v H H' e ⟨l, h1, h2⟩ => ⟨l, h1, e _ _ h2⟩
abbrev diV (ds : List (Int × Int)) : Vl := .ob (diO ds)
theorem owI_diV {K : PySem.W.Frag} {ds : List (Int × Int)} (l : Addr) (ho : HO) (S S' : Hp) (sm : Same S S') (h : S' l = some ho) (r : (owI ds).r l ho S) : rep K S' (diV ds) (.ref l) := ⟨l, rfl, by rw [h, r]⟩
def tDI (X : Cx) (B : Bs) (Γ : List Sl) (ds : List (Int × Int)) : TE := fun σ H Q => ∃ S, Env X.K B Γ σ S H ∧ ∀ l S' H', Stp B.T S H S' H' → H' l = some (.dK (enI ds)) → Q (.ref l) H'
abbrev GDI (X : Cx) (B : Bs) (Γ : List Sl) (e : Expr) (ds : List (Int × Int)) : Prop := PE X e (tDI X B Γ ds)
section
variable {X : Cx} {B : Bs} {Γ Γ' : List Sl} {x y z : Vl} {a b c e d : Expr} {pos : Pos} {ds : List (Int × Int)} {k v : Int}
theorem gdi_own (i : Nat) {f : Option Addr} {n : Str} {p : Pos} (hg : Γ[i]? = some (.ow f (owI ds)) := by rfl) (hN : X.N[i]? = some n := by rfl) (hv : Vis X.env.scope n := by first | exact Or.inl rfl | exact Or.inr (Or.inl rfl) | exact Or.inr (Or.inr rfl)) (hd : (n == ("__debug__" : Str)) = false := by decide) (hcd : (n == ("__classdict__" : Str)) = false := by decide) : GDI X B Γ (.Name n p) ds :=
  PE_imp (pe_var hN hv hd hcd) fun σ H Q ⟨S, en, k⟩ => by
    obtain ⟨l, ho, h1, _, _, h2, h3, _⟩ := en.ow i f _ hg
    have h3 : ho = .dK (enI ds) := h3
    subst h3
    exact ⟨.ref l, h1, k l S H en.st.refl h2⟩
theorem gdi_val (h : GE X B Γ e (diV ds)) : GDI X B Γ e ds :=
  PE_imp h fun σ H Q ⟨S, en, k⟩ => ⟨S, en, fun v S' H' t ⟨l, e1, e2⟩ => by
    subst e1
    exact k l S' H' t (t.st.sub _ _ e2)⟩
theorem op_niI (hu : X.A.units + 1 < cLine) : OpR X (compareOp .NotIn) (fun y d H Q => ∃ a o, d = .ref a ∧ DGet H a y o ∧ Q (.bl (!o.isSome)) H) := fun pins s σ H y d v u Q I ry rd ⟨a, o, e1, g, q⟩ => by
  subst e1
  have rd : u = .ref a := rd
  subst rd
  exact d_notIn hu I g ry fun s' I' => ⟨.bl (!o.isSome), H, I', rfl, q⟩
theorem gt_niI (ha : GE X B Γ a (.int k)) (hd : GDI X B Γ d ds) (hu : X.A.units + 1 < cLine) (hm : behindInMarks .NotIn d = false := by rfl) : GT X B Γ (.Compare a [.NotIn] [d] pos) (!(ds.lookup k).isSome) :=
  PT_imp (pt_cmpR (op_niI hu) ha hd hm) fun σ H Q ⟨S, en, q⟩ => ⟨S, en, fun v S1 H1 t1 h1 => ⟨S1, en.step t1, fun l S2 H2 t2 h2 => by
    have h1 : v = .int k := h1
    subst h1
    refine ⟨l, _, rfl, DGet.k (k := Sum.inl k) h2, !(ds.lookup k).isSome, ?_, q S2 H2 (t1.trans t2)⟩
    rw [val_enI, Option.isSome_map]⟩⟩
theorem ge_ixI (hd : GDI X B Γ d ds) (ha : GE X B Γ a (.int k)) (hu : X.A.units + 1 < cLine) (hv : ds.lookup k = some v) (hs : NoSl a := by exact fun _ _ => rfl) : GE X B Γ (.Subscript d a pos) (.int v) :=
  PE_imp (pe_dget hu hd ha hs) fun σ H Q ⟨S, en, q⟩ => ⟨S, en, fun l S1 H1 t1 h1 => ⟨S1, en.step t1, fun kv S2 H2 t2 h2 => by
    have h2 : kv = .int k := h2
    subst h2
    refine ⟨l, .int v, rfl, ?_, q _ S2 H2 (t1.trans t2) rfl⟩
    have := DGet.k (k := (Sum.inl k : L2.Key)) (t2.h l _ h1 (fun ps z => by cases z))
    rw [val_enI, hv] at this
    exact this⟩⟩
theorem ge_lenI {p : Pos} (Gm : Gf X.mg) (hd : GDI X B Γ d ds) (hg : Gl X "len" := by rfl) (hs : starEach [d] X.env = (false, eval d X.env) :: starEach [] X.env := by rfl) : GE X B Γ (.Call (.Name "len" p) [d] [] pos) (.int ds.length) := by
  have hc : CallR X (.builtin "len") (fun xs H Q => ∃ l, xs = [.ref l] ∧ H l = some (.dK (enI ds)) ∧ Q (.int ds.length) H) := fun pins s σ H xs us Q I r ⟨l, e1, h1, q⟩ => by
    subst e1
    obtain ⟨u, eu, rx⟩ := vals1 r
    subst eu
    cases rx
    refine d_len I (.inl h1) fun t s' I' => ?_
    rw [enI_len]
    exact ⟨.int ds.length, H, I', ⟨_, rfl⟩, q⟩
  refine PE_imp (pe_callB hc hg Gm.len PySem.boot_len (pa_cons hd pa_nil hs) (by decide) (by decide) hs rfl) fun σ H Q ⟨S, en, k⟩ => ⟨S, en, fun l S1 H1 t1 h1 => ⟨l, rfl, h1, k _ S1 H1 t1 rfl⟩⟩
theorem gs_putI {i : Nat} {f : Option Addr} {n : Str} {np p' : Pos} (hi : Γ[i]? = some (.ow f (owI ds))) (hN : X.N[i]? = some n) (hv : Vis X.env.scope n) (hval : GE X B Γ b (.int v)) (hkey : GE X B Γ a (.int k)) (hn : ds.lookup k = none) (hu : X.A.units + 1 < cLine) (hl : ds.length < sizeLine) (hw : ∀ l, f = some l → l ∈ B.L0)
    (hs : swapsWith b (some (.Subscript (.Name n np) a p')) pos.line X.env = pure false := by rfl) (hd : (n == ("__debug__" : Str)) = false := by decide) (hcd : (n == ("__classdict__" : Str)) = false := by decide) :
    GS X B Γ (.Assign [.Subscript (.Name n np) a p'] b pos) (Γ.set i (.ow f (owI (ds ++ [(k, v)])))) :=
  PS_imp (ps_dput hu (pe_var hN hv hd hcd) hkey hval hs) fun D σ H ⟨S, en, q⟩ => ⟨S, en, fun vv S1 H1 t1 h1 => by
    have h1 : vv = .int v := h1
    subst h1
    have en1 := en.step t1
    obtain ⟨l, ho, o1, o2, o3, o4, o5, o6⟩ := en1.ow i f _ hi
    have o5 : ho = .dK (enI ds) := o5
    subst o5
    refine ⟨.ref l, o1, S1, en1, fun kv S2 H2 t2 h2 => ?_⟩
    have h2 : kv = .int k := h2
    subst h2
    refine ⟨l, _, rfl, DPut.k (k := (Sum.inl k : L2.Key)) (t2.h l _ o4 (fun ps z => by cases z)) (by rw [enI_len]; exact hl), ?_⟩
    rw [put_enI hn]
    exact q σ S2 _ ((en1.step t2).write hi o1 rfl hw)⟩
theorem go_dictI1 (hk : GE X B Γ a (.int k)) (hv : GE X B Γ b (.int v)) : GO X B Γ (.Dict [some a] [b] pos) (owI [(k, v)]) :=
  PE_imp (pe_disp (pps_cons hk hv pps_nil) rfl rfl (by simp) (Nat.le_of_ble_eq_true rfl)) fun σ H Q ⟨S, en, q⟩ => fun p hp => by
    have t0 := en.st.newO hp (o := .dK [])
    refine ⟨S, en.step t0, fun kv S1 H1 t1 h1 => ⟨S1, (en.step t0).step t1, fun vv S2 H2 t2 h2 => ?_⟩⟩
    have h1 : kv = .int k := h1
    have h2 : vv = .int v := h2
    subst h1 h2
    have hD : H2 p = some (.dK []) := (t1.trans t2).h _ _ upd_same (fun ps z => by cases z)
    have hS : S2 p = none := (t1.trans t2).fr _ (sta_none en.st hp) ⟨_, upd_same, (fun ps z => by cases z), (fun c q z => by unfold CodeO at z; cases z)⟩
    refine ⟨hD, enI [(k, v)], rfl, Nat.le_of_ble_eq_true rfl, ?_⟩
    exact q p _ S2 _ (((t0.trans t1).trans t2).over hp hS hD (fun ps z => by cases z) (fun c q z => by unfold CodeO at z; cases z) _) hp hS upd_same rfl
end
end G
set_option maxHeartbeats 1000000
/-! K9: functions as values; cells that are known. -/
namespace G
open PySem PySem.Spec PyProof.Rows L2 LamX NdefX

/-! ### cells -/
def cellE (a : Addr) (v : V) : HO := .ext fun h => ∃ u, RelV v u ∧ h.IsCell a (some u)
theorem cellE_ok {P : Program} {w : World} {H : Hp} {h : Heap} {a : Addr} {v : V} {u : Value} {o : Obj} (r : RelV v u) (e : h.get? a = some o) (d : o.data = .cell (some u)) : ObjOk P w H h a (.frz o (cellE a v)) :=
  ⟨e, ⟨u, r, o, e, d⟩, ⟨o, e⟩, fun h1 h2 ⟨u, r, o, e, d⟩ k => ⟨u, r, o, k _ e, d⟩⟩
abbrev Cels := Addr → Option (Obj × V)
def addC (H : Hp) (C : Cels) : Hp := fun a => match C a with
  | some (o, v) => some (.frz o (cellE a v))
  | none => H a
def delC (H : Hp) (C : Cels) : Hp := fun a => if (C a).isSome then none else H a
/-- the cells are known -/
def Has (H : Hp) (C : Cels) : Prop := ∀ a o v, C a = some (o, v) → H a = some (.frz o (cellE a v))
section
variable {H H' : Hp} {C : Cels} {a : Addr} {x : HO}
theorem addC_in {o : Obj} {v : V} (h : C a = some (o, v)) : addC H C a = some (.frz o (cellE a v)) := by unfold addC; rw [h]
theorem addC_out (h : C a = none) : addC H C a = H a := by unfold addC; rw [h]
theorem delC_in {y : Obj × V} (h : C a = some y) : delC H C a = none := by unfold delC; rw [h]; rfl
theorem delC_out (h : C a = none) : delC H C a = H a := by unfold delC; rw [h]; rfl
theorem delC_some (h : delC H C a = some x) : C a = none ∧ H a = some x := by
  unfold delC at h
  cases e : C a with
  | none => rw [e] at h; exact ⟨rfl, h⟩
  | some y => rw [e] at h; cases h
theorem delC_ne (hh : Has H C) (h : H a = some x) (n : ∀ o v, x ≠ .frz o (cellE a v)) : delC H C a = some x := by
  cases e : C a with
  | none => rw [delC_out e]; exact h
  | some y =>
    obtain ⟨o, v⟩ := y
    have := hh a o v e
    rw [h] at this
    exact absurd (Option.some.inj this) (n o v)
theorem addC_some (hn : ∀ a, (C a).isSome → H a = none) (h : H a = some x) : addC H C a = some x := by
  cases e : C a with
  | none => rw [addC_out e]; exact h
  | some y => have := hn a (by rw [e]; rfl); rw [this] at h; cases h
theorem addC_has : Has (addC H C) C := fun a o v h => addC_in h
theorem cellE_own {o : Obj} {v : V} {y : Addr} : HO.frz o (cellE a v) ≠ .own y := fun z => by cases z
/-! ### calls with the cells out of sight -/
theorem hok_del {P : Program} {w : World} {h : Heap} (ok : HOk P w H h) (hh : Has H C) : HOk P w (delC H C) h := fun a o e => by
  obtain ⟨_, e⟩ := delC_some e
  exact (ok a o e).stay (fun _ _ _ q => q) (fun b q => delC_ne hh q (fun o v z => by cases z)) (fun b xs q => delC_ne hh q (fun o v z => by cases z))
theorem hok_add {P : Program} {w : World} {h : Heap} (ok : HOk P w H h) (hn : ∀ a, (C a).isSome → H a = none) (hc : ∀ a o v, C a = some (o, v) → h.get? a = some o ∧ ∃ u, RelV v u ∧ o.data = .cell (some u)) : HOk P w (addC H C) h := fun a x e => by
  cases q : C a with
  | none =>
    rw [addC_out q] at e
    exact (ok a x e).stay (fun _ _ _ q => q) (fun b q => addC_some hn q) (fun b xs q => addC_some hn q)
  | some y =>
    obtain ⟨o, v⟩ := y
    rw [addC_in q] at e
    cases e
    obtain ⟨h1, u, h2, h3⟩ := hc a o v q
    exact cellE_ok h2 h1 h3
theorem has_heap {P : Program} {w : World} {h : Heap} (ok : HOk P w H h) (hh : Has H C) {o : Obj} {v : V} (e : C a = some (o, v)) : h.get? a = some o ∧ ∃ u, RelV v u ∧ o.data = .cell (some u) := by
  obtain ⟨h1, ⟨u, h2, o', h3, h4⟩, _⟩ := (show ObjOk P w H h a (.frz o (cellE a v)) from ok a _ (hh a o v e))
  rw [h1] at h3
  cases h3
  exact ⟨h1, u, h2, h4⟩
theorem env0_del {P : Program} {w : World} {K : PySem.W.Frag} {mg : Str → Option Value} {base : Heap} {A : Around} {outer : List PySem.Env} {s : Shared} (e : Env0 P w K mg base A outer s H) (hh : Has H C) : Env0 P w K mg base A outer s (delC H C) where
  frames := e.frames
  mod := e.mod
  bs := fun b o q => ⟨(e.bs b o q).1, by
    cases z : delC H C b with
    | none => rfl
    | some x => obtain ⟨_, z⟩ := delC_some z; rw [(e.bs b o q).2] at z; cases z⟩
  bsz := e.bsz
  funs := e.funs
  frf := fun b hb => by
    cases z : delC H C b with
    | none => rfl
    | some x => obtain ⟨_, z⟩ := delC_some z; rw [e.frf b hb] at z; cases z
  hok := hok_del e.hok hh
  bare := e.bare
theorem env0_add {P : Program} {w : World} {K : PySem.W.Frag} {mg : Str → Option Value} {base : Heap} {A : Around} {outer : List PySem.Env} {s : Shared} (e : Env0 P w K mg base A outer s H) (hn : ∀ a, (C a).isSome → H a = none) (hb : ∀ a, (C a).isSome → base.get? a = none) (hf : ∀ a, (C a).isSome → a ∉ frs outer) (hc : ∀ a o v, C a = some (o, v) → s.heap.get? a = some o ∧ ∃ u, RelV v u ∧ o.data = .cell (some u)) : Env0 P w K mg base A outer s (addC H C) where
  frames := e.frames
  mod := e.mod
  bs := fun b o q => ⟨(e.bs b o q).1, by
    have z : C b = none := by
      cases z : C b with
      | none => rfl
      | some y => have := hb b (by rw [z]; rfl); rw [this] at q; cases q
    rw [addC_out z]; exact (e.bs b o q).2⟩
  bsz := e.bsz
  funs := e.funs
  frf := fun b hb => by
    have z : C b = none := by
      cases z : C b with
      | none => rfl
      | some y => exact absurd hb (hf b (by rw [z]; rfl))
    rw [addC_out z]; exact e.frf b hb
  hok := hok_add e.hok hn hc
  bare := e.bare
/-- what a call did with the cells out of sight, told with them in sight -/
theorem un_del {fs : List Addr} {h h' : Heap} (u : Un fs [] (delC H C) H' h h') (hh : Has H C) (hc : ∀ a o v, C a = some (o, v) → h.get? a = some o) (hf : ∀ a, (C a).isSome → a ∉ fs) :
    Un fs [] H (addC H' C) h h' ∧ (∀ a, (C a).isSome → H' a = none) ∧ ∀ a o v, C a = some (o, v) → h'.get? a = some o := by
  have k1 : ∀ a o v, C a = some (o, v) → h'.get? a = some o := fun a o v e => u.keep a o (hc a o v e) (delC_in e) (hf a (by rw [e]; rfl)) (by simp)
  have k2 : ∀ a, (C a).isSome → H' a = none := fun a e => by
    obtain ⟨⟨o, v⟩, e⟩ := Option.isSome_iff_exists.mp e
    exact u.free a o (hc a o v e) (delC_in e) (by simp)
  have out : ∀ {b}, H b = none → C b = none ∧ delC H C b = none := fun {b} n => by
    have z : C b = none := by
      cases z : C b with
      | none => rfl
      | some y => obtain ⟨o, v⟩ := y; have := hh b o v z; rw [n] at this; cases this
    exact ⟨z, by rw [delC_out z]; exact n⟩
  refine ⟨⟨fun b o e n hb hx => u.keep b o e (out n).2 hb hx, fun b o e n hb hx => u.slot b o e (out n).2 hb hx, fun b o e n hx => ?_, u.there, fun b xs e => ?_, fun b o x e => ?_, fun b ps e => ?_⟩, k2, k1⟩
  · rw [addC_out (out n).1]; exact u.free b o e (out n).2 hx
  · exact addC_some k2 (u.tups b xs (delC_ne hh e (fun o v z => by cases z)))
  · cases z : C b with
    | none => rw [addC_out z]; exact u.frzs b o x (by rw [delC_out z]; exact e)
    | some y =>
      obtain ⟨o2, v⟩ := y
      rw [addC_in z]
      have := hh b o2 v z
      rw [e] at this
      exact this.symm
  · obtain ⟨more, q⟩ := u.tbls b ps (delC_ne hh e (fun o v z => by cases z))
    exact ⟨more, addC_some k2 q⟩
/-- what a call did with the cells in sight, told without them -/
theorem un_add {P : Program} {w : World} {fs : List Addr} {h h' : Heap} (u : Un fs [] (addC H C) H' h h') (hn : ∀ a, (C a).isSome → H a = none) (hc : ∀ a o v, C a = some (o, v) → h.get? a = some o) (ok : HOk P w H' h') : Un fs [] H (delC H' C) h h' ∧ Has H' C := by
  have hh : Has H' C := fun a o v e => u.frzs a o _ (addC_in e)
  have k1 : ∀ a o v, C a = some (o, v) → h'.get? a = some o := fun a o v e => (has_heap ok hh e).1
  refine ⟨⟨fun b o e n hb hx => ?_, fun b o e n hb hx => ?_, fun b o e n hx => ?_, u.there, fun b xs e => ?_, fun b o x e => ?_, fun b ps e => ?_⟩, hh⟩
  · cases z : C b with
    | none => exact u.keep b o e (by rw [addC_out z]; exact n) hb hx
    | some y => obtain ⟨o2, v⟩ := y; rw [hc b o2 v z] at e; cases e; exact k1 b _ v z
  · cases z : C b with
    | none => exact u.slot b o e (by rw [addC_out z]; exact n) hb hx
    | some y => obtain ⟨o2, v⟩ := y; rw [hc b o2 v z] at e; cases e; exact ⟨_, k1 b _ v z⟩
  · cases z : C b with
    | none => rw [delC_out z]; exact u.free b o e (by rw [addC_out z]; exact n) hx
    | some y => exact delC_in z
  · have z : C b = none := by
      cases z : C b with
      | none => rfl
      | some y => have := hn b (by rw [z]; rfl); rw [this] at e; cases e
    rw [delC_out z]; exact u.tups b xs (by rw [addC_out z]; exact e)
  · have z : C b = none := by
      cases z : C b with
      | none => rfl
      | some y => have := hn b (by rw [z]; rfl); rw [this] at e; cases e
    rw [delC_out z]; exact u.frzs b o x (by rw [addC_out z]; exact e)
  · have z : C b = none := by
      cases z : C b with
      | none => rfl
      | some y => have := hn b (by rw [z]; rfl); rw [this] at e; cases e
    rw [delC_out z]; exact u.tbls b ps (by rw [addC_out z]; exact e)
end
end G
set_option maxHeartbeats 1000000
/-! K10: functions as values. -/
namespace G
open PySem PySem.Spec PyProof.Rows L2 LamX NdefX
section
variable {K : PySem.W.Frag} {S : Hp} {C : Cels}
theorem sqT_del (hh : Has S C) {a : Addr} {vs : List V} (h : SqT K S a vs) : SqT K (delC S C) a vs := by
  rcases h with (h | ⟨o, h⟩) | h
  · exact .inl (.inl (delC_ne hh h (fun o v z => by cases z)))
  · exact .inl (.inr ⟨o, delC_ne hh h (fun o v z => by unfold cellE at z; cases z)⟩)
  · exact .inr h
mutual
theorem rep_del (hh : Has S C) : ∀ (x : Vl) (v : V), plain x = true → rep K S x v → rep K (delC S C) x v
  | .non, _, _, h => h
  | .bl b, _, _, h => h
  | .int i, _, _, h => h
  | .str s, _, _, h => h
  | .tup xs, _, p, ⟨a, vs, e1, e2, e3⟩ => ⟨a, vs, e1, sqT_del hh e2, reps_del hh xs vs p e3⟩
  | .tud xs, _, p, ⟨a, vs, o, e1, e2, e4, e3⟩ => ⟨a, vs, o, e1, delC_ne hh e2 (fun o v z => by unfold cellE at z; cases z), e4, reps_del hh xs vs p e3⟩
  | .lst xs, _, p, ⟨a, vs, e1, e2, e3⟩ => ⟨a, vs, e1, delC_ne hh e2 (fun o v z => by cases z), reps_del hh xs vs p e3⟩
  | .ob _, _, p, _ => by cases p
theorem reps_del (hh : Has S C) : ∀ (xs : List Vl) (vs : List V), plains xs = true → reps K S xs vs → reps K (delC S C) xs vs
  | [], _, _, h => h
  | x :: xs, _, p, ⟨v, r, e1, e2, e3⟩ => by
    have p : (plain x && plains xs) = true := p
    obtain ⟨p1, p2⟩ := Bool.and_eq_true_iff.mp p
    exact ⟨v, r, e1, rep_del hh x v p1 e2, reps_del hh xs r p2 e3⟩
end
end
section
variable {T : List NTab} {S H S' H' : Hp} {C : Cels}
theorem tabs_del (t : TabsN T H) (hh : Has H C) : TabsN T (delC H C) := fun p hp => by
  obtain ⟨ps, h1, h2, h3⟩ := t p hp
  refine ⟨ps, delC_ne hh h1 (fun o v z => by cases z), h2, fun pos cv hc => ?_⟩
  obtain ⟨c, e1, e2⟩ := h3 pos cv hc
  exact ⟨c, e1, delC_ne hh e2 (fun o v z => by unfold CodeO at z; cases z)⟩
theorem sta_del (st : Sta T S H) (hs : Has S C) : Sta T (delC S C) (delC H C) := by
  have hh : Has H C := fun a o v e => st.sub _ _ (hs a o v e)
  refine ⟨fun a x e => ?_, tabs_del st.tb hh, fun a ps e => ?_⟩
  · obtain ⟨z, e⟩ := delC_some e
    rw [delC_out z]; exact st.sub _ _ e
  · obtain ⟨_, e⟩ := delC_some e
    exact st.nt a ps e
theorem same_add (hn : ∀ a, (C a).isSome → S a = none) : Same S (addC S C) := fun a x e => addC_some hn e
/-- the step with the cells out of sight, told with them in sight -/
theorem stp_del (st : Sta T S H) (hs : Has S C) (t : Stp T (delC S C) (delC H C) S' H') (hn : ∀ a, (C a).isSome → H' a = none) : Stp T S H (addC S' C) (addC H' C) ∧ Same S' (addC S' C) := by
  have hh : Has H C := fun a o v e => st.sub _ _ (hs a o v e)
  have hns : ∀ a, (C a).isSome → S' a = none := fun a e => by
    cases q : S' a with
    | none => rfl
    | some x => have q1 := hn a e; have q2 := t.st.sub _ _ q; rw [q1] at q2; cases q2
  have sm := same_add hns
  have smH := same_add hn
  refine ⟨⟨⟨fun a x e => ?_, t.st.tb.ext smH, fun a ps e => ?_⟩, fun a x e => ?_, fun a x e n => ?_, fun a e n => ?_, fun a n => ?_⟩, sm⟩
  · cases z : C a with
    | none => rw [addC_out z] at e ⊢; exact t.st.sub _ _ e
    | some y => obtain ⟨o, v⟩ := y; rw [addC_in z] at e ⊢; exact e
  · cases z : C a with
    | none => rw [addC_out z] at e; exact t.st.nt a ps e
    | some y => obtain ⟨o, v⟩ := y; rw [addC_in z] at e; cases e
  · cases z : C a with
    | none => rw [addC_out z]; exact t.s a x (by rw [delC_out z]; exact e)
    | some y => obtain ⟨o, v⟩ := y; rw [addC_in z]; rw [hs a o v z] at e; exact e
  · cases z : C a with
    | none => rw [addC_out z]; exact t.h a x (by rw [delC_out z]; exact e) n
    | some y => obtain ⟨o, v⟩ := y; rw [addC_in z]; rw [hh a o v z] at e; exact e
  · cases z : C a with
    | none => rw [addC_out z]; exact t.fr a (by rw [delC_out z]; exact e) (let ⟨u, u1, u2⟩ := n; ⟨u, by rw [delC_out z]; exact u1, u2⟩)
    | some y => obtain ⟨o, v⟩ := y; rw [hs a o v z] at e; cases e
  · cases z : C a with
    | none => rw [addC_out z]; exact t.lv a (by rw [delC_out z]; exact n)
    | some y => obtain ⟨o, v⟩ := y; rw [addC_in z]; simp
end

/-! ### what may be called -/
abbrev Pre := List Vl → Vl → Prop
def Callable (P : Program) (w : World) (K : PySem.W.Frag) (mg : Str → Option Value) (base : Heap) (T : List NTab) (k : Nat) (pre : Pre) (f : Addr) (S0 : Hp) : Prop :=
  ∀ (S H : Hp), Same S0 S → Sta T S H → ∀ (A : Around) (outer : List PySem.Env) (s : Shared) (us : List Value) (vs : List V) (xs : List Vl) (y : Vl) (Q : VK), Room k A → Env0 P w K mg base A outer s H → reps K S xs vs → Vals vs us → pre xs y →
    (∀ v S' H', Stp T S H S' H' → rep K S' y v → Q v H') → codeAny (model P w) A (.call (.ref f) ⟨us, []⟩) (CR CX0 outer P w H s Q E0) s
/-- f is a function's object -/
def FnSeen (K : PySem.W.Frag) (S : Hp) (f : Addr) : Prop := (∃ oc od fd sl, K.lookup f = some (⟨oc, od, .func fd, sl⟩ : Obj)) ∨ (∃ F, S f = some (FnO f F)) ∨ ∃ o, S f = some o ∧ ∀ (P : Program) (w : World) (H : Hp) (h : Heap), ObjOk P w H h f o → PySem.W.FnAt f h
def fnO (P : Program) (w : World) (K : PySem.W.Frag) (mg : Str → Option Value) (base : Heap) (T : List NTab) (k : Nat) (pre : Pre) : Ob where
  p := fun v S => ∃ f, v = .ref f ∧ FnSeen K S f ∧ Callable P w K mg base T k pre f S
  mono := fun v S S' e ⟨f, h1, h2, h3⟩ => ⟨f, h1, h2.elim .inl fun q => q.elim (fun ⟨F, q⟩ => .inr (.inl ⟨F, e _ _ q⟩)) fun ⟨o, q, z⟩ => .inr (.inr ⟨o, e _ _ q, z⟩), fun S2 H2 e2 => h3 S2 H2 (e.trans e2)⟩
abbrev fnV (P : Program) (w : World) (K : PySem.W.Frag) (mg : Str → Option Value) (base : Heap) (T : List NTab) (k : Nat) (pre : Pre) : Vl := .ob (fnO P w K mg base T k pre)
section
variable {X : Cx} {B : Bs} {Γ : List Sl} {x y : Vl} {e : Expr} {es : List Expr} {pos p : Pos} {xs : List Vl} {k j : Nat} {pre : Pre}
theorem fnSeen_at {pins : List (Addr × Obj)} {σ : L2.St} {S H : Hp} {s : Shared} {f : Addr} (I : Inv X pins σ H s) (sub : Same S H) (h : FnSeen X.K S f) : PySem.W.FnAt f s.heap := by
  rcases h with ⟨oc, od, fd, sl, h⟩ | ⟨F, h⟩ | ⟨o, h, z⟩
  · exact ⟨oc, od, fd, sl, I.kIn _ _ h⟩
  · exact fnAt_of I (sub _ _ h)
  · exact z _ _ _ _ (I.hok f o (sub _ _ h))
/-- f(..), f a name that holds a function -/
theorem ge_callF (i : Nat) {n : Str} (ha : GA X B Γ (e :: es) xs) (hr : Room j X.A) (hk : k ≤ j) (hp : pre xs y) (hi : Γ[i]? = some (.va (fnV X.prog X.w X.K X.mg X.base B.T k pre)) := by rfl) (hN : X.N[i]? = some n := by rfl) (hv : Vis X.env.scope n := by first | exact Or.inl rfl | exact Or.inr (Or.inl rfl) | exact Or.inr (Or.inr rfl))
    (hd : (n == ("__debug__" : Str)) = false := by decide) (hcd : (n == ("__classdict__" : Str)) = false := by decide)
    (he : starEach (e :: es) X.env = (false, eval e X.env) :: starEach es X.env := by rfl) (hpl : (backTo pos (starEach es X.env)).any (·.1) = false := by rfl) : GE X B Γ (.Call (.Name n p) (e :: es) [] pos) y := by
  refine ⟨fun pins s σ H Q I hq => ?_⟩
  obtain ⟨S, en, q⟩ := hq
  obtain ⟨v0, hv0, f, e0, seen, cal⟩ := en.va i _ hi
  subst e0
  refine wpAny_Call_Name_kw (thn ((pe_var (pos := p) hN hv hd hcd).run pins s σ H (fun v H1 => v = V.ref f ∧ H1 = H) I ⟨V.ref f, hv0, rfl, rfl⟩) fun u s1 ⟨v, H1, I1, r1, q1⟩ => ?_)
  obtain ⟨ev, eH⟩ := q1
  subst ev eH
  obtain rfl : u = Value.ref f := r1
  refine PySem.W.callWith_F (first := []) (fnSeen_at I1 en.st.sub seen) (thn (ha.run pos pins s1 σ H1 (fun vs H2 => ∃ S2, Stp B.T S H1 S2 H2 ∧ reps X.K S2 xs vs) I1 ⟨S, en, fun vs S2 H2 t2 h2 => ⟨S2, t2, h2⟩⟩) fun us s2 ⟨vs, H2, I2, r, S2, t2, h2⟩ => ⟨fnSeen_at I2 (t2.s.trans t2.st.sub) seen, ?_⟩) he hpl
  show wpAny _ _ (call (.ref f) us) _ _ _
  refine wpAny_call (codeAny_mono (cal S2 H2 t2.s t2.st X.A X.stack s2 us vs xs y Q (hr.mono hk) I2.env0 h2 r hp fun v S3 H3 t3 h3 => q v S3 H3 (t2.trans t3) h3) fun r s' hq => ?_)
  cases r with
  | error e => exact hq.elim
  | ok fl =>
    cases fl with
    | ret u => exact I2.after hq
    | next => exact hq.elim
    | brk => exact hq.elim
    | cont => exact hq.elim
/-- a def of the module as a value -/
theorem ge_fn {n : Str} {ps : List Str} (Gf : FnG X.prog X.w X.K X.mg X.base k n ps (spV X.K B.T pre)) (hs : ∀ f fd, X.mg n = some (.ref f) → FnOk X.prog X.w X.K X.mg X.base CX0 k f fd ps (spV X.K B.T pre) → ∃ oc od sl, X.K.lookup f = some (⟨oc, od, .func fd, sl⟩ : Obj)) (hg : Gl X n := by rfl) (hd : (n == ("__debug__" : Str)) = false := by decide) :
    GE X B Γ (.Name n p) (fnV X.prog X.w X.K X.mg X.base B.T k pre) := by
  obtain ⟨f, fd, F, hm, hkp, hb⟩ := Gf
  obtain ⟨oc, od, sl, lk⟩ := hs f fd hm F
  refine ge_c (v := V.ref f) (pe_glob hg hm rfl hd) fun S => ⟨f, rfl, .inl ⟨oc, od, fd, sl, lk⟩, fun S1 H1 _ st A outer s us vs xs y Q hr e0 r rv hp q => ?_⟩
  have hl : us.length = ps.length := by rw [← rv.length]; exact F.len vs H1 Q E0 ⟨S1, xs, y, st, r, hp, q⟩
  have KX : X.K.In s.heap := e0.mod.kin.keeps fun b o e => (e0.bs b o e).1
  have hb2 := hb s us KX (by rw [List.append_nil]; exact hl)
  rw [List.append_nil] at hb2
  exact F.run A outer s H1 ⟨us, []⟩ us vs Q E0 hr e0 hb2 rv ⟨S1, xs, y, st, r, hp, q⟩
end
end G
set_option maxHeartbeats 1000000
/-! K11: nested defs; a def that returns one. -/
namespace G
open PySem PySem.Spec PyProof.Rows L2 LamX NdefX
/-- a nested def: pre ys xs y, ys what it captured -/
def spN (K : PySem.W.Frag) (T : List NTab) (np : Nat) (pre : List Vl → List Vl → Vl → Prop) : List (Option V) → Sp := fun ws vs H Q _ => ∃ (S : Hp) (xs ys : List Vl) (wv : List V) (y : Vl), Sta T S H ∧ ws = wv.map some ∧ reps K S xs vs ∧ reps K S ys wv ∧ xs.length = np ∧ pre ys xs y ∧ ∀ v S' H', Stp T S H S' H' → rep K S' y v → Q v H'
theorem startF_eq {N : List Str} {vs wv : List V} : startF N vs (wv.map some) = L2.start N (vs ++ wv) := by
  unfold startF L2.start
  rw [List.map_append, List.append_assoc, List.length_append, List.length_map, Nat.sub_sub]
section
variable {P : Program} {w : World} {K : PySem.W.Frag} {mg : Str → Option Value} {base : Heap} {T : List NTab} {N ps fr : List Str} {F : NF} {f : Addr} {k : Nat} {pre : List Vl → List Vl → Vl → Prop}
abbrev nX (P : Program) (w : World) (K : PySem.W.Frag) (mg : Str → Option Value) (base : Heap) (N : List Str) (F : NF) (f : Addr) (A : Around) (outer : List PySem.Env) (s : Shared) (H : Hp) (E : XK) : Cx := (ncx CX0 P w K mg base N F f A outer s H E).nox
theorem nokV (S : NScope N ps fr F.scope) (hb : ∀ (doc pm ctv : Value) (us : List Value), us.length = ps.length → bindArgs (F.fd doc pm ctv) ⟨us, []⟩ = pure (ps.zip us))
    (body : ∀ (A : Around) (outer : List PySem.Env) (s : Shared) (H : Hp) (E : XK) (B : Bs) (xs ys : List Vl) (y : Vl), B.T = T → Room k (A.deeper (envF F f s.heap.objs.size)) → xs.length = ps.length → pre ys xs y →
      ∃ Γ', GRs (nX P w K mg base N F f A outer s H E) B (Gam0 N (xs ++ ys)) F.body Γ' y) :
    NOk P w K mg base CX0 (k + 1) f F ps fr (spN K T ps.length pre) := by
  refine nok_of S hb (fun ws vs H Q E ⟨S, xs, ys, wv, y, st, e1, r1, r2, hl, _⟩ => by rw [← reps_length r1]; exact hl) fun A outer s H vs ws Q E hr hf hc hl h => ?_
  obtain ⟨S0, xs, ys, wv, y, st, e1, r1, r2, hxl, hp, q⟩ := h
  subst e1
  obtain ⟨Γ', hb⟩ := body A outer s H E ⟨T, H, S0, []⟩ xs ys y rfl hr hxl hp
  refine ⟨_, hb.nox, ?_⟩
  rw [startF_eq]
  exact ⟨S0, env0 st (reps_append r1 r2), fun v σ' S' H' en rv => q v S' H' en.toStp rv⟩
end
/-! ### captured cells -/
section
variable {cl : List (Str × Addr)} {fr : List Str} {ws : List (Option V)} {h : Heap} {H : Hp}
open Classical in
/-- the cells that a function captured, with what they hold -/
noncomputable def celsOf (cl : List (Str × Addr)) (fr : List Str) (ws : List (Option V)) (h : Heap) : Cels := fun a =>
  if q : ∃ p : Obj × V, ∃ (i : Nat) (y : Str), fr[i]? = some y ∧ cl.lookup y = some a ∧ ws[i]? = some (some p.2) ∧ h.get? a = some p.1 ∧ ∃ u, RelV p.2 u ∧ p.1.data = .cell (some u) then some q.choose else none
theorem celsOf_some {a : Addr} {o : Obj} {v : V} (e : celsOf cl fr ws h a = some (o, v)) : ∃ (i : Nat) (y : Str), fr[i]? = some y ∧ cl.lookup y = some a ∧ ws[i]? = some (some v) ∧ h.get? a = some o ∧ ∃ u, RelV v u ∧ o.data = .cell (some u) := by
  unfold celsOf at e
  split at e
  · rename_i q
    have := q.choose_spec
    rw [Option.some.inj e] at this
    exact this
  · cases e
theorem celsOf_is {a : Addr} {i : Nat} {y : Str} {v : V} (C : CellsAt cl fr ws h H) (h1 : fr[i]? = some y) (h2 : cl.lookup y = some a) (h3 : ws[i]? = some (some v)) : ∃ o v', celsOf cl fr ws h a = some (o, v') := by
  have q : ∃ p : Obj × V, ∃ (i : Nat) (y : Str), fr[i]? = some y ∧ cl.lookup y = some a ∧ ws[i]? = some (some p.2) ∧ h.get? a = some p.1 ∧ ∃ u, RelV p.2 u ∧ p.1.data = .cell (some u) := by
    obtain ⟨c, hc, hv⟩ := C.has i y h1
    rw [h2] at hc
    cases hc
    obtain ⟨u, r, o, ho, hd⟩ := hv v h3
    exact ⟨(o, v), i, y, h1, h2, h3, ho, u, r, hd⟩
  unfold celsOf
  rw [dif_pos q]
  exact ⟨_, _, rfl⟩
/-- the cells out of sight, at any later time -/
theorem cells_again {h2 : Heap} {H2 : Hp} {P : Program} {w : World} (C : CellsAt cl fr ws h H) (full : ∀ y c, cl.lookup y = some c → y ∈ fr) (hw : ∀ (i : Nat) (y : Str), fr[i]? = some y → ∃ v, ws[i]? = some (some v)) (nd : fr.Nodup) (ok : HOk P w H2 h2) (hh : Has H2 (celsOf cl fr ws h)) : CellsAt cl fr ws h2 (delC H2 (celsOf cl fr ws h)) := by
  refine ⟨C.len, fun y c e => ?_, C.inj, fun i y e => ?_⟩
  · obtain ⟨i, hi⟩ := List.mem_iff_getElem?.mp (full y c e)
    obtain ⟨v, hv⟩ := hw i y hi
    obtain ⟨o, v', q⟩ := celsOf_is C hi e hv
    obtain ⟨h1, u, h2, h3⟩ := has_heap ok hh q
    exact ⟨delC_in q, some u, o, h1, h3⟩
  · obtain ⟨c, hc, _⟩ := C.has i y e
    refine ⟨c, hc, fun v hv => ?_⟩
    obtain ⟨o, v', q⟩ := celsOf_is C e hc hv
    obtain ⟨h1, u, h2, h3⟩ := has_heap ok hh q
    obtain ⟨j, z, z1, z2, z3, _⟩ := celsOf_some q
    have ez : z = y := C.inj z y c z2 hc
    subst ez
    have ij : j = i := (List.getElem?_inj (List.getElem?_eq_some_iff.mp z1).1 nd).mp (z1.trans e.symm)
    subst ij
    rw [hv] at z3
    cases z3
    exact ⟨u, h2, o, h1, h3⟩
end
section
variable {P : Program} {w : World} {K : PySem.W.Frag} {mg : Str → Option Value} {base : Heap} {T : List NTab} {ps fr : List Str} {k : Nat} {pre : List Vl → List Vl → Vl → Prop}
/-- a function whose cells are known may be called -/
theorem callable_of {f : Addr} {F : NF} {S0 : Hp} {cl : List (Str × Addr)} {h0 : Heap} {H0 : Hp} {wv : List V} {ys : List Vl} (hcl : F.cl = cl) (hn : NOk P w K mg base CX0 k f F ps fr (spN K T ps.length pre)) (C : CellsAt cl fr (wv.map some) h0 H0)
    (full : ∀ y c, cl.lookup y = some c → y ∈ fr) (nd : fr.Nodup) (hh : Has S0 (celsOf cl fr (wv.map some) h0)) (hf : S0 f = some (FnO f F)) (hc : S0 F.c = some (CodeO F.c F.qual)) (ry : reps K S0 ys wv) (py : plains ys = true) :
    Callable P w K mg base T k (fun xs y => xs.length = ps.length ∧ plains xs = true ∧ pre ys xs y) f S0 := by
  subst hcl
  intro S H sm st A outer s us vs xs y Q hr e0 rx rv ⟨hxl, hpx, hp⟩ q
  have hs : Has S (celsOf F.cl fr (wv.map some) h0) := fun a o v e => sm _ _ (hh a o v e)
  have hH : Has H (celsOf F.cl fr (wv.map some) h0) := fun a o v e => st.sub _ _ (hs a o v e)
  have hw : ∀ (i : Nat) (y : Str), fr[i]? = some y → ∃ v, (wv.map some)[i]? = some (some v) := fun i y e => by
    have hi : i < wv.length := by
      have := C.len
      rw [List.length_map] at this
      rw [this]; exact (List.getElem?_eq_some_iff.mp e).1
    exact ⟨wv[i], by rw [List.getElem?_map, List.getElem?_eq_getElem hi]; rfl⟩
  have CA := cells_again C full hw nd e0.hok hH
  have nf : ∀ a, (celsOf F.cl fr (wv.map some) h0 a).isSome → a ∉ frs outer := fun a e hb => by
    obtain ⟨⟨o, v⟩, e⟩ := Option.isSome_iff_exists.mp e
    have := hH a o v e
    rw [e0.frf a hb] at this
    cases this
  have hf' : delC H (celsOf F.cl fr (wv.map some) h0) f = some (FnO f F) := delC_ne hH (st.sub _ _ (sm _ _ hf)) (fun o v z => by unfold FnO at z; cases z)
  have hc' : delC H (celsOf F.cl fr (wv.map some) h0) F.c = some (CodeO F.c F.qual) := delC_ne hH (st.sub _ _ (sm _ _ hc)) (fun o v z => by unfold CodeO at z; cases z)
  refine codeAny_mono (hn.run A outer s (delC H (celsOf F.cl fr (wv.map some) h0)) us vs (wv.map some) (fun v H1 => ∃ S1, Stp T (delC S (celsOf F.cl fr (wv.map some) h0)) (delC H (celsOf F.cl fr (wv.map some) h0)) S1 H1 ∧ rep K S1 y v) E0 hr (env0_del e0 hH) hf' hc' CA rv
    ⟨delC S (celsOf F.cl fr (wv.map some) h0), xs, ys, wv, y, sta_del st hs, rfl, reps_del hs xs vs hpx rx, reps_del hs ys wv py (reps_mono sm _ _ ry), hxl, hp, fun v S1 H1 t1 r1 => ⟨S1, t1, r1⟩⟩) fun r s' hq => ?_
  cases r with
  | error e => exact hq.elim
  | ok fl =>
    cases fl with
    | ret u =>
      obtain ⟨v, H1, os, ba, un, ok, rv', S1, t1, r1⟩ := hq
      obtain ⟨un2, nn, kk⟩ := un_del un hH (fun a o v e => (has_heap e0.hok hH e).1) nf
      obtain ⟨t2, sm2⟩ := stp_del st hs t1 nn
      refine ⟨v, addC H1 (celsOf F.cl fr (wv.map some) h0), os, ba, un2, hok_add ok nn (fun a o v e => ⟨kk a o v e, (has_heap e0.hok hH e).2⟩), rv', q v _ _ t2 (rep_mono sm2 _ _ r1)⟩
    | next => exact hq.elim
    | brk => exact hq.elim
    | cont => exact hq.elim
end
end G
set_option maxHeartbeats 1000000
/-! K12: a def that returns a def of its own. -/
namespace G
open PySem PySem.Spec PyProof.Rows L2 LamX NdefX
section
variable {P : Program} {w : World} {K : PySem.W.Frag} {mg : Str → Option Value} {base : Heap} {T : List NTab} {N ps nps : List Str} {k kk : Nat} {npre : List Vl → List Vl → Vl → Prop}
theorem clo_full {cells : List (Str × Addr)} {names : List (Str × NameKind)} {fr : List Str} (full : ∀ y ∈ names, y.2 = .free → y.1 ∈ fr) {y : Str} {c : Addr} (e : (cloFrom cells names []).lookup y = some c) : y ∈ fr := by
  rcases cloFrom_mem (PySem.mem_of_lookup e) with hm | ⟨h1, h2⟩
  · cases hm
  · exact full _ h1 rfl
theorem okClo {x qual nname : Str} {st nst : Stmt} {f c P0 : Addr} {fd : FuncData} {nm : Nat → Nat → Str} {npos rp np : Pos} {i : Nat} (cond : List Vl → Prop) (F : Fun K x qual st f fd) (Sc : FnScope N ps (defScope st)) (hcd : fd.code = .ref c) (TB : TabB base mg c P0) (hm : (P0, nm) ∈ T) (hu : ∀ p ∈ T, p.1 = P0 → p.2 = nm)
    (hbo : defBody st = [nst, .Return (some (.Name nname np)) rp]) (hst : nst = .FunctionDef nname (C8.fnArgs nst) (C8.fnBody nst) [] none [] (C8.fnScope nst) none nname npos) (hn : nm npos.line npos.col = (qual ++ ".<locals>.") ++ nname)
    (hfree : ndefB (defScope st) (C8.fnScope nst) ps = true) (full : ∀ y ∈ (C8.fnScope nst).names, y.2 = .free → y.1 ∈ ps) (hd0 : (C8.fnArgs nst).defaults = []) (hk0 : (C8.fnArgs nst).kw_defaults = []) (ha : ∀ env, annTrees (C8.fnArgs nst) none env = [])
    (hi : N[i]? = some nname) (hloc : (defScope st).names.lookup nname = some .local) (hip : ps.length ≤ i) (nd : ps.Nodup) (hdb : (nname == ("__debug__" : Str)) = false) (hcl : (nname == ("__classdict__" : Str)) = false)
    (nok : ∀ f' c' cl, NOk P w K mg base CX0 kk f' (NF.of nst nname ((qual ++ ".<locals>.") ++ nname) cl c') nps ps (spN K T nps.length npre)) :
    FnOk P w K mg base CX0 (k + 1) f fd ps (spV K T fun xs y => xs.length = ps.length ∧ plains xs = true ∧ cond xs ∧ y = fnV P w K mg base T kk fun zs y => zs.length = nps.length ∧ plains zs = true ∧ npre xs zs y) := by
  obtain ⟨oc, od, kV, doc, pm, an, cdv, ct, osl, rfl, lk, hcin⟩ := F.ex
  have hcd : cdv = .ref c := hcd
  subst hcd
  have len : ∀ vs H Q E, spV K T (fun xs y => xs.length = ps.length ∧ plains xs = true ∧ cond xs ∧ y = fnV P w K mg base T kk fun zs y => zs.length = nps.length ∧ plains zs = true ∧ npre xs zs y) vs H Q E → vs.length = ps.length := fun vs H Q E ⟨S, xs, y, st, r, hp, _⟩ => by rw [← reps_length r]; exact hp.1
  refine ⟨len, fun A outer s H args us vs Q E hr e0 hb r hsp => ?_⟩
  have hl := len _ _ _ _ hsp
  have KX : K.In s.heap := e0.mod.kin.keeps fun b o e => (e0.bs b o e).1
  have lim : s.heap.NoLimit := e0.mod.nolimit.keeps fun b o e => (e0.bs b o e).1
  have hkind : ∀ y ∈ ps.zip us, (defScope st).names.lookup y.1 = some .local ∨ ((defScope st).names.lookup y.1 = some .cell ∧ ((cellsFrom (s.heap.objs.size + 1) (defScope st).names []).lookup y.1).isSome = true) := fun ⟨n, v⟩ hy => by
    rcases Sc.par n (List.of_mem_zip hy).1 with q | q
    · exact .inl q
    · exact .inr ⟨q, PySem.W.cellsFrom_some _ _ _ (.inl q)⟩
  refine codeAny_call_function hr.depth (KX _ _ lk) rfl Sc.co Sc.gen rfl (PySem.W.codeRec_of KX hcin) (hb _ _ _ _ ?_)
  refine wpAny_newFunctionEnv_cells Sc.kind hkind fun env he s1 x => ?_
  subst he
  refine ⟨lim.keeps x.toInCall.keep, codeAny_func ?_⟩
  have I : Inv (cxOf CX0 P w K mg base N qual (defScope st) f (.ref c) A outer s H E) [] (L2.start N vs) H s1 := inv_start Sc hr.hd e0 hl r x
  obtain ⟨S, xs, y, st0, rx, ⟨hxl, hxp, hxc, hy⟩, q⟩ := hsp
  subst hy
  show wpAny (model P w) _ (execs (defBody st) _) _ _ _
  rw [hbo]
  have hfr := ndef_free hfree
  have hff := ndef_fr hfree
  have hNl : ps.length ≤ N.length := by have := congrArg List.length Sc.pre; rw [List.length_take] at this; omega
  have hNp : ∀ j, j < ps.length → N[j]? = ps[j]? := fun j hj => (List.getElem?_take_of_lt hj).symm.trans (congrArg (fun l : List Str => l[j]?) Sc.pre)
  let X := cxOf CX0 P w K mg base N qual (defScope st) f (.ref c) A outer s H E
  have PSn : PS X nst (tNdefM T i (NF.of nst nname (X.env.qual ++ nname) (cloFrom X.env.cells (C8.fnScope nst).names []))) :=
    ps_ndefMS (X := X) hst TB rfl hm hn hu hfr hd0 hk0 (ha _) Sc.nd hi (.inl hloc) (.inr hloc)
  refine wpAny_execs_cons (thn (PSn.run [] s1 (L2.start N vs) H { nx := fun σ1 H1 => ∃ f' c', ExtN H H1 ∧ (∀ b, H1 b = none → H b = none) ∧ TabsN T H1 ∧ H f' = none ∧ H1 f' = some (FnO f' (NF.of nst nname (X.env.qual ++ nname) (cloFrom X.env.cells (C8.fnScope nst).names []) c')) ∧ H1 c' = some (CodeO c' (X.env.qual ++ nname)) ∧ σ1 = (L2.start N vs).set i (some (.ref f')), rt := fun _ _ => False } I
    ⟨st0.tb, fun f' c' H1 a1 a2 a3 a4 a5 a6 => ⟨f', c', a1, a2, a3, a4, a5, a6, rfl⟩⟩) fun fl s2 hq => ?_)
  cases fl with
  | ret v => obtain ⟨_, _, _, _, _, z⟩ := hq; exact z.elim
  | brk => obtain ⟨_, _, _, z⟩ := hq; exact z.elim
  | cont => obtain ⟨_, _, _, z⟩ := hq; exact z.elim
  | next =>
    obtain ⟨σ1, H1, J, f', c', eN, nn, T1, f0, f1, c1, eσ⟩ := hq
    have hiN : i < N.length := (List.getElem?_eq_some_iff.mp hi).1
    have hsl : (L2.start N vs).length = N.length := by unfold L2.start; rw [List.length_append, List.length_map, List.length_replicate]; omega
    have hσi : σ1[i]? = some (some (.ref f')) := by rw [eσ, List.getElem?_set_self (by rw [hsl]; exact hiN)]
    refine wpAny_execs_cons (wpAny_Return_some (thn ((pe_var (X := X) (pos := np) hi (.inl hloc) hdb hcl).run [] s2 σ1 H1 (fun v H2 => v = V.ref f' ∧ H2 = H1) J ⟨V.ref f', hσi, rfl, rfl⟩) fun u s3 ⟨v, H2, J2, ru, ev, eH⟩ => ?_))
    subst ev eH
    -- the cells
    have hjs : (List.range ps.length).map (fun j => X.N[j]?) = ps.map some := by
      refine List.ext_getElem? fun j => ?_
      rw [List.getElem?_map, List.getElem?_map]
      by_cases hj : j < ps.length
      · rw [List.getElem?_range hj]
        show some (N[j]?) = _
        rw [hNp j hj, List.getElem?_eq_getElem hj]; rfl
      · rw [List.getElem?_eq_none (by rw [List.length_range]; omega), List.getElem?_eq_none (by omega)]; rfl
    have hws : (List.range ps.length).map (slotAt σ1) = vs.map some := by
      refine List.ext_getElem? fun j => ?_
      rw [List.getElem?_map, List.getElem?_map]
      by_cases hj : j < ps.length
      · rw [List.getElem?_range hj, List.getElem?_eq_getElem (show j < vs.length by omega)]
        show some (slotAt σ1 j) = some (some _)
        rw [slotAt_of (v := vs[j]'(by omega))]
        rw [eσ, List.getElem?_set_ne (by omega)]
        unfold L2.start
        rw [List.getElem?_append_left (by rw [List.length_map]; omega), List.getElem?_map, List.getElem?_eq_getElem (show j < vs.length by omega)]; rfl
      · rw [List.getElem?_eq_none (by rw [List.length_range]; omega), List.getElem?_eq_none (by omega)]; rfl
    have CA : CellsAt (cloFrom X.env.cells (C8.fnScope nst).names []) ps (vs.map some) s3.heap H2 := by
      rw [← hws]
      exact cells_of J2 (Caps.made J2.ok hfr hff hjs)
    have hn0 : ∀ a, (celsOf (cloFrom X.env.cells (C8.fnScope nst).names []) ps (vs.map some) s3.heap a).isSome → H2 a = none := fun a e => by
      obtain ⟨⟨o, v⟩, e⟩ := Option.isSome_iff_exists.mp e
      obtain ⟨j, y, _, e2, _⟩ := celsOf_some e
      exact (CA.all y a e2).1
    have hnew : ∀ a, (celsOf (cloFrom X.env.cells (C8.fnScope nst).names []) ps (vs.map some) s3.heap a).isSome → s.heap.get? a = none := fun a e => by
      obtain ⟨⟨o, v⟩, e⟩ := Option.isSome_iff_exists.mp e
      obtain ⟨j, y, _, e2, _⟩ := celsOf_some e
      have hf2 : ∀ y ∈ (C8.fnScope nst).names, y.2 = .free → ∃ c, X.env.cells.lookup y.1 = some c := fun y hy e => (hfr y hy e).elim (fun z => J2.ok.has _ (.inl z)) fun z => J2.ok.has _ (.inr z)
      have e3 := clo_cm hf2 e2
      have e4 := x.above y a (PySem.mem_of_lookup e3)
      exact Heap.get?_none_of_le (Nat.le_of_lt e4)
    generalize hC : celsOf (cloFrom X.env.cells (C8.fnScope nst).names []) ps (vs.map some) s3.heap = C at hn0 hnew
    have J3 : Un (frs outer) [] H H2 s.heap s3.heap := J2.base
    have un : Un (frs outer) [] H (addC H2 C) s.heap s3.heap := by
      refine ⟨J3.keep, J3.slot, fun b o e n hx => ?_, J3.there, fun b xs e => addC_some hn0 (J3.tups b xs e), fun b o x e => addC_some hn0 (J3.frzs b o x e), fun b ps e => ?_⟩
      · have z : C b = none := by
          cases z : C b with
          | none => rfl
          | some y => have := hnew b (by rw [z]; rfl); rw [this] at e; cases e
        rw [addC_out z]; exact J3.free b o e n hx
      · obtain ⟨more, e⟩ := J3.tbls b ps e
        exact ⟨more, addC_some hn0 e⟩
    have hok : HOk P w (addC H2 C) s3.heap := hok_add J2.hok hn0 (fun a o v e => by
      rw [← hC] at e
      obtain ⟨j, y, _, _, _, e5, e6⟩ := celsOf_some e
      exact ⟨e5, e6⟩)
    have nC : ∀ {a}, H2 a ≠ none → C a = none := fun {a} n => by
      cases z : C a with
      | none => rfl
      | some y => exact absurd (hn0 a (by rw [z]; rfl)) n
    have nS : ∀ {a o}, S a = some o → H2 a = some o := fun {a o} e => eN a o (st0.sub _ _ e) (fun ps z => st0.nt a ps (by rw [e, z]))
    let S2 : Hp := upd (upd (addC S C) c' (CodeO c' (X.env.qual ++ nname))) f' (FnO f' (NF.of nst nname (X.env.qual ++ nname) (cloFrom X.env.cells (C8.fnScope nst).names []) c'))
    have hfc : f' ≠ c' := fun z => by
      rw [z, c1] at f1
      unfold FnO CodeO at f1
      have f1 := HO.ext.inj (Option.some.inj f1)
      let ob : Obj := { cls := .none, data := .fields #[.none, .str (X.env.qual ++ nname) 0] }
      let h : Heap := { objs := Array.replicate (c' + 1) ob }
      have hg : h.get? c' = some ob := by
        have e : h.objs[c']? = some ob := by
          show (Array.replicate (c' + 1) ob)[c']? = some ob
          rw [Array.getElem?_replicate, if_pos (Nat.lt_succ_self _)]
        unfold Heap.get?
        rw [e]
      have hz := congrFun f1 h
      have : ∃ (oc : Obj) (vs : Array Value) (t : Tok), h.get? c' = some oc ∧ oc.data = .fields vs ∧ vs[1]? = some (.str (X.env.qual ++ nname) t) := ⟨ob, _, 0, hg, rfl, rfl⟩
      rw [hz] at this
      obtain ⟨_, _, _, _, _, q⟩ := this
      rw [hg] at q
      have q := congrArg Obj.data (Option.some.inj q)
      have q : Data.fields #[.none, .str (X.env.qual ++ nname) 0] = _ := q
      cases q
    have S2f : S2 f' = some (FnO f' (NF.of nst nname (X.env.qual ++ nname) (cloFrom X.env.cells (C8.fnScope nst).names []) c')) := upd_same
    have S2c : S2 c' = some (CodeO c' (X.env.qual ++ nname)) := by
      show upd _ f' _ c' = _
      rw [upd_ne (Ne.symm hfc)]; exact upd_same
    have S2o : ∀ {a}, a ≠ f' → a ≠ c' → S2 a = addC S C a := fun {a} h1 h2 => by
      show upd _ f' _ a = _
      rw [upd_ne h1, upd_ne h2]
    have Sf : S f' = none := sta_none st0 f0
    have has2 : Has S2 C := fun a o v e => by
      have hz := hn0 a (by rw [e]; rfl)
      rw [S2o (fun z => by rw [z, f1] at hz; cases hz) (fun z => by rw [z, c1] at hz; cases hz)]
      exact addC_in e
    have sm : Same S S2 := fun a o e => by
      have h2 := nS e
      have z := nC (a := a) (by rw [h2]; simp)
      by_cases e1 : a = f'
      · rw [e1, Sf] at e; cases e
      · by_cases e2 : a = c'
        · rw [e2, c1] at h2
          rw [e2, S2c]; exact h2
        · rw [S2o e1 e2, addC_out z]; exact e
    have stp : Stp T S H S2 (addC H2 C) := by
      refine ⟨⟨fun a o e => ?_, T1.ext (same_add hn0), fun a ps e => ?_⟩, sm, fun a o e n => addC_some hn0 (eN a o e n), fun a e n => ?_, fun a n z => ?_⟩
      · by_cases e1 : a = f'
        · rw [e1, S2f] at e; rw [e1]; cases e; exact addC_some hn0 f1
        · by_cases e2 : a = c'
          · rw [e2, S2c] at e; rw [e2]; cases e; exact addC_some hn0 c1
          · rw [S2o e1 e2] at e
            cases z : C a with
            | none => rw [addC_out z] at e; exact addC_some hn0 (nS e)
            | some y => obtain ⟨o2, v2⟩ := y; rw [addC_in z] at e ⊢; exact e
      · by_cases e1 : a = f'
        · rw [e1, S2f] at e; exact fnO_ne ps (Option.some.inj e)
        · by_cases e2 : a = c'
          · rw [e2, S2c] at e; exact codeO_ne ps (Option.some.inj e)
          · rw [S2o e1 e2] at e
            cases z : C a with
            | none => rw [addC_out z] at e; exact st0.nt a ps e
            | some y => obtain ⟨o2, v2⟩ := y; rw [addC_in z] at e; cases e
      · obtain ⟨o, n1, n2, n3⟩ := n
        have h2 := eN a o n1 n2
        by_cases e1 : a = f'
        · rw [e1, f0] at n1; cases n1
        · by_cases e2 : a = c'
          · rw [e2, c1] at h2; exact absurd (Option.some.inj h2).symm (n3 _ _)
          · rw [S2o e1 e2, addC_out (nC (by rw [h2]; simp))]; exact e
      · have h2 : H2 a ≠ none := fun q => n (nn a q)
        rw [addC_out (nC h2)] at z
        exact h2 z
    subst hC
    refine ⟨.ref f', addC H2 _, J2.os, J2.bare, un, hok, ru, q _ S2 _ stp ⟨f', rfl, .inr (.inl ⟨_, S2f⟩), ?_⟩⟩
    exact callable_of (F := NF.of nst nname (X.env.qual ++ nname) (cloFrom X.env.cells (C8.fnScope nst).names []) c') rfl (nok f' c' _) CA (fun y c e => clo_full full e) nd has2 S2f S2c (reps_mono sm _ _ rx) hxp
end
end G
set_option maxHeartbeats 1000000
/-! K13: a dict that is never written again. -/
namespace G
open PySem PySem.Spec PyProof.Rows L2 LamX NdefX
def owLk (P : Program) (w : World) (K : PySem.W.Frag) (kvs : List (Vl × Vl)) : Own where
  r := fun l o H => ∃ ob es, o = .frz ob (kdH P w l es) ∧ krep K H kvs es
  mono := fun _ _ _ _ e ⟨ob, es, h1, h2⟩ => ⟨ob, es, h1, krep_mono e h2⟩
  nt := fun _ o H ⟨ob, es, h1, _⟩ ps z => by rw [h1] at z; cases z
  nc := fun _ o H ⟨ob, es, h1, _⟩ c q z => by rw [h1] at z; unfold CodeO at z; cases z
def dlO (P : Program) (w : World) (K : PySem.W.Frag) (kvs : List (Vl × Vl)) : Ob where
  p := fun v H => ∃ l ob es, v = .ref l ∧ H l = some (.frz ob (kdH P w l es)) ∧ krep K H kvs es
  mono := fun v H H' e ⟨l, ob, es, h1, h2, h3⟩ => ⟨l, ob, es, h1, e _ _ h2, krep_mono e h3⟩
abbrev dlV (P : Program) (w : World) (K : PySem.W.Frag) (kvs : List (Vl × Vl)) : Vl := .ob (dlO P w K kvs)
section
variable {X : Cx} {B : Bs} {Γ Γ' : List Sl} {y : Vl} {kvs : List (Vl × Vl)}
theorem grs_lock {i : Nat} {st : List Stmt} (hi : Γ[i]? = some (.ow none (owK X.prog X.w X.K kvs))) (h : GRs X B (Γ.set i (.va (dlV X.prog X.w X.K kvs))) st Γ' y) : GRs X B Γ st Γ' y := ⟨fun pins s σ H D I ⟨S, en, k⟩ => by
  obtain ⟨l, ho, h1, _, h3, h4, ⟨es, e1, e2⟩, h6⟩ := en.ow i none _ hi
  subst e1
  have okl : ObjOk X.prog X.w H s.heap l (.ext (kdP X.prog X.w l es)) := I.hok l _ h4
  obtain ⟨ob, hob⟩ := okl.2.1
  have I2 : Inv X pins σ (upd H l (.frz ob (kdH X.prog X.w l es))) s := I.write (x := l) (e := l) (t' := s.toks) (h' := s.heap) (by rw [h4]; exact True.intro) (.inl rfl) (fun b u _ q => q) ⟨ob, hob⟩ ⟨hob, okl⟩
  have en1 := en.write (o' := owLk X.prog X.w X.K kvs) (ho' := .frz ob (kdH X.prog X.w l es)) hi h1 ⟨ob, es, rfl, e2⟩ (fun l z => by cases z)
  have hlen : i < Γ.length := (List.getElem?_eq_some_iff.mp hi).1
  obtain ⟨S', sm, en2⟩ := en1.freeze (i := i) (o := owLk X.prog X.w X.K kvs) (x := dlV X.prog X.w X.K kvs) (List.getElem?_set_self hlen) (fun l ho S' sm q r => by
    obtain ⟨ob, es, e1, e2⟩ := r
    subst e1
    exact ⟨l, ob, es, rfl, q, krep_mono sm e2⟩)
  rw [List.set_set] at en2
  exact h.run pins s σ _ D I2 ⟨S', en2, k⟩⟩
end
end G
set_option maxHeartbeats 1000000
/-! K14: instances of a class. -/
namespace G
open PySem PySem.Spec PyProof.Rows L2 LamX NdefX
def insR (K : PySem.W.Frag) (C : Addr) (fs : List (Str × Vl)) (o : HO) (H : Hp) : Prop := ∃ dx fvs, o = .ins C dx fvs ∧ fvs.map (·.1) = fs.map (·.1) ∧ reps K H (fs.map (·.2)) (fvs.map (·.2))
theorem insR_mono {K : PySem.W.Frag} {C : Addr} {fs : List (Str × Vl)} {o : HO} {H H' : Hp} (e : Same H H') : insR K C fs o H → insR K C fs o H' := fun ⟨dx, fvs, h1, h2, h3⟩ => ⟨dx, fvs, h1, h2, reps_mono e _ _ h3⟩
def owF (K : PySem.W.Frag) (C : Addr) (fs : List (Str × Vl)) : Own where
  r := fun _ o H => insR K C fs o H
  mono := fun _ _ _ _ e h => insR_mono e h
  nt := fun _ o H ⟨dx, fvs, h1, _⟩ ps z => by rw [h1] at z; cases z
  nc := fun _ o H ⟨dx, fvs, h1, _⟩ c q z => by rw [h1] at z; unfold CodeO at z; cases z
def insO (K : PySem.W.Frag) (C : Addr) (fs : List (Str × Vl)) : Ob where
  p := fun v H => ∃ l o, v = .ref l ∧ H l = some o ∧ insR K C fs o H
  mono := fun v H H' e ⟨l, o, h1, h2, h3⟩ => ⟨l, o, h1, e _ _ h2, insR_mono e h3⟩
theorem owF_val {K : PySem.W.Frag} {C : Addr} {fs : List (Str × Vl)} (l : Addr) (ho : HO) (S S' : Hp) (sm : Same S S') (h : S' l = some ho) (r : (owF K C fs).r l ho S) : rep K S' (.ob (insO K C fs)) (.ref l) := ⟨l, ho, rfl, h, insR_mono sm r⟩
theorem look_reps {K : PySem.W.Frag} {H : Hp} {f : Str} {y : Vl} : ∀ {fs : List (Str × Vl)} {fvs : List (Str × V)}, fvs.map (·.1) = fs.map (·.1) → reps K H (fs.map (·.2)) (fvs.map (·.2)) → fs.lookup f = some y → ∃ v, fvs.lookup f = some v ∧ rep K H y v
  | [], _, _, _, h => by cases h
  | (g, z) :: fs, [], e, _, _ => by cases e
  | (g, z) :: fs, (g', v) :: fvs, e, ⟨v', r, e1, e2, e3⟩, h => by
    have e4 := (List.cons.inj e).1
    have e5 := (List.cons.inj e).2
    have e1' := List.cons.inj e1
    have e4 : g' = g := e4
    subst e4
    have q1 : v = v' := e1'.1
    subst q1
    rw [← e1'.2] at e3
    rw [List.lookup_cons] at h ⊢
    split at h
    · cases h; exact ⟨v, rfl, e2⟩
    · exact look_reps e5 e3 h
theorem putF_new {f : Str} {v : V} : ∀ {fs : List (Str × V)}, f ∉ fs.map (·.1) → putF f v fs = fs ++ [(f, v)]
  | [], _ => rfl
  | (g, x) :: r, h => by
    rw [putF, if_neg (fun z => h (by rw [z]; exact .head _)), putF_new (fun z => h (.tail _ z))]; rfl
section
variable {X : Cx} {B : Bs} {Γ Γ' : List Sl} {x y : Vl} {a b e o : Expr} {es : List Expr} {pos pos' p apos : Pos} {C : Addr} {fs : List (Str × Vl)} {f : Str} {xs : List Vl}
/-- e.f -/
theorem ge_fld (h : GE X B Γ e (.ob (insO X.K C fs))) (c : Cls X.K C) (n : NoAttr X.K C f) (hl : fs.lookup f = some y) (hb : attributeBase e f X.env (eval e X.env) = eval e X.env := by rfl) : GE X B Γ (.Attribute e f pos) y :=
  PE_imp (pe_fld h hb) fun σ H Q ⟨S, en, k⟩ => ⟨S, en, fun v S1 H1 t1 ⟨l, o, e1, e2, dx, fvs, e3, e4, e5⟩ => by
    subst e1 e3
    obtain ⟨u, q1, q2⟩ := look_reps e4 e5 hl
    exact ⟨l, C, dx, fvs, u, rfl, t1.st.sub _ _ e2, c, n, q1, k u S1 H1 t1 q2⟩⟩
/-- self.f = value, self being made -/
theorem gs_fld {i : Nat} {l : Addr} {nn : Str} {np : Pos} (hi : Γ[i]? = some (.ow (some l) (owF X.K C fs))) (hN : X.N[i]? = some nn) (hv : Vis X.env.scope nn) (hval : GE X B Γ b y) (c : Cls X.K C) (n : NoAttr X.K C f) (hf : f ∉ fs.map (·.1)) (hz : fs.length < 1000) (hw : l ∈ B.L0)
    (hs : swapsWith b (some (.Attribute (.Name nn np) f pos')) pos.line X.env = pure false := by rfl) (hd : (nn == ("__debug__" : Str)) = false := by decide) (hcd : (nn == ("__classdict__" : Str)) = false := by decide) :
    GS X B Γ (.Assign [.Attribute (.Name nn np) f pos'] b pos) (Γ.set i (.ow (some l) (owF X.K C (fs ++ [(f, y)])))) :=
  PS_imp (ps_fld (pe_var hN hv hd hcd) hval hs) fun D σ H ⟨S, en, k⟩ => ⟨S, en, fun v S1 H1 t1 h1 => by
    have en1 := en.step t1
    obtain ⟨l', ho, o1, o2, o3, o4, ⟨dx, fvs, o5, o6, o7⟩, o8⟩ := en1.ow i _ _ hi
    subst o5
    have hlen : fvs.length = fs.length := by have := congrArg List.length o6; simpa using this
    have hnf : f ∉ fvs.map (·.1) := by rw [o6]; exact hf
    refine ⟨.ref l', o1, l', C, dx, fvs, rfl, o4, c, n, by omega, ?_⟩
    rw [putF_new hnf]
    refine k σ S1 _ (en1.write hi o1 ⟨dx, _, rfl, ?_, ?_⟩ (fun l2 z => by cases z; exact hw))
    · rw [List.map_append, List.map_append, o6]; rfl
    · rw [List.map_append, List.map_append]
      exact reps_snoc o7 h1⟩
/-- o.m() -/
theorem ge_meth0 {m : Str} {g : Addr} {fd : FuncData} {ps : List Str} {k j : Nat} {pre : Pre} {pl : Sem Bool} (h : GE X B Γ o (.ob (insO X.K C fs))) (c : Cls X.K C) (hm : Meth X.K C m g) (hl : m ∉ fs.map (·.1)) (F : FnOk X.prog X.w X.K X.mg X.base CX0 k g fd ps (spV X.K B.T pre)) (hr : Room j X.A) (hk : k ≤ j) (hb : Binds X.K fd ps []) (hp : pre [.ob (insO X.K C fs)] y)
    (ht : eval (.Call (.Attribute o m apos) [] [] pos) X.env = (do
      let ov ← eval o X.env
      standAt apos.atName
      let (f, first) ← holding [ov] (getMethod ov m pl)
      callWith pos f first (backTo pos (starEach [] X.env)) (backToKw pos (keywordEach [] X.env))) := by rfl) : GE X B Γ (.Call (.Attribute o m apos) [] [] pos) y :=
  PE_imp (pe_meth0 h c hm F (hr.mono hk) hb .nil pass0 ht) fun σ H Q ⟨S, en, k⟩ => ⟨S, en, fun v S1 H1 t1 hv => by
    obtain ⟨l, o, e1, e2, dx, fvs, e3, e4, e5⟩ := id hv
    subst e1 e3
    have hnl : fvs.lookup m = none := by
      cases q : fvs.lookup m with
      | none => rfl
      | some u =>
        have := PySem.mem_of_lookup q
        have : m ∈ fvs.map (·.1) := List.mem_map.mpr ⟨_, this, rfl⟩
        rw [e4] at this
        exact absurd this hl
    exact ⟨l, dx, fvs, rfl, t1.st.sub _ _ e2, hnl, S1, [.ob (insO X.K C fs)], y, t1.st, ⟨.ref l, [], rfl, hv, rfl⟩, hp, fun v S2 H2 t2 h2 => k v S2 H2 (t1.trans t2) h2⟩⟩
/-- what __init__ promises -/
def spI (K : PySem.W.Frag) (T : List NTab) (C : Addr) (pre : List Vl → List (Str × Vl) → Prop) : Sp := fun vs H Q _ => ∃ (S : Hp) (l dx : Addr) (vs' : List V) (xs : List Vl) (fs : List (Str × Vl)), vs = .ref l :: vs' ∧ Sta T S H ∧ S l = none ∧ H l = some (.ins C dx []) ∧ reps K S xs vs' ∧ pre xs fs ∧
  ∀ S' H' o, Sta T S' H' → Same S S' → (∀ a u, H a = some u → a ≠ l → (∀ ps, u ≠ .tbl ps) → H' a = some u) → (∀ a, S a = none → Frm H a → S' a = none) → (∀ a, H a ≠ none → H' a ≠ none) → H' l = some o → insR K C fs o S' → Q .non H'
theorem go_make {n : Str} {g : Addr} {fd : FuncData} {ps : List Str} {k j : Nat} {pre : List Vl → List (Str × Vl) → Prop} (M : Mk X.K C g) (F : FnOk X.prog X.w X.K X.mg X.base CX0 k g fd ps (spI X.K B.T C pre)) (hr : Room j X.A) (hk : k + 1 ≤ j) (hm : X.mg n = some (.ref C)) (hb : Binds X.K fd ps []) (ha : GA X B Γ (e :: es) xs) (hp : pre xs fs) (hg : Gl X n := by rfl) (hdb : (n == ("__debug__" : Str)) = false := by decide)
    (he : starEach (e :: es) X.env = (false, eval e X.env) :: starEach es X.env := by rfl) (hpl : (backTo pos (starEach es X.env)).any (·.1) = false := by rfl) : GO X B Γ (.Call (.Name n p) (e :: es) [] pos) (owF X.K C fs) :=
  PE_imp (pe_make M F (hr.mono hk) hg hm hb .nil pass0 ha hdb he hpl) fun σ H Q ⟨S, en, q⟩ => ⟨S, en, fun vs S1 H1 t1 h1 => fun x dx hx hdx hne => by
    have t2 := t1.st.newO hdx (o := .own x)
    have hx2 : upd H1 dx (.own x) x = none := by rw [upd_ne (Ne.symm hne)]; exact hx
    have t3 := t2.trans (t2.st.newO hx2 (o := .ins C dx []))
    have t4 := t1.trans t3
    refine ⟨S1, x, dx, vs ++ [], xs, fs, rfl, t3.st, sta_none t1.st hx, upd_same, by rw [List.append_nil]; exact h1, hp, fun S' H' o st sm hh hf hl ho hr' => ⟨rfl, ?_⟩⟩
    have hne2 : ∀ {a}, H1 a ≠ none → a ≠ x := fun {a} h z => h (by rw [z]; exact hx)
    refine q x o S' H' ⟨st, t1.s.trans sm, fun a u e n => ?_, fun a e h => ?_, fun a h => ?_⟩ (stp_none t1 hx) (hf x (sta_none t1.st hx) ⟨_, upd_same, (fun ps z => by cases z), (fun c q z => by unfold CodeO at z; cases z)⟩) ho hr'
    · have e1 := t1.h a u e n
      exact hh a u (t3.h a u e1 n) (hne2 (by rw [e1]; simp)) n
    · exact hf a (t4.fr a e h) (h.ext t4.h)
    · exact hl a (t4.lv a h)⟩
end
section
variable {P : Program} {w : World} {K : PySem.W.Frag} {mg : Str → Option Value} {base : Heap} {T : List NTab} {x qual : Str} {st : Stmt} {f C : Addr} {fd : FuncData} {N ps : List Str} {k : Nat} {pre : List Vl → List (Str × Vl) → Prop}
def GamI (N : List Str) (l : Addr) (o : Own) (xs : List Vl) : List Sl := .ow (some l) o :: (xs.map Sl.va ++ List.replicate (N.length - 1 - xs.length) .no)
theorem envI {S H : Hp} {xs : List Vl} {vs : List V} {l : Addr} {ho : HO} {o : Own} (st : Sta T S H) (r : reps K S xs vs) (hS : S l = none) (hl : H l = some ho) (hr : o.r l ho S) : Env K ⟨T, H, S, [l]⟩ (GamI N l o xs) (L2.start N (.ref l :: vs)) S H := by
  have e0 : Env K ⟨T, H, S, []⟩ (Gam0 (N.drop 1) xs) (L2.start (N.drop 1) vs) S H := env0 st r
  have hl2 := reps_length r
  have eΓ : GamI N l o xs = .ow (some l) o :: Gam0 (N.drop 1) xs := by unfold GamI Gam0; rw [List.length_drop]
  have eσ : L2.start N (.ref l :: vs) = some (.ref l) :: L2.start (N.drop 1) vs := by
    unfold L2.start
    rw [List.map_cons, List.length_cons, List.length_drop, List.cons_append, Nat.sub_sub, Nat.add_comm 1]
    try rfl
  have hno : ∀ (j : Nat) (f : Option Addr) (u : Own), (Gam0 (N.drop 1) xs)[j]? ≠ some (.ow f u) := fun j f u z => by
    unfold Gam0 at z
    by_cases h : j < xs.length
    · rw [List.getElem?_append_left (by simpa using h), List.getElem?_map] at z
      cases e : xs[j]? <;> rw [e] at z <;> cases z
    · rw [List.getElem?_append_right (by simpa using h), List.getElem?_replicate] at z
      split at z <;> cases z
  rw [eΓ, eσ]
  refine ⟨st, Same.refl _, fun a o h _ _ => h, fun a h h2 => ⟨h, h2⟩, fun a h => h, by rw [List.length_cons, List.length_cons, e0.len], fun i y hy => ?_, fun i f u hy => ?_, fun i j f g u u' l' h1 h2 h3 h4 => ?_⟩
  · cases i with
    | zero => simp at hy
    | succ i => exact e0.va i y (by simpa using hy)
  · cases i with
    | zero =>
      simp at hy
      obtain ⟨rfl, rfl⟩ := hy
      exact ⟨l, ho, rfl, .inr rfl, hS, hl, hr, fun z => by cases z⟩
    | succ i => exact absurd (by simpa using hy) (hno i f u)
  · cases i with
    | zero => cases j with
      | zero => rfl
      | succ j => exact absurd (by simpa using h2) (hno j g u')
    | succ i => exact absurd (by simpa using h1) (hno i f u)
theorem okI (F : Fun K x qual st f fd) (Sc : FnScope N ps (defScope st)) (len : ∀ xs fs, pre xs fs → xs.length + 1 = ps.length)
    (body : ∀ (cdv : Value) (A : Around) (outer : List PySem.Env) (s : Shared) (H : Hp) (E : XK) (B : Bs) (l : Addr) (xs : List Vl) (fs : List (Str × Vl)), B.T = T → l ∈ B.L0 → Room k (A.deeper (envOfC qual (defScope st) s.heap.objs.size f cdv)) → pre xs fs →
      ∃ Γ' r, GSs (bX P w K mg base N qual st f cdv A outer s H E) B (GamI N l (owF K C []) xs) (defBody st) (.ow (some l) (owF K C fs) :: r ++ Γ')) :
    FnOk P w K mg base CX0 (k + 1) f fd ps (spI K T C pre) := by
  refine F.ok Sc (fun vs H Q E h => ?_) fun cdv A outer s H vs Q E hr h => ?_
  · obtain ⟨S, l, dx, vs', xs, fs, e1, _, _, _, r, hp, _⟩ := h
    rw [e1, List.length_cons, ← reps_length r]; exact len xs fs hp
  · obtain ⟨S, l, dx, vs', xs, fs, e1, st0, hS, hl, r, hp, q⟩ := h
    subst e1
    obtain ⟨Γ', rr, hb⟩ := body cdv A outer s H E ⟨T, H, S, [l]⟩ l xs fs rfl (.head _) hr hp
    refine ⟨_, hb, S, envI st0 r hS hl ⟨dx, [], rfl, rfl, rfl⟩, fun σ' S' H' en => ?_⟩
    obtain ⟨l', ho, h1, h2, h3, h4, h5, h6⟩ := en.ow 0 _ _ rfl
    rcases h2 with h2 | h2
    · cases h2
    · cases h2
      exact q S' H' ho en.st en.bs (fun a u e n n2 => en.fr a u e (by simpa using n) n2) (fun a e h => (en.nw a e h).1) en.lv h4 h5
end
end G
set_option maxHeartbeats 1000000
/-! K15: lambdas. -/
namespace G
open PySem PySem.Spec PyProof.Rows L2 LamX NdefX
/-- a lambda's words -/
structure LF where
  qual : Str
  params : Arguments
  body : Expr
  scope : Scope
  cl : List (Str × Addr)
  c : Addr
def LamO (f : Addr) (F : LF) : HO := .ext fun h => ∃ pm ctv, h.get? f = some (PySem.W.kla_obj "<lambda>" F.qual F.params F.body F.scope F.cl pm F.c ctv)
theorem lamO_ok {P : Program} {w : World} {H : Hp} {h : Heap} {f : Addr} {F : LF} {pm ctv : Value} (e : h.get? f = some (PySem.W.kla_obj "<lambda>" F.qual F.params F.body F.scope F.cl pm F.c ctv)) : ObjOk P w H h f (LamO f F) :=
  ⟨⟨pm, ctv, e⟩, ⟨_, e⟩, fun h1 h2 ⟨p, t, q⟩ k => ⟨p, t, k _ q⟩⟩
theorem lamO_at {P : Program} {w : World} {H : Hp} {h : Heap} {f : Addr} {F : LF} (ok : HOk P w H h) (e : H f = some (LamO f F)) : ∃ pm ctv, h.get? f = some (PySem.W.kla_obj "<lambda>" F.qual F.params F.body F.scope F.cl pm F.c ctv) := (ok f _ e).1
section
variable {X : Cx} {pins : List (Addr × Obj)} {σ : L2.St} {H : Hp} {s : Shared}
/-- a lambda is made -/
theorem lam_made {T : List NTab} {c P0 : Addr} {nm : Nat → Nat → Str} {params : Arguments} {body : Expr} {scope : Scope} {pos : Pos} {E : Value → Shared → Prop} {Q : Value → Shared → Prop} (I : Inv X pins σ H s) (TB : TabB X.base X.mg c P0) (hcode : X.env.code = .ref c)
    (hm : (P0, nm) ∈ T) (hn : nm pos.line pos.col = X.env.qual ++ "<lambda>") (hu : ∀ p ∈ T, p.1 = P0 → p.2 = nm) (hT : TabsN T H) (hdef : defaultsOf params X.env = ([], [])) (hfree : ∀ y ∈ scope.names, y.2 = .free → ∃ c, X.env.cells.lookup y.1 = some c)
    (h : ∀ (f c' : Addr) (H1 : Hp) (s' : Shared), Inv X pins σ H1 s' → ExtN H H1 → (∀ b, H1 b = none → H b = none) → TabsN T H1 → H f = none → H1 f = some (LamO f ⟨X.env.qual ++ "<lambda>", params, body, scope, cloFrom X.env.cells scope.names [], c'⟩) → H1 c' = some (CodeO c' (X.env.qual ++ "<lambda>")) → Q (.ref f) s') :
    wpAny (model X.prog X.w) X.A (eval (.Lambda params body scope pos) X.env) Q E s := by
  obtain ⟨ps, hP, ht, ha⟩ := (show TabN H P0 nm from hT _ hm)
  have bP : s.heap.BuiltinsAt X.mg P0 := TB.bm.keeps I.bk
  have hP' : s.heap.get? P0 = some { cls := .none, data := .fields ps } := I.hok P0 _ hP
  refine PySem.W.kla_eval hdef ?_
  -- what is left, once the code object is there: the function's own object
  have last : ∀ (h' : Heap) (tk : Nat) (c' : Addr) (pm ctv : Value) (H2 : Hp), s.heap.objs.size ≤ h'.objs.size → Inv X pins σ H2 { s with heap := h', toks := tk } → ExtN H H2 → (∀ b, H2 b = none → H b = none) → TabsN T H2 → H2 c' = some (CodeO c' (X.env.qual ++ "<lambda>")) →
      Q (.ref h'.objs.size) { s with heap := h'.push (PySem.W.kla_obj "<lambda>" (X.env.qual ++ "<lambda>") params body scope (cloFrom X.env.cells scope.names []) pm c' ctv), toks := tk } := by
    intro h' tk c' pm ctv H2 hsz J eN nn T2 hc'
    have nF : H2 h'.objs.size = none := J.hok.fresh (Nat.le_refl _)
    have J2 := J.laid (a := h'.objs.size) (o := LamO h'.objs.size ⟨X.env.qual ++ "<lambda>", params, body, scope, cloFrom X.env.cells scope.names [], c'⟩) (h' := h'.push (PySem.W.kla_obj "<lambda>" (X.env.qual ++ "<lambda>") params body scope (cloFrom X.env.cells scope.names []) pm c' ctv)) (t' := tk)
      (fun b u e => Heap.get?_push_of_some _ e) (Nat.le_refl _) (lamO_ok (Heap.get?_push_size _ rfl))
    refine h h'.objs.size c' _ _ J2 (fun b o e n => ?_) (fun b e => nn b (upd_none e)) (T2.ext (same_new nF)) (I.hok.fresh hsz) upd_same ((upd_ne (fun z => by rw [z, nF] at hc'; cases hc')).trans hc')
    have e1 := eN b o e n
    exact (upd_ne (ne_of_none e1 nF)).trans e1
  cases hc : codeAmong pos ps.toList with
  | some cv =>
    obtain ⟨c', e, hco⟩ := ha pos cv hc
    subst e
    rw [hn] at hco
    refine PySem.W.kla_makeFunctionHit (mg := X.mg) (c := c) (P := P0) (ps := ps) (closure_ok hfree) I.ok.glob (I.mod.glob.keeps I.bk) hcode (TB.code.keeps I.bk) hP' ht hc bP fun ctv h' tk hx hsz => ?_
    exact last h' tk c' _ ctv H hsz (I.kept hx) (ExtN.refl H) (fun _ e => e) hT hco
  | none =>
    refine PySem.W.kla_makeFunction (mg := X.mg) (c := c) (P := P0) (ps := ps) (closure_ok hfree) I.ok.glob (I.mod.glob.keeps I.bk) hcode (TB.code.keeps I.bk) hP' ht hc TB.gP bP fun c' ctv h' tk hx hge hlt hrec htb => ?_
    obtain ⟨c2, oc, vs, t, e2, hoc, hd, hv⟩ := hrec
    cases e2
    have nC : H c' = none := I.hok.fresh hge
    have nP : P0 ≠ c' := fun z => by rw [z, nC] at hP; cases hP
    refine last h' tk c' _ ctv (upd (upd H P0 (.tbl (ps ++ #[rawInt pos.line, rawInt pos.col, .ref c']))) c' (CodeO c' (X.env.qual ++ "<lambda>"))) (Nat.le_trans hge (Nat.le_of_lt hlt)) (inv_table (t' := tk) I hP (fun b o hb e => hx b o hb e) htb hge ⟨oc, vs, t, hoc, hd, hv⟩) ?_ (fun b e => upd_none (upd_none e)) ?_ upd_same
    · intro b o e n
      have hb : b ≠ P0 := fun z => n ps (Option.some.inj (e.symm.trans (by rw [z]; exact hP)))
      rw [upd_ne (ne_of_none e nC), upd_ne hb]; exact e
    · intro p hp
      have keepC : ∀ c0 q, H c0 = some (CodeO c0 q) → upd (upd H P0 (.tbl (ps ++ #[rawInt pos.line, rawInt pos.col, .ref c']))) c' (CodeO c' (X.env.qual ++ "<lambda>")) c0 = some (CodeO c0 q) := fun c0 q e => by
        have hb : c0 ≠ P0 := fun z => by rw [z, hP] at e; exact codeO_ne ps (Option.some.inj e).symm
        rw [upd_ne (ne_of_none e nC), upd_ne hb]; exact e
      by_cases hb : p.1 = P0
      · refine ⟨ps ++ #[rawInt pos.line, rawInt pos.col, .ref c'], by rw [hb, upd_ne nP, upd_same], ?_, fun p' cv hcv => ?_⟩
        · simpa using PySem.TriplesOk_snoc _ _ _ _ ht
        · rw [hu p hp hb]
          have hcv : codeAmong p' (ps.toList ++ [rawInt pos.line, rawInt pos.col, .ref c']) = some cv := by simpa using hcv
          rcases among_app2 _ ht hcv with z | ⟨z, z1, z2⟩
          · obtain ⟨c0, e1, e2⟩ := ha p' cv z
            exact ⟨c0, e1, keepC _ _ e2⟩
          · exact ⟨c', z, by rw [← z1, ← z2, hn]; exact upd_same⟩
      · obtain ⟨ps', a1, a2, a3⟩ := hT p hp
        refine ⟨ps', by rw [upd_ne (ne_of_none a1 nC), upd_ne hb]; exact a1, a2, fun p' cv hcv => ?_⟩
        obtain ⟨c0, e1, e2⟩ := a3 p' cv hcv
        exact ⟨c0, e1, keepC _ _ e2⟩
end
end G
set_option maxHeartbeats 1000000
/-! K16: sorted by a lambda that reads an attribute. -/
namespace G
open PySem PySem.Spec PyProof.Rows L2 LamX NdefX PySem.W
section
variable {prog : Program} {w : World} {A : Around} {s : Shared} {K : PySem.W.Frag}
/-- lambda x: x.m, called -/
theorem lam_attr {f a c' C dx : Addr} {qual x m : Str} {params : Arguments} {scope : Scope} {cl : List (Str × Addr)} {pm ctv u : Value} {p1 p2 : Pos} {k : PyData} {mA : Str → Option Value}
    (ho : s.heap.get? f = some (kla_obj "<lambda>" qual params (.Attribute (.Name x p1) m p2) scope cl pm c' ctv)) (hcd : s.heap.CodeRec (.ref c') qual) (hroom : A.depth < recursionLimit) (nl : s.heap.NoLimit) (KX : K.In s.heap)
    (hbind : ∀ v : Value, bindArgs (kla_fn "<lambda>" qual params (.Attribute (.Name x p1) m p2) scope cl pm (.ref c') ctv) ⟨[v], []⟩ = pure [(x, v)]) (hco : scope.isCoroutine = false) (hgen : scope.isGenerator = false) (hk : scope.kind = .function) (hcell : ∀ y ∈ scope.names, y.2 ≠ .cell) (hx : scope.names.lookup x = some .local)
    (hdb : (x == ("__debug__" : Str)) = false) (hb : ∀ env, attributeBase (.Name x p1) m env (eval (.Name x p1) env) = eval (.Name x p1) env)
    (O : ObjM s.heap a dx C mA) (c : Cls K C) (n : NoAttr K C m) (hm : mA m = some u) (hh : handedIn u = true) (hr : Reads s.heap u k []) :
    wpAny (model prog w) A (call (.ref f) [.ref a]) (KeyPure k s) (fun _ _ => False) s := by
  refine wpAny_call (codeAny_mono (R := fun r s' => ∃ u, r = .ok (.ret u) ∧ KeyPure k s u s') (kla_callFunE hroom ho rfl hco hgen rfl hcd ?_) fun r s' hq => ?_)
  · rw [hbind]
    refine wpAny_pure (wpAny_newFunctionEnv hcell (fun y hy => by
      have e : y = (x, Value.ref a) := by simpa using hy
      rw [e]; exact hx) (fun h₁ hns hsb => ⟨nl.fresh _ hsb, ?_⟩) hk)
    show codeAny _ _ (.expr (.Attribute (.Name x p1) m p2) (envX qual scope s.heap.objs.size f (.ref c') cl)) _ _
    have kp : ∀ b o, s.heap.get? b = some o → h₁.get? b = some o := fun b o e => hsb.extBut b o (Nat.ne_of_lt (Heap.lt_size e)) (Heap.get?_push_of_some _ e)
    refine kla_codeExpr (attr_of (hb _) (wpAny_Name (wpAny_loadName_local hk hx hns (by show List.lookup x ([(x, Value.ref a)] : List (Str × Value)).reverse = some (Value.ref a); simp [List.lookup_cons]) ?_) hdb))
    refine get_map (dx := dx) (C := C) (mA := mA) (KX.keeps kp) ⟨kp _ _ O.obj, O.ns.at fun o e => kp _ _ e, O.ne⟩ (c.get m) c.hd n hm hh ?_
    exact ⟨u, rfl, h₁, _, rfl, kp, PyProof.Rows.Reads.keeps kp hr⟩
  · obtain ⟨u', e, hq⟩ := hq
    subst e
    exact hq
end
theorem each_enc {K : PySem.W.Frag} {S : Hp} {α : Type} {enc : α → Vl} : ∀ {as : List α} {vs : List V} {us : List Value}, reps K S (as.map enc) vs → Vals vs us → EachIs (fun (u : Value) (b : V × α) => RelV b.1 u ∧ rep K S (enc b.2) b.1) us (vs.zip as) ∧ (vs.zip as).map (·.2) = as
  | [], _, us, h, r => by have h : _ = _ := h; subst h; cases r; exact ⟨.nil, rfl⟩
  | x :: xs, _, us, ⟨v, t, e1, e2, e3⟩, r => by
    subst e1
    cases r with
    | cons r1 r2 =>
      obtain ⟨q1, q2⟩ := each_enc e3 r2
      exact ⟨.cons ⟨r1, e2⟩ q1, by show x :: (t.zip xs).map _ = _; rw [q2]⟩
theorem enc_back {K : PySem.W.Frag} {S : Hp} {α : Type} {enc : α → Vl} : ∀ {us : List Value} {bs : List (V × α)}, EachIs (fun (u : Value) (b : V × α) => RelV b.1 u ∧ rep K S (enc b.2) b.1) us bs → Vals (bs.map (·.1)) us ∧ reps K S ((bs.map (·.2)).map enc) (bs.map (·.1))
  | [], [], _ => ⟨.nil, rfl⟩
  | u :: us, b :: bs, .cons h t => ⟨.cons h.1 (enc_back t).1, _, _, rfl, h.2, (enc_back t).2⟩
section
variable {X : Cx} {B : Bs} {Γ : List Sl} {x : Vl} {a : Expr} {pos p p1 p2 lpos kpos : Pos} {α : Type} {as : List α} {C : Addr} {fsOf : α → List (Str × Vl)} {key : α → Vl} {j : Nat}
theorem go_sortedLam {xn m : Str} {params : Arguments} {scope : Scope} {c P0 : Addr} {nm : Nat → Nat → Str} (Gm : Gf X.mg) (hcalm : X.calm = true) (hr : Room j X.A) (TB : TabB X.base X.mg c P0) (hcode : X.env.code = .ref c) (hm : (P0, nm) ∈ B.T) (hn : nm lpos.line lpos.col = X.env.qual ++ "<lambda>") (hu : ∀ p ∈ B.T, p.1 = P0 → p.2 = nm)
    (h : GE X B Γ a x) (col : Col X B.T X.A.in1 x (as.map fun z => .ob (insO X.K C (fsOf z)))) (CC : Cls X.K C) (NA : NoAttr X.K C m) (hk : ∀ z ∈ as, (fsOf z).lookup m = some (key z) ∧ keyable (key z) = true) (hal : AllAlike (as.map fun z => toD (key z))) (hso : Sortable (as.map fun z => toD (key z))) (hdp : ∀ z ∈ as, (toD (key z)).depth ≤ 50)
    (hbind : ∀ (pm cc ctv v : Value) (cl : List (Str × Addr)), bindArgs (kla_fn "<lambda>" (X.env.qual ++ "<lambda>") params (.Attribute (.Name xn p1) m p2) scope cl pm cc ctv) ⟨[v], []⟩ = pure [(xn, v)]) (hco : scope.isCoroutine = false) (hgen : scope.isGenerator = false) (hki : scope.kind = .function) (hcell : ∀ y ∈ scope.names, y.2 ≠ .cell) (hfree : ∀ y ∈ scope.names, y.2 ≠ .free) (hx : scope.names.lookup xn = some .local) (hdb : (xn == ("__debug__" : Str)) = false)
    (hb : ∀ env, attributeBase (.Name xn p1) m env (eval (.Name xn p1) env) = eval (.Name xn p1) env) (hdef : defaultsOf params X.env = ([], []))
    (hg : Gl X "sorted" := by rfl) (he : backTo pos (starEach [a] X.env) = (false, eval a X.env) :: backTo pos (starEach [] X.env) := by rfl) (hs : starEach [a] X.env = (false, eval a X.env) :: starEach [] X.env := by rfl) (hpl : (backTo pos (starEach [a] X.env)).any (·.1) = false := by rfl)
    (hall : (backToKw pos (keywordEach [⟨some "key", .Lambda params (.Attribute (.Name xn p1) m p2) scope lpos, kpos⟩] X.env)).all (·.1.isSome) = true := by rfl) (hnone : (backToKw pos (keywordEach [⟨some "key", .Lambda params (.Attribute (.Name xn p1) m p2) scope lpos, kpos⟩] X.env)).any (·.1.isNone) = false := by rfl)
    (hks : (backToKw pos (keywordEach [⟨some "key", .Lambda params (.Attribute (.Name xn p1) m p2) scope lpos, kpos⟩] X.env)).filterMap (·.1) = ([("key" : Str)] : List Str) := by rfl) :
    GO X B Γ (.Call (.Name "sorted" p) [a] [⟨some "key", .Lambda params (.Attribute (.Name xn p1) m p2) scope lpos, kpos⟩] pos) (owL X.K ((as.mergeSort (dataLe false fun z => toD (key z))).map fun z => .ob (insO X.K C (fsOf z)))) := ⟨fun pins s σ H Q I ⟨S, en, q⟩ => by
  refine wpAny_Call_Name_kw (ld_blt I hg Gm.sorted bt_sorted ?_ (by decide) (by decide))
  refine PyProof.Rows.callWith_kw (thn ((ga_cons h ga_nil hs).run pos pins s σ H (fun vs H1 => ∃ S1, Stp B.T S H S1 H1 ∧ reps X.K S1 [x] vs) I ⟨S, en, fun vs S1 H1 t1 h1 => ⟨S1, t1, h1⟩⟩) fun us s1 ⟨vs, H1, I1, r1, S1, t1, v, r0, e1, hv, e2⟩ => ?_) he hpl hall hnone
  have e2 : r0 = [] := e2
  subst e1 e2
  obtain ⟨u, eu, ru⟩ := vals1 r1
  subst eu
  show wpAny _ _ (evalAll [do let v ← eval (.Lambda params (.Attribute (.Name xn p1) m p2) scope lpos) X.env; standAt pos; pure v]) _ _ s1
  refine wpAny_evalAll_cons (wpAny_bind (lam_made I1 TB hcode hm hn hu t1.st.tb hdef (fun y hy e => absurd e (hfree y hy)) fun f c' H2 s2 I2 eN nn T2 f0 f1 c1 => wpAny_bind (wpAny_standAt (wpAny_pure (wpAny_evalAll_nil ?_)))))
  rw [hks]
  -- the step to here
  have t2 : Stp B.T S1 H1 S1 H2 := ⟨⟨fun b o e => eN b o (t1.st.sub _ _ e) (fun ps z => t1.st.nt b ps (by rw [e, z])), T2, t1.st.nt⟩, Same.refl _, eN, fun b e _ => e, fun b n z => n (nn b z)⟩
  obtain ⟨-, ad, rfl⟩ := col pins s2 σ S1 H2 v u (fun _ _ => True) I2 t2.st hv ru (fun _ _ _ _ _ _ _ _ _ _ => True.intro)
  show wpAny _ _ (call (.builtin "sorted") [.ref ad] [("key", .ref f)]) _ _ s2
  refine call_function_entry_kw kind_sorted plain_sorted entry_sorted (by unfold argsOk; kernel_rfl) ?_
  unfold Builtin.«sorted»
  refine wpAny_bind (m := checkCount "sorted" 1 1 _) (wpAny_pure ?_)
  refine wpAny_bind (col pins s2 σ S1 H2 v _ _ I2 t2.st hv ru fun s3 S3 H3 vs us I3 t3 r3 rv hz => ?_).1
  refine wpAny_bind (wpAny_newList ?_ hz)
  have hl : vs.length = us.length := rv.length
  have hp : H3 s3.heap.objs.size = none := I3.hok.fresh (Nat.le_refl _)
  have ho : (s3.heap.push { cls := .type "list", data := .seq us.toArray }).get? s3.heap.objs.size = some (seqObj "list" us.toArray 0) := Heap.get?_push_size _ rfl
  have I4 : Inv X pins σ (upd H3 s3.heap.objs.size (.lst vs)) { s3 with heap := s3.heap.push { cls := .type "list", data := .seq us.toArray } } :=
    I3.laid (t' := s3.toks) (fun b u e => Heap.get?_push_of_some _ e) (Nat.le_refl _) ⟨by rw [hl]; exact hz, us, 0, rv, ho⟩
  have t4 : Stp B.T S1 H2 S3 (upd H3 s3.heap.objs.size (.lst vs)) := t3.trans (t3.st.newO hp)
  have hS3 : S3 s3.heap.objs.size = none := sta_none t3.st hp
  have hf3 : H3 f = some (LamO f ⟨X.env.qual ++ "<lambda>", params, .Attribute (.Name xn p1) m p2, scope, cloFrom X.env.cells scope.names [], c'⟩) := t3.h f _ f1 (fun ps z => by unfold LamO at z; cases z)
  have hc3 : H3 c' = some (CodeO c' (X.env.qual ++ "<lambda>")) := t3.h c' _ c1 (fun ps z => codeO_ne ps z)
  generalize hL : s3.heap.objs.size = L at hp ho I4 t4 hS3 ⊢
  have nL : ∀ {b o}, H3 b = some o → b ≠ L := fun {b o} e z => by rw [z, hp] at e; cases e
  obtain ⟨er0, ez⟩ := each_enc r3 rv
  have mem : ∀ b ∈ vs.zip as, b.2 ∈ as := fun b hb => (List.of_mem_zip hb).2
  have emap : (vs.zip as).map (fun b : V × α => toD (key b.2)) = as.map fun z => toD (key z) := by
    have := congrArg (List.map fun z => toD (key z)) ez
    rw [List.map_map] at this
    exact this
  have hlen : (vs.zip as).length = us.length := er0.length.symm
  generalize hs4 : ({ s3 with heap := s3.heap.push { cls := .type "list", data := .seq us.toArray } } : Shared) = s4 at I4 ho
  have ho4 : s4.heap.get? L = some (seqObj "list" us.toArray 0) := by rw [← hs4]; exact ho
  have base4 : ∀ {b o}, X.base.get? b = some o → b ≠ L ∧ s4.heap.get? b = some o := fun {b o} e => by
    obtain ⟨q1, q2⟩ := I4.bs b o e
    exact ⟨(fun z => by rw [z, upd_same] at q2; cases q2), q1⟩
  obtain ⟨pm, ctv, hf4⟩ := lamO_at I4.hok ((upd_ne (nL hf3)).trans hf3)
  obtain ⟨cc, oc, vs5, tq, ecc, hoc, hdc, hvc⟩ := codeO_at I4.hok ((upd_ne (nL hc3)).trans hc3)
  cases ecc
  refine wpAny_bind (wpAny_holding (wpAny_mono (list_sort_key_data (A := X.A.in1) (vs := us) (bs := vs.zip as) (R := fun (u : Value) (b : V × α) => RelV b.1 u ∧ rep X.K S3 (.ob (insO X.K C (fsOf b.2))) b.1) (k := fun b => toD (key b.2)) (f := .ref f) (kw := [("key", .ref f)]) (b := false) (a := L)
    (Q := fun _ s' => ∃ out cn h' tk, KeepsBut L s4.heap h' ∧ h'.get? L = some (seqObj "list" (List.toArray out) cn) ∧ out.length = us.length ∧ EachIs (fun (u : Value) (b : V × α) => RelV b.1 u ∧ rep X.K S3 (.ob (insO X.K C (fsOf b.2))) b.1) out ((vs.zip as).mergeSort (dataLe false fun b => toD (key b.2))) ∧ s' = { s4 with heap := h', toks := tk })
    (s := s4) ho4 er0 (by rw [emap]; exact hal) (by rw [emap]; exact hso) (by rw [hlen]; exact hz) ?_ (by unfold argsOk; kernel_rfl) rfl ?_ ?_) (fun _ s' hs' => ?_) fun _ _ e => e))
  · intro b hb
    have h1 := hdp _ (mem b hb)
    have h2 := hr.units
    show X.A.units + 1 + 1 + (toD (key b.2)).depth < cLine
    omega
  · rintro uv bx ⟨rb1, la, oo, e5, e6, dx, fvs, e7, e8, e9⟩ hbx h5 tk kb
    obtain ⟨hk1, hk2⟩ := hk _ (mem bx hbx)
    obtain ⟨vk, q1, q2⟩ := look_reps e8 e9 hk1
    rw [e5] at rb1
    obtain rfl : uv = Value.ref la := rb1
    subst e7
    have e6H : upd H3 L (.lst vs) la = some (.ins C dx fvs) := t4.st.sub _ _ e6
    obtain ⟨mA, O, hrel, _, _, hown⟩ := ins_get I4.hok e6H
    have nla : la ≠ L := nL (t3.st.sub _ _ e6)
    have ndx : dx ≠ L := fun z => by rw [z, upd_same] at hown; cases hown
    obtain ⟨uk, hu1, hu2⟩ := RelO.some_of (v := vk) (o := mA m) (by rw [← q1]; exact hrel m)
    have rd := rep_reads I4 (key bx.2) vk uk hk2 (rep_mono t4.st.sub _ _ q2) hu2
    have al : alike (toD (key bx.2)) (toD (key bx.2)) = true := hal _ (List.mem_map.mpr ⟨_, mem bx hbx, rfl⟩) _ (List.mem_map.mpr ⟨_, mem bx hbx, rfl⟩)
    refine lam_attr (s := { s4 with heap := h5, toks := tk }) (K := X.K) (dx := dx) (C := C) (mA := mA) (u := uk) (cl := cloFrom X.env.cells scope.names []) (kb _ _ (nL hf3) hf4) ⟨c', oc, vs5, tq, rfl, kb _ _ (nL hc3) hoc, hdc, hvc⟩ ?_ ?_ ?_ (fun v => hbind pm _ ctv v _) hco hgen hki hcell hx hdb hb ⟨kb _ _ nla O.obj, O.ns.at fun o e => kb _ _ ndx e, O.ne⟩ CC NA hu1 (handed_of hu2) ?_
    · have := hr.dp
      show X.A.depth < recursionLimit
      omega
    · exact I4.mod.nolimit.keeps fun b o e => kb b o (base4 e).1 (base4 e).2
    · exact I4.mod.kin.keeps fun b o e => kb b o (base4 e).1 (base4 e).2
    · exact Reads.keepBut kb (fun o e => by rw [ho4] at e; rw [← Option.some.inj e]) _ _ _ al rd (by simp)
  · intro out cn h' tk kb hL' lo eo
    exact ⟨out, cn, h', tk, kb, hL', by rw [lo, hlen], eo, rfl⟩
  · obtain ⟨out, cn, h', tk, kb, hL', lo, eo, rfl⟩ := hs'
    obtain ⟨rv', rr'⟩ := enc_back (enc := fun z => Vl.ob (insO X.K C (fsOf z))) eo
    have hl' : (((vs.zip as).mergeSort (dataLe false fun b => toD (key b.2))).map (·.1)).length ≤ sizeLine := by rw [rv'.length, lo]; exact hz
    have I5 := I4.write (x := L) (e := L) (o := .lst (((vs.zip as).mergeSort (dataLe false fun b => toD (key b.2))).map (·.1))) (h' := h') (t' := tk) (by rw [upd_same]; exact True.intro) (.inl rfl) (fun b u hb e => kb b u hb e) ⟨_, hL'⟩ ⟨hl', out, cn, rv', hL'⟩
    refine wpAny_pure ⟨_, rfl, .ref L, _, I5, rfl, ?_⟩
    have n2 : H2 L = none := stp_none t3 hp
    have n1 : H1 L = none := nn L n2
    refine q L _ S3 _ (((t1.trans t2).trans t4).over (stp_none t1 n1) hS3 upd_same (fun ps z => by cases z) (fun c q z => by unfold CodeO at z; cases z) _) (stp_none t1 n1) hS3 upd_same ⟨_, rfl, hl', ?_⟩
    have e5 : ((vs.zip as).mergeSort (dataLe false fun b => toD (key b.2))).map (·.2) = as.mergeSort (dataLe false fun z => toD (key z)) := by
      have e6 := List.map_mergeSort (r := dataLe false fun b : V × α => toD (key b.2)) (s := dataLe false fun z => toD (key z)) (f := fun b : V × α => b.2) (l := vs.zip as) (fun a _ b _ => rfl)
      rw [ez] at e6
      exact e6
    rw [← e5]
    exact rr'⟩
end
end G
set_option maxHeartbeats 1000000
/-! K17: a def whose code object is known; a borrowed argument. -/
namespace G
open PySem PySem.Spec PyProof.Rows L2 LamX NdefX
section
variable {P : Program} {w : World} {K : PySem.W.Frag} {mg : Str → Option Value} {base : Heap} {T : List NTab} {x qual : Str} {st : Stmt} {f c : Addr} {fd : FuncData} {N ps : List Str} {k : Nat}
theorem okC {sp : Sp} (F : Fun K x qual st f fd) (hc : fd.code = .ref c) (Sc : FnScope N ps (defScope st)) (len : ∀ vs H Q E, sp vs H Q E → vs.length = ps.length)
    (hbody : ∀ (A : Around) (outer : List PySem.Env) (s : Shared) (H : Hp) (vs : List V) (Q : VK) (E : XK), Room k (A.deeper (envOfC qual (defScope st) s.heap.objs.size f (.ref c))) → sp vs H Q E →
      ∃ t, PSs (bX P w K mg base N qual st f (.ref c) A outer s H E) (defBody st) t ∧ t { nx := fun _ H' => Q .non H', rt := Q } (L2.start N vs) H) : FnOk P w K mg base CX0 (k + 1) f fd ps sp := by
  obtain ⟨oc, od, kV, doc, pm, an, cdv, ct, osl, rfl, lk, hcd⟩ := F.ex
  have hc : cdv = .ref c := hc
  subst hc
  refine fn_of lk hcd Sc len fun A outer s H vs Q E hr hsp => ?_
  obtain ⟨t, h, q⟩ := hbody A outer s H vs Q E hr hsp
  exact ⟨t, h.nox, q⟩
end
section
variable {K : PySem.W.Frag} {B : Bs} {Γ : List Sl} {σ : L2.St} {S H : Hp}
/-- an owned thing of the caller's is seen -/
theorem Env.seeO (e : Env K B Γ σ S H) {i : Nat} {l : Addr} {ho : HO} {o : Own} (hno : ∀ (j : Nat) (f : Option Addr) (u : Own), Γ[j]? ≠ some (.ow f u)) (hi : i < Γ.length) (hσ : σ[i]? = some (some (.ref l))) (hS : S l = none) (hH : H l = some ho) (hr : o.r l ho S) : Env K B (Γ.set i (.ow (some l) o)) σ S H where
  st := e.st
  bs := e.bs
  fr := e.fr
  nw := e.nw
  lv := e.lv
  len := by rw [List.length_set]; exact e.len
  va := fun j y hj => by
    rcases getElem?_set_cases hj with ⟨_, h⟩ | ⟨_, h⟩
    · cases h
    · exact e.va j y h
  ow := fun j f u hj => by
    rcases getElem?_set_cases hj with ⟨h1, h⟩ | ⟨_, h⟩
    · subst h1; cases h
      exact ⟨l, ho, hσ, .inr rfl, hS, hH, hr, fun z => by cases z⟩
    · exact absurd h (hno j f u)
  dis := fun a b f g u u' l1 h1 h2 h3 h4 => by
    rcases getElem?_set_cases h1 with ⟨q1, _⟩ | ⟨_, h⟩
    · rcases getElem?_set_cases h2 with ⟨q2, _⟩ | ⟨_, h⟩
      · exact q1.symm.trans q2
      · exact absurd h (hno b g u')
    · exact absurd h (hno a f u)
def anyV : Vl := .ob ⟨fun _ _ => True, fun _ _ _ _ _ => True.intro⟩
end
/-- arguments of which the i-th is an owned thing of the caller's, that stays as it is -/
def spB (K : PySem.W.Frag) (T : List NTab) (i : Nat) (o : Own) (pre : Pre) : Sp := fun vs H Q _ => ∃ (S : Hp) (xs : List Vl) (y : Vl) (l : Addr) (ho : HO), Sta T S H ∧ reps K S xs vs ∧ vs[i]? = some (.ref l) ∧ S l = none ∧ H l = some ho ∧ o.r l ho S ∧ pre xs y ∧ ∀ v S' H', Stp T S H S' H' → rep K S' y v → Q v H'
section
variable {P : Program} {w : World} {K : PySem.W.Frag} {mg : Str → Option Value} {base : Heap} {T : List NTab} {x qual : Str} {st : Stmt} {f c : Addr} {fd : FuncData} {N ps : List Str} {k i : Nat} {pre : Pre} {o : Own}
theorem okB (F : Fun K x qual st f fd) (hc : fd.code = .ref c) (Sc : FnScope N ps (defScope st)) (hi : i < ps.length) (len : ∀ xs y, pre xs y → xs.length = ps.length)
    (body : ∀ (A : Around) (outer : List PySem.Env) (s : Shared) (H : Hp) (E : XK) (B : Bs) (l : Addr) (xs : List Vl) (y : Vl), B.T = T → Room k (A.deeper (envOfC qual (defScope st) s.heap.objs.size f (.ref c))) → pre xs y →
      ∃ Γ', GRs (bX P w K mg base N qual st f (.ref c) A outer s H E) B ((Gam0 N xs).set i (.ow (some l) o)) (defBody st) Γ' y) :
    FnOk P w K mg base CX0 (k + 1) f fd ps (spB K T i o pre) := by
  refine okC F hc Sc (fun vs H Q E ⟨S, xs, y, l, ho, st, r, _, _, _, _, hp, _⟩ => by rw [← reps_length r]; exact len xs y hp) fun A outer s H vs Q E hr h => ?_
  obtain ⟨S, xs, y, l, ho, st0, r, hv, hS, hH, ho', hp, q⟩ := h
  obtain ⟨Γ', hb⟩ := body A outer s H E ⟨T, H, S, []⟩ l xs y rfl hr hp
  have hno : ∀ (j : Nat) (f : Option Addr) (u : Own), (Gam0 N xs)[j]? ≠ some (.ow f u) := fun j f u z => by
    unfold Gam0 at z
    by_cases h : j < xs.length
    · rw [List.getElem?_append_left (by simpa using h), List.getElem?_map] at z
      cases e : xs[j]? <;> rw [e] at z <;> cases z
    · rw [List.getElem?_append_right (by simpa using h), List.getElem?_replicate] at z
      split at z <;> cases z
  have hxl := len xs y hp
  have hσ : (L2.start N vs)[i]? = some (some (.ref l)) := by
    unfold L2.start
    have : i < vs.length := by rw [← reps_length r, hxl]; exact hi
    rw [List.getElem?_append_left (by simpa using this), List.getElem?_map, hv]; rfl
  have hlt : i < (Gam0 N xs).length := by
    unfold Gam0
    rw [List.length_append, List.length_map]; omega
  exact ⟨_, hb, S, (env0 st0 r).seeO hno hlt hσ hS hH ho', fun v σ' S' H' en rv => q v S' H' en.toStp rv⟩
end
section
variable {X : Cx} {B : Bs} {Γ : List Sl} {e : Expr} {x : Vl} {o : Own}
/-- a new thing of one's own becomes a value -/
theorem go_as (h : GO X B Γ e o) (hx : ∀ (l : Addr) (ho : HO) (S S' : Hp), Same S S' → S' l = some ho → o.r l ho S → rep X.K S' x (.ref l)) : GE X B Γ e x := PE_imp h fun σ H Q ⟨S, en, k⟩ =>
  ⟨S, en, fun l ho S' H' t h0 h1 h2 h3 => k (.ref l) _ H' (t.freeze h0 h1 h2 (o.nt l ho S' h3)) (hx l ho S' _ (same_new h1) upd_same h3)⟩
end
end G
set_option maxHeartbeats 1000000
/-! K18: a while loop that returns; a call that lends a thing. -/
namespace G
open PySem PySem.Spec PyProof.Rows L2 LamX NdefX
section
variable {X : Cx} {B : Bs} {Γ : List Sl} {c : Expr} {pos : Pos} {body : List Stmt} {y : Vl}
theorem gr_while {Γ' : List Sl} (Γf : Nat → List Sl) (n : Nat) (hp : PassesOwn (model X.prog X.w) X.A X.env X.xe) (ht : ∀ i ≤ n, GT X B (Γf i) c true) (hb : ∀ i < n, GSs X B (Γf i) body (Γf (i + 1))) (hr : GRs X B (Γf n) body Γ' y) :
    GR X B (Γf 0) (.While c body [] pos) Γ' y := by
  refine PS_imp (ps_while (tc := fun σ H Q => ∃ i : {i : Nat // i ≤ n}, tT X.K B (Γf i.1) true σ H Q) (tb := fun D σ H => ∃ i : {i : Nat // i ≤ n}, if i.1 < n then tN X.K B (Γf i.1) (Γf (i.1 + 1)) D σ H else tR X.K B (Γf n) Γ' y D σ H) hp (PT_ex fun i => ht i.1 i.2) (PSs_ex fun i => ?_)) fun D σ H ⟨S, en, k⟩ => ?_
  · by_cases h : i.1 < n
    · exact PSs_imp (hb i.1 h) fun D σ H q => by rw [if_pos h] at q; exact q
    · exact PSs_imp hr fun D σ H q => by rw [if_neg h] at q; exact q
  · refine ⟨fun m σ2 H2 => ∃ i S2, i ≤ n ∧ m = n - i ∧ Env X.K B (Γf i) σ2 S2 H2, ⟨n, 0, S, Nat.zero_le _, by simp, en⟩, ?_⟩
    rintro m σ2 H2 ⟨i, S2, hle, rfl, en2⟩
    refine ⟨⟨i, hle⟩, S2, en2, fun S3 H3 t3 => ?_⟩
    have en3 := en2.step t3
    refine iteT ⟨fun σ4 H4 => i < n ∧ ∃ S4, Env X.K B (Γf (i + 1)) σ4 S4 H4, fun σ4 H4 ⟨hin, S4, e4⟩ => ⟨n - (i + 1), by omega, i + 1, S4, hin, rfl, e4⟩, ⟨i, hle⟩, ?_⟩
    by_cases h : i < n
    · rw [if_pos h]
      exact ⟨S3, en3, fun σ5 S5 H5 e5 => ⟨h, S5, e5⟩⟩
    · rw [if_neg h]
      have e : i = n := by omega
      subst e
      exact ⟨S3, en3, fun v σ5 S5 H5 e5 r5 => k v σ5 S5 H5 e5 r5⟩
end
section
variable {X : Cx} {B : Bs} {Γ : List Sl} {e0 e1 e3 : Expr} {pos p pb : Pos} {x0 x1 x3 y : Vl} {k j : Nat} {name nb : Str} {ps : List Str} {pre : Pre} {o : Own} {fo : Option Addr}
theorem ge_lend (ib : Nat) (Gf : ∃ f fd, FnOk X.prog X.w X.K X.mg X.base CX0 k f fd ps (spB X.K B.T 2 o pre) ∧ X.mg name = some (.ref f) ∧ PySem.W.keepIn X.K (.ref f) = true ∧ Binds X.K fd ps []) (hr : Room j X.A) (hk : k ≤ j) (hg : Gl X name) (h0 : GE X B Γ e0 x0) (h1 : GE X B Γ e1 x1) (h3 : GE X B Γ e3 x3) (hp : pre [x0, x1, anyV, x3] y)
    (hi : Γ[ib]? = some (.ow fo o) := by rfl) (hN : X.N[ib]? = some nb := by rfl) (hv : Vis X.env.scope nb := by first | exact Or.inl rfl | exact Or.inr (Or.inl rfl) | exact Or.inr (Or.inr rfl)) (hdb : (name == ("__debug__" : Str)) = false := by decide) (hd : (nb == ("__debug__" : Str)) = false := by decide) (hcd : (nb == ("__classdict__" : Str)) = false := by decide)
    (hs0 : starEach [e0, e1, .Name nb pb, e3] X.env = (false, eval e0 X.env) :: starEach [e1, .Name nb pb, e3] X.env := by rfl) (hs1 : starEach [e1, .Name nb pb, e3] X.env = (false, eval e1 X.env) :: starEach [.Name nb pb, e3] X.env := by rfl) (hs2 : starEach [.Name nb pb, e3] X.env = (false, eval (.Name nb pb) X.env) :: starEach [e3] X.env := by rfl) (hs3 : starEach [e3] X.env = (false, eval e3 X.env) :: starEach [] X.env := by rfl)
    (hpl : (backTo pos (starEach [e1, .Name nb pb, e3] X.env)).any (·.1) = false := by rfl) : GE X B Γ (.Call (.Name name p) [e0, e1, .Name nb pb, e3] [] pos) y := by
  obtain ⟨f, fd, F, hm, hkp, hb⟩ := Gf
  refine PE_imp (pe_call F (hr.mono hk) hg hm hkp hb .nil (pass0 (X := X)) (pa_cons h0 (pa_cons h1 (pa_cons (pe_var hN hv hd hcd) (pa_cons h3 pa_nil hs3) hs2) hs1) hs0) hdb hs0 hpl) fun σ H Q ⟨S, en, q⟩ => ⟨S, en, fun v0 S1 H1 t1 r0 => ⟨S1, en.step t1, fun v1 S2 H2 t2 r1 => ?_⟩⟩
  have en2 := (en.step t1).step t2
  obtain ⟨l, ho, o1, o2, o3, o4, o5, o6⟩ := en2.ow ib _ _ hi
  refine ⟨.ref l, o1, S2, en2, fun v3 S3 H3 t3 r3 => ?_⟩
  have en3 := en2.step t3
  obtain ⟨l', ho', p1, p2, p3, p4, p5, p6⟩ := en3.ow ib _ _ hi
  rw [o1] at p1
  cases p1
  refine ⟨S3, [x0, x1, anyV, x3], y, l, ho', t3.st, ⟨v0, _, rfl, rep_mono (t2.s.trans t3.s) _ _ r0, v1, _, rfl, rep_mono t3.s _ _ r1, .ref l, _, rfl, True.intro, v3, [], rfl, r3, rfl⟩, rfl, p3, p4, p5, hp, fun v S4 H4 t4 r4 => q v S4 H4 (((t1.trans t2).trans t3).trans t4) r4⟩
end
end G
set_option maxHeartbeats 1000000
/-! K19: a lambda over the running frame's own cells, lent to a function that is called. -/
namespace G
open PySem PySem.Spec PyProof.Rows L2 LamX NdefX
abbrev lNF (L : LF) : NF := ⟨"<lambda>", L.qual, L.params, [], L.scope, L.cl, L.c⟩
structure LamOk (P : Program) (w : World) (K : PySem.W.Frag) (mg : Str → Option Value) (base : Heap) (k : Nat) (f : Addr) (L : LF) (fr : List Str) (sp : List (Option V) → Sp) : Prop where
  run : ∀ (A : Around) (outer : List PySem.Env) (s : Shared) (H : Hp) (us : List Value) (vs : List V) (ws : List (Option V)) (Q : VK), Room k A → Env0 P w K mg base A outer s H → H f = some (LamO f L) → H L.c = some (CodeO L.c L.qual) →
    CellsAt L.cl fr ws s.heap H → Vals vs us → sp ws vs H Q E0 → codeAny (model P w) A (.call (.ref f) ⟨us, []⟩) (CR CX0 outer P w H s Q E0) s
section
variable {P : Program} {w : World} {K : PySem.W.Frag} {mg : Str → Option Value} {base : Heap} {T : List NTab} {N ps fr : List Str} {L : LF} {f : Addr} {k : Nat} {pre : List Vl → List Vl → Vl → Prop}
theorem lamok_of (S : NScope N ps fr L.scope) (hb : ∀ (pm ctv : Value) (us : List Value), us.length = ps.length → bindArgs (PySem.W.kla_fn "<lambda>" L.qual L.params L.body L.scope L.cl pm (.ref L.c) ctv) ⟨us, []⟩ = pure (ps.zip us))
    (body : ∀ (A : Around) (outer : List PySem.Env) (s : Shared) (H : Hp) (B : Bs) (xs ys : List Vl) (y : Vl), B.T = T → Room k (A.deeper (envF (lNF L) f s.heap.objs.size)) → xs.length = ps.length → pre ys xs y →
      GE (nX P w K mg base N (lNF L) f A outer s H E0) B (Gam0 N (xs ++ ys)) L.body y) :
    LamOk P w K mg base (k + 1) f L fr (spN K T ps.length pre) := by
  refine ⟨fun A outer s H us vs ws Q hr e0 hf hc C r hsp => ?_⟩
  obtain ⟨S0, xs, ys, wv, y, st, e1, r1, r2, hxl, hp, q⟩ := hsp
  subst e1
  have hl : vs.length = ps.length := by rw [← reps_length r1]; exact hxl
  have lim : s.heap.NoLimit := e0.mod.nolimit.keeps fun b o e => (e0.bs b o e).1
  obtain ⟨pm, ctv, ho⟩ := lamO_at e0.hok hf
  refine PySem.W.kla_callFunE hr.depth ho rfl S.co S.gen rfl (codeO_at e0.hok hc) ?_
  rw [hb pm ctv us (by rw [← r.length]; exact hl)]
  refine wpAny_pure (wpAny_newFunctionEnv S.nocell (fun ⟨n, _⟩ hy => S.par n (List.of_mem_zip hy).1) (fun h₁ hns hsb => ⟨lim.fresh _ hsb, ?_⟩) S.kind)
  show codeAny _ _ (.expr L.body (envF (lNF L) f s.heap.objs.size)) _ _
  have kp : ∀ b o, s.heap.get? b = some o → h₁.get? b = some o := fun b o e => hsb.extBut b o (Nat.ne_of_lt (Heap.lt_size e)) (Heap.get?_push_of_some _ e)
  have I : Inv (ncx CX0 P w K mg base N (lNF L) f A outer s H E0) [] (startF N vs (wv.map some)) H { s with heap := h₁, toks := s.toks + (ps.zip us).length } := inv_startN S hr.hd e0 hl r C hns kp
  have hbody := body A outer s H ⟨T, H, S0, []⟩ xs ys y rfl (hr.deeper _) hxl hp
  refine PySem.W.kla_codeExpr (wpAny_mono (hbody.nox.run [] _ _ H Q I ?_) (fun v s' hq => ?_) fun e s' hq => hq)
  · rw [startF_eq]
    exact ⟨S0, env0 st (reps_append r1 r2), fun v S' H' t1 rv => q v S' H' t1 rv⟩
  · obtain ⟨w', H', J', rv, q⟩ := hq
    exact ⟨w', H', J'.os, J'.bare, J'.base, J'.hok, rv, q⟩
/-- a lambda whose cells are known may be called -/
theorem callable_lam {S0 : Hp} {h0 : Heap} {H0 : Hp} {wv : List V} {ys : List Vl} (hn : LamOk P w K mg base k f L fr (spN K T ps.length pre)) (C : CellsAt L.cl fr (wv.map some) h0 H0)
    (full : ∀ y c, L.cl.lookup y = some c → y ∈ fr) (nd : fr.Nodup) (hh : Has S0 (celsOf L.cl fr (wv.map some) h0)) (hf : S0 f = some (LamO f L)) (hc : S0 L.c = some (CodeO L.c L.qual)) (ry : reps K S0 ys wv) (py : plains ys = true) :
    Callable P w K mg base T k (fun xs y => xs.length = ps.length ∧ plains xs = true ∧ pre ys xs y) f S0 := by
  intro S H sm st A outer s us vs xs y Q hr e0 rx rv ⟨hxl, hpx, hp⟩ q
  have hs : Has S (celsOf L.cl fr (wv.map some) h0) := fun a o v e => sm _ _ (hh a o v e)
  have hH : Has H (celsOf L.cl fr (wv.map some) h0) := fun a o v e => st.sub _ _ (hs a o v e)
  have hw : ∀ (i : Nat) (y : Str), fr[i]? = some y → ∃ v, (wv.map some)[i]? = some (some v) := fun i y e => by
    have hi : i < wv.length := by
      have := C.len
      rw [List.length_map] at this
      rw [this]; exact (List.getElem?_eq_some_iff.mp e).1
    exact ⟨wv[i], by rw [List.getElem?_map, List.getElem?_eq_getElem hi]; rfl⟩
  have CA := cells_again C full hw nd e0.hok hH
  have nf : ∀ a, (celsOf L.cl fr (wv.map some) h0 a).isSome → a ∉ frs outer := fun a e hb => by
    obtain ⟨⟨o, v⟩, e⟩ := Option.isSome_iff_exists.mp e
    have := hH a o v e
    rw [e0.frf a hb] at this
    cases this
  have hf' : delC H (celsOf L.cl fr (wv.map some) h0) f = some (LamO f L) := delC_ne hH (st.sub _ _ (sm _ _ hf)) (fun o v z => by unfold LamO at z; cases z)
  have hc' : delC H (celsOf L.cl fr (wv.map some) h0) L.c = some (CodeO L.c L.qual) := delC_ne hH (st.sub _ _ (sm _ _ hc)) (fun o v z => by unfold CodeO at z; cases z)
  refine codeAny_mono (hn.run A outer s (delC H (celsOf L.cl fr (wv.map some) h0)) us vs (wv.map some) (fun v H1 => ∃ S1, Stp T (delC S (celsOf L.cl fr (wv.map some) h0)) (delC H (celsOf L.cl fr (wv.map some) h0)) S1 H1 ∧ rep K S1 y v) hr (env0_del e0 hH) hf' hc' CA rv
    ⟨delC S (celsOf L.cl fr (wv.map some) h0), xs, ys, wv, y, sta_del st hs, rfl, reps_del hs xs vs hpx rx, reps_del hs ys wv py (reps_mono sm _ _ ry), hxl, hp, fun v S1 H1 t1 r1 => ⟨S1, t1, r1⟩⟩) fun r s' hq => ?_
  cases r with
  | error e => exact hq.elim
  | ok fl =>
    cases fl with
    | ret u =>
      obtain ⟨v, H1, os, ba, un, ok, rv', S1, t1, r1⟩ := hq
      obtain ⟨un2, nn, kk⟩ := un_del un hH (fun a o v e => (has_heap e0.hok hH e).1) nf
      obtain ⟨t2, sm2⟩ := stp_del st hs t1 nn
      refine ⟨v, addC H1 (celsOf L.cl fr (wv.map some) h0), os, ba, un2, hok_add ok nn (fun a o v e => ⟨kk a o v e, (has_heap e0.hok hH e).2⟩), rv', q v _ _ t2 (rep_mono sm2 _ _ r1)⟩
    | next => exact hq.elim
    | brk => exact hq.elim
    | cont => exact hq.elim
end
/-! ### steps -/
section
variable {T : List NTab} {S H H2 S' H' : Hp} {C : Cels}
theorem stp_add (hn : ∀ a, (C a).isSome → H a = none) (st : Sta T S H) (t : Stp T (addC S C) (addC H C) S' H') : Stp T S H (delC S' C) (delC H' C) ∧ Has S' C := by
  have hs' : Has S' C := fun a o v e => t.s _ _ (addC_in e)
  have nC : ∀ {a}, H a ≠ none → C a = none := fun {a} n => by
    cases z : C a with
    | none => rfl
    | some y => exact absurd (hn a (by rw [z]; rfl)) n
  refine ⟨⟨sta_del t.st hs', fun a x e => ?_, fun a x e n => ?_, fun a e n => ?_, fun a n => ?_⟩, hs'⟩
  · have z := nC (a := a) (by rw [st.sub _ _ e]; simp)
    rw [delC_out z]; exact t.s a x (by rw [addC_out z]; exact e)
  · have z := nC (a := a) (by rw [e]; simp)
    rw [delC_out z]; exact t.h a x (by rw [addC_out z]; exact e) n
  · obtain ⟨u, u1, u2⟩ := n
    have z := nC (a := a) (by rw [u1]; simp)
    rw [delC_out z]; exact t.fr a (by rw [addC_out z]; exact e) ⟨u, by rw [addC_out z]; exact u1, u2⟩
  · have z := nC n
    rw [delC_out z]; exact t.lv a (by rw [addC_out z]; exact n)
/-- the cells come into sight -/
theorem sta_add (hn : ∀ a, (C a).isSome → H a = none) (st : Sta T S H) : Sta T (addC S C) (addC H C) := by
  refine ⟨fun a o e => ?_, st.tb.ext (same_add hn), fun a ps e => ?_⟩
  · cases z : C a with
    | none => rw [addC_out z] at e ⊢; exact st.sub _ _ e
    | some y => obtain ⟨o2, v2⟩ := y; rw [addC_in z] at e ⊢; exact e
  · cases z : C a with
    | none => rw [addC_out z] at e; exact st.nt a ps e
    | some y => obtain ⟨o2, v2⟩ := y; rw [addC_in z] at e; cases e
/-- a new object and a code object -/
theorem stp_two {f c' : Addr} {x : HO} {q : Str} (st : Sta T S H) (eN : ExtN H H2) (nn : ∀ b, H2 b = none → H b = none) (T2 : TabsN T H2) (f0 : H f = none) (f1 : H2 f = some x) (c1 : H2 c' = some (CodeO c' q)) (nx : ∀ ps, x ≠ .tbl ps) (hne : f ≠ c') :
    Stp T S H (upd (upd S c' (CodeO c' q)) f x) H2 := by
  have Sf : S f = none := sta_none st f0
  have nS : ∀ {a o}, S a = some o → H2 a = some o := fun {a o} e => eN a o (st.sub _ _ e) (fun ps z => st.nt a ps (by rw [e, z]))
  have at_ : ∀ {a o}, upd (upd S c' (CodeO c' q)) f x a = some o → (a = f ∧ o = x) ∨ (a = c' ∧ o = CodeO c' q) ∨ S a = some o := fun {a o} e => by
    by_cases e1 : a = f
    · rw [e1, upd_same] at e; exact .inl ⟨e1, (Option.some.inj e).symm⟩
    · rw [upd_ne e1] at e
      by_cases e2 : a = c'
      · rw [e2, upd_same] at e; exact .inr (.inl ⟨e2, (Option.some.inj e).symm⟩)
      · rw [upd_ne e2] at e; exact .inr (.inr e)
  refine ⟨⟨fun a o e => ?_, T2, fun a ps e => ?_⟩, fun a o e => ?_, eN, fun a e n => ?_, fun a n z => n (nn a z)⟩
  · rcases at_ e with ⟨rfl, rfl⟩ | ⟨rfl, rfl⟩ | e
    · exact f1
    · exact c1
    · exact nS e
  · rcases at_ e with ⟨_, z⟩ | ⟨_, z⟩ | e
    · exact nx ps z.symm
    · exact codeO_ne ps z.symm
    · exact st.nt a ps e
  · have h2 := nS e
    by_cases e1 : a = f
    · rw [e1, Sf] at e; cases e
    · rw [upd_ne e1]
      by_cases e2 : a = c'
      · rw [e2, c1] at h2
        rw [e2, upd_same]; exact h2
      · rw [upd_ne e2]; exact e
  · obtain ⟨o, n1, n2, n3⟩ := n
    have h2 := eN a o n1 n2
    by_cases e1 : a = f
    · rw [e1, f0] at n1; cases n1
    · by_cases e2 : a = c'
      · rw [e2, c1] at h2; exact absurd (Option.some.inj h2).symm (n3 _ _)
      · rw [upd_ne e1, upd_ne e2]; exact e
end
/-! ### the value -/
def lamV (qual : Str) (params : Arguments) (body : Expr) (scope : Scope) (cl : List (Str × Addr)) : Vl := .ob {
  p := fun v S => ∃ f c', v = .ref f ∧ S f = some (LamO f ⟨qual, params, body, scope, cl, c'⟩) ∧ S c' = some (CodeO c' qual)
  mono := fun v S S' e ⟨f, c', h1, h2, h3⟩ => ⟨f, c', h1, e _ _ h2, e _ _ h3⟩ }
theorem lamO_code {P : Program} {w : World} {H : Hp} {h : Heap} {f c : Addr} {F : LF} {q : Str} (ok : HOk P w H h) (e : H f = some (LamO f F)) (e2 : H c = some (CodeO c q)) : f ≠ c := fun z => by
  obtain ⟨pm, ctv, ho⟩ := lamO_at ok e
  obtain ⟨c2, oc, vs, t, ec, hoc, hd, _⟩ := codeO_at ok e2
  cases ec
  rw [← z, ho] at hoc
  cases hoc
  cases hd
section
variable {X : Cx} {B : Bs} {Γ : List Sl} {params : Arguments} {body : Expr} {scope : Scope} {pos p : Pos} {c P0 : Addr} {nm : Nat → Nat → Str}
theorem ge_lam (TB : TabB X.base X.mg c P0) (hcode : X.env.code = .ref c) (hm : (P0, nm) ∈ B.T) (hn : nm pos.line pos.col = X.env.qual ++ "<lambda>") (hu : ∀ p ∈ B.T, p.1 = P0 → p.2 = nm) (hdef : defaultsOf params X.env = ([], []))
    (hfree : ∀ y ∈ scope.names, y.2 = .free → X.env.scope.names.lookup y.1 = some .cell ∨ X.env.scope.names.lookup y.1 = some .free) : GE X B Γ (.Lambda params body scope pos) (lamV (X.env.qual ++ "<lambda>") params body scope (cloFrom X.env.cells scope.names [])) := ⟨fun pins s σ H Q I ⟨S, en, q⟩ => by
  refine lam_made I TB hcode hm hn hu en.st.tb hdef (fun y hy e => (hfree y hy e).elim (fun z => I.ok.has _ (.inl z)) fun z => I.ok.has _ (.inr z)) fun f c' H1 s' I1 eN nn T1 f0 f1 c1 => ?_
  have hne := lamO_code I1.hok f1 c1
  exact ⟨.ref f, H1, I1, rfl, q (.ref f) _ H1 (stp_two en.st eN nn T1 f0 f1 c1 (fun ps z => by unfold LamO at z; cases z) hne) ⟨f, c', rfl, upd_same, (upd_ne hne.symm).trans upd_same⟩⟩⟩
/-- g(a, b, lam, c, d) where lam is a lambda over the frame's names at i0 and i1 -/
theorem ge_callLam {n : Str} {pn ps fr : List Str} {k k2 j i0 i1 : Nat} {pre : Pre} {npre : List Vl → List Vl → Vl → Prop} {lpre : Pre} {e : Expr} {es : List Expr} {x0 x1 x3 x4 y0 y1 y : Vl} {qual : Str} (hqual : qual = X.env.qual ++ "<lambda>")
    (F : FnG X.prog X.w X.K X.mg X.base k n pn (spV X.K B.T pre)) (hr : Room j X.A) (hk : k ≤ j) (hg : Gl X n)
    (ha : GA X B Γ (e :: es) [x0, x1, lamV qual params body scope (cloFrom X.env.cells scope.names []), x3, x4])
    (h0 : Γ[i0]? = some (.va y0)) (h1 : Γ[i1]? = some (.va y1)) (hy : plains [y0, y1] = true)
    (hfree : ∀ y ∈ scope.names, y.2 = .free → X.env.scope.names.lookup y.1 = some .cell ∨ X.env.scope.names.lookup y.1 = some .free) (hfr : ∀ y ∈ fr, (y, NameKind.free) ∈ scope.names) (full : ∀ y ∈ scope.names, y.2 = .free → y.1 ∈ fr) (nd : fr.Nodup) (hjs : [i0, i1].map (fun j => X.N[j]?) = fr.map some)
    (hlam : ∀ f c', LamOk X.prog X.w X.K X.mg X.base k2 f ⟨qual, params, body, scope, cloFrom X.env.cells scope.names [], c'⟩ fr (spN X.K B.T ps.length npre))
    (hl : ∀ xs y, lpre xs y → xs.length = ps.length ∧ plains xs = true ∧ npre [y0, y1] xs y)
    (hp : pre [x0, x1, fnV X.prog X.w X.K X.mg X.base B.T k2 lpre, x3, x4] y) (hpy : plain y = true) (hfn : ∀ y, X.fn y = true := by intro _; rfl) (hdb : (n == ("__debug__" : Str)) = false := by decide) (he : starEach (e :: es) X.env = (false, eval e X.env) :: starEach es X.env := by rfl) (hpl : (backTo pos (starEach es X.env)).any (·.1) = false := by rfl) :
    GE X B Γ (.Call (.Name n p) (e :: es) [] pos) y := ⟨fun pins s σ H Q I ⟨S, en, q⟩ => by
  obtain ⟨f, fd, FF, hm, hkp, hb⟩ := F
  refine wpAny_Call_Name_kw (ld_glob I hg hm ?_ hdb)
  refine PySem.W.callWith_K (h₀ := X.base) I.ok.mod.kin hkp (thn (ha.run pos pins s σ H (fun vs H1 => ∃ S1, Stp B.T S H S1 H1 ∧ reps X.K S1 _ vs) I ⟨S, en, fun vs S1 H1 t1 r1 => ⟨S1, t1, r1⟩⟩) fun us s1 ⟨vs, H1, I1, r, S1, t1, r1⟩ => ⟨I1.kIn, ?_⟩) he hpl
  have en1 := en.step t1
  obtain ⟨w0, hw0, rw0⟩ := en1.va i0 _ h0
  obtain ⟨w1, hw1, rw1⟩ := en1.va i1 _ h1
  have CA : CellsAt (cloFrom X.env.cells scope.names []) fr ([w0, w1].map some) s1.heap H1 := by
    have := cells_of I1 (Caps.made I1.ok hfree hfr hjs)
    rw [show [i0, i1].map (slotAt σ) = [w0, w1].map some by show [slotAt σ i0, slotAt σ i1] = _; rw [slotAt_of hw0, slotAt_of hw1]; rfl] at this
    exact this
  have hfull : ∀ y c, (cloFrom X.env.cells scope.names []).lookup y = some c → y ∈ fr := fun y c e => clo_full full e
  have hcells : ∀ y c, (cloFrom X.env.cells scope.names []).lookup y = some c → X.env.cells.lookup y = some c := fun y c e =>
    clo_cm (fun y hy e => (hfree y hy e).elim (fun z => I1.ok.has _ (.inl z)) fun z => I1.ok.has _ (.inr z)) e
  have hof : ∀ {a o v}, celsOf (cloFrom X.env.cells scope.names []) fr ([w0, w1].map some) s1.heap a = some (o, v) → (∃ y, X.env.cells.lookup y = some a) ∧ s1.heap.get? a = some o ∧ ∃ u, RelV v u ∧ o.data = .cell (some u) := fun {a o v} e => by
    obtain ⟨j, y, _, e2, _, e5, e6⟩ := celsOf_some e
    exact ⟨⟨y, hcells y a e2⟩, e5, e6⟩
  have hn0 : ∀ a, (celsOf (cloFrom X.env.cells scope.names []) fr ([w0, w1].map some) s1.heap a).isSome → H1 a = none := fun a e => by
    obtain ⟨⟨o, v⟩, e⟩ := Option.isSome_iff_exists.mp e
    obtain ⟨⟨y, hy⟩, _⟩ := hof e
    exact I1.freeC y a hy
  have hge : ∀ a, (celsOf (cloFrom X.env.cells scope.names []) fr ([w0, w1].map some) s1.heap a).isSome → X.s_0.heap.objs.size ≤ a := fun a e => by
    obtain ⟨⟨o, v⟩, e⟩ := Option.isSome_iff_exists.mp e
    obtain ⟨⟨y, hy⟩, _⟩ := hof e
    exact I1.ok.cab y a (hfn y) hy
  have hfs : ∀ a, (celsOf (cloFrom X.env.cells scope.names []) fr ([w0, w1].map some) s1.heap a).isSome → a ∉ frs X.stack := fun a e hb => by
    have hg := hge a e
    obtain ⟨⟨o, v⟩, e⟩ := Option.isSome_iff_exists.mp e
    obtain ⟨⟨y, hy⟩, _⟩ := hof e
    rcases List.mem_cons.mp (I1.stkSub a hb) with z | hb
    · exact I1.cne y a hy z
    · obtain ⟨_, o', ho', _⟩ := I1.ok.funs.mem hb
      exact absurd (Heap.lt_size ho') (Nat.not_lt.mpr hg)
  have hba : ∀ a, (celsOf (cloFrom X.env.cells scope.names []) fr ([w0, w1].map some) s1.heap a).isSome → X.base.get? a = none := fun a e => Heap.get?_none_of_le (Nat.le_trans I1.ok.bsz (hge a e))
  generalize hC : celsOf (cloFrom X.env.cells scope.names []) fr ([w0, w1].map some) s1.heap = C at hof hn0 hfs hba
  have e0 := env0_add I1.env0 hn0 hba hfs (fun a o v e => (hof e).2)
  have st1 := sta_add hn0 t1.st
  have sm : Same S1 (addC S1 C) := same_add fun a e => sta_none t1.st (hn0 a e)
  have r2 := reps_mono sm _ _ r1
  obtain ⟨v0, t0, q0, q1, v1, t2, q2, q3, v2, t3, q4, q5, q6⟩ := r2
  subst q0 q2 q4
  obtain ⟨lf, lc, ql1, ql2, ql3⟩ := q5
  have cal : Callable X.prog X.w X.K X.mg X.base B.T k2 lpre lf (addC S1 C) := by
    subst hC
    have q := callable_lam (hlam lf lc) CA hfull nd addC_has ql2 ql3 (ys := [y0, y1]) ⟨w0, _, rfl, rep_mono sm _ _ rw0, w1, _, rfl, rep_mono sm _ _ rw1, rfl⟩ hy
    exact fun S1 H1 sm st A outer s us vs xs y Q hr e0 rx rv p q2 => q S1 H1 sm st A outer s us vs xs y Q hr e0 rx rv (hl xs y p) q2
  have seen : FnSeen X.K (addC S1 C) lf := .inr (.inr ⟨_, ql2, fun P w H h ok => ⟨_, _, _, _, ok.1.choose_spec.choose_spec⟩⟩)
  have r3 : reps X.K (addC S1 C) [x0, x1, fnV X.prog X.w X.K X.mg X.base B.T k2 lpre, x3, x4] (v0 :: v1 :: v2 :: t3) := ⟨v0, _, rfl, q1, v1, _, rfl, q3, v2, _, rfl, ⟨lf, ql1, seen, cal⟩, q6⟩
  have hlen : us.length = pn.length := by rw [← r.length]; exact FF.len _ (addC H1 C) (fun _ _ => True) E0 ⟨addC S1 C, _, y, st1, r3, hp, fun _ _ _ _ _ => trivial⟩
  have hb2 := hb s1 us I1.kIn (by rw [List.append_nil]; exact hlen)
  rw [List.append_nil] at hb2
  show wpAny _ _ (call (.ref f) us) _ _ _
  refine wpAny_call (codeAny_mono (FF.run X.A X.stack s1 (addC H1 C) ⟨us, []⟩ us _ (fun v H' => ∃ S', Stp B.T (addC S1 C) (addC H1 C) S' H' ∧ rep X.K S' y v) E0 (hr.mono hk) e0 hb2 r ⟨addC S1 C, _, y, st1, r3, hp, fun v S' H' t2 r4 => ⟨S', t2, r4⟩⟩) fun r s' hq => ?_)
  cases r with
  | error e => exact hq.elim
  | ok fl =>
    cases fl with
    | ret u =>
      obtain ⟨v, H', os, bare, un, ok, rv, S', t2, r4⟩ := hq
      obtain ⟨un2, has⟩ := un_add un hn0 (fun a o v e => (hof e).2.1) ok
      obtain ⟨t3, hasS⟩ := stp_add hn0 t1.st t2
      exact I1.after ⟨v, delC H' C, os, bare, un2, hok_del ok has, rv, q v (delC S' C) _ (t1.trans t3) (rep_del hasS y v hpy r4)⟩
    | next => exact hq.elim
    | brk => exact hq.elim
    | cont => exact hq.elim⟩
end
end G
set_option maxHeartbeats 1000000
/-! K20: for k, v in d.items(), the dict locked. -/
namespace G
open PySem PySem.Spec PyProof.Rows L2 LamX NdefX
def ItiK (P : Program) (w : World) (l : Addr) (ob : Obj) (es : List Ent) : It :=
  ⟨fun i H => H l = some (.frz ob (kdH P w l es)) ∧ i < es.length, fun i H x H' => ∃ T e, es[i]? = some e ∧ x = .ref T ∧ H T = none ∧ H' = upd H T (.tup [.ref e.2.1, e.2.2]), fun i H => H l = some (.frz ob (kdH P w l es)) ∧ es.length ≤ i⟩
section
variable {X : Cx} {pins : List (Addr × Obj)} {σ : L2.St} {H : Hp} {s : Shared} {l : Addr} {ob : Obj} {es : List Ent}
theorem dl_raw (I : Inv X pins σ H s) (e : H l = some (.frz ob (kdH X.prog X.w l es))) : (l == sysModules) = false ∧ es.length ≤ sizeLine ∧ s.heap.get? l = some ob ∧ ob.ExactDict ∧ ∃ ar ep xs, ob.data = .dict ar ep ∧ KN es xs ∧ ar.toList = xs.map (entryOfKey (nestedKind X.prog X.w)) := by
  obtain ⟨hob, okl⟩ := (show ObjOk X.prog X.w H s.heap l (.frz ob (kdH X.prog X.w l es)) from I.hok l _ e)
  obtain ⟨⟨h1, h2, h3, xs, h4, o, ar, ep, q1, q2, q3, q4⟩, _⟩ := okl
  rw [hob] at q1
  cases q1
  exact ⟨h1, h2, hob, q2, ar, ep, xs, q3, h4, q4⟩
end
theorem turn_itK {P : Program} {w : World} {K : PySem.W.Frag} {l : Addr} {ob : Obj} {es : List Ent} {ar : Array DictEntry} {ep : Nat} {elts : List Expr} {kk : Nat} {tpos : Pos} (it : Addr) (hod : ob.data = .dict ar ep) :
    Turn P w K (.Tuple elts kk tpos) (ItiK P w l ob es) [it] it (fun i h => ∃ ok ov, IsItemIter h it l i ar.size ep ok ov) where
  mem := by simp
  obj := fun i h st b hb => by
    have e : b = it := by simpa using hb
    subst e
    obtain ⟨ok, ov, e⟩ := st
    exact ⟨_, e, fun v z => nomatch z⟩
  keep := fun i h h' st k => let ⟨ok, ov, e⟩ := st; ⟨ok, ov, k it (by simp) _ e⟩
  item := by
    intro X hP hw hK hc i pins s σ H E I hf st hg
    subst hP hw hK
    obtain ⟨hd, hi⟩ := hg
    obtain ⟨h1, h2, hob, q2, ar', ep', xs, q3, h4, q4⟩ := dl_raw I hd
    rw [hod] at q3
    cases q3
    have hsz := ar_size h4 q4
    have hia : i < ar.size := by rw [hsz]; exact hi
    obtain ⟨p, p1, p2, p3⟩ := ar_get h4 q4 hia
    obtain ⟨ok, ov, he⟩ := st
    have hlt : it < s.heap.objs.size := Heap.lt_size he
    refine wpAny_pyNext_items_item_raw he ⟨ob, hob, q2, hod⟩ hia fun h' ho hT hz hk => ?_
    refine ⟨_, rfl, wpAny_letOwnedTupleGo_items (s := { s with heap := h' }) ho fun h'' he' sb => ?_⟩
    have hT2 : h''.get? s.heap.objs.size = some { cls := .type "tuple", data := .seq #[ar[i].key, ar[i].val] } := (sb.2 _ (Nat.ne_of_gt hlt)).trans hT
    have new : ObjOk X.prog X.w (upd H s.heap.objs.size (.tup [.ref p.2.1, p.2.2])) h'' s.heap.objs.size (.tup [.ref p.2.1, p.2.2]) :=
      ⟨by show 2 ≤ sizeLine; decide, [ar[i].key, ar[i].val], .cons p2 (.cons p3 .nil), ⟨_, hT2, rfl, _, rfl⟩⟩
    have I1 : Inv X pins σ (upd H s.heap.objs.size (.tup [.ref p.2.1, p.2.2])) { s with heap := h'' } :=
      I.turnedNew (t' := s.toks) (ch := [it]) (fun b ob hb e => (sb.2 b (by simpa using hb)).trans (hk b ob (by simpa using hb) e)) hf (Nat.le_refl _) new
    refine ⟨.ref s.heap.objs.size, _, I1, rfl, ⟨_, p, p1, rfl, I.hok.fresh (Nat.le_refl _), rfl⟩, ⟨ar[i].key, ar[i].val, he'⟩, fun b hb => ?_⟩
    have e : b = it := by simpa using hb
    rw [e, upd_ne (Nat.ne_of_lt hlt)]
    exact (hf it (by simp)).1
  done := by
    intro X hP hw hK hc i pins s σ H E I hf st hg
    subst hP hw hK
    obtain ⟨hd, hi⟩ := hg
    obtain ⟨f0, f1, f2, f3, f4, f5⟩ := hf it (by simp)
    obtain ⟨h1, h2, hob, q2, ar', ep', xs, q3, h4, q4⟩ := dl_raw I hd
    rw [hod] at q3
    cases q3
    have hsz := ar_size h4 q4
    obtain ⟨ok, ov, he⟩ := st
    exact wpAny_pyNext_items_end_raw (I.ok.hd hc) he ⟨ob, hob, q2, hod⟩ (by rw [hsz]; exact hi) fun h' eb => ⟨rfl, I.turned (t' := s.toks) (fun b ob hb e => eb b ob hb e) f0 f1 f3 f4 f5⟩
  self := fun A i s Q E st h => let ⟨_, _, e⟩ := st; PySem.W.kcp_self e h
theorem krep_get {K : PySem.W.Frag} {S : Hp} : ∀ {kvs : List (Vl × Vl)} {es : List Ent} {i : Nat} {x : Vl × Vl}, krep K S kvs es → kvs[i]? = some x → ∃ e, es[i]? = some e ∧ rep K S x.1 (.ref e.2.1) ∧ rep K S x.2 e.2.2
  | [], _, _, _, _, h => by simp at h
  | (a, b) :: r, _, 0, x, ⟨q, v, t, e1, e2, e3, e4, e5⟩, h => by
    subst e1
    simp at h
    subst h
    exact ⟨_, rfl, e3, e4⟩
  | (a, b) :: r, _, i + 1, x, ⟨q, v, t, e1, e2, e3, e4, e5⟩, h => by
    subst e1
    obtain ⟨e, h1, h2⟩ := krep_get (i := i) e5 (by simpa using h)
    exact ⟨e, by simpa using h1, h2⟩
theorem krep_len {K : PySem.W.Frag} {S : Hp} : ∀ {kvs : List (Vl × Vl)} {es : List Ent}, krep K S kvs es → kvs.length = es.length
  | [], _, h => by have h : _ = [] := h; subst h; rfl
  | (a, b) :: r, _, ⟨q, v, t, e1, e2, e3, e4, e5⟩ => by subst e1; rw [List.length_cons, List.length_cons, krep_len e5]
section
variable {X : Cx} {B : Bs} {Γ : List Sl} {d : Expr} {kvs : List (Vl × Vl)} {elts : List Expr} {kk : Nat} {tpos pos apos : Pos}
theorem gi_itemsL (h : GE X B Γ d (dlV X.prog X.w X.K kvs)) (hbase : attributeBase d "items" X.env (eval d X.env) = eval d X.env := by rfl) (hline : (apos.endLine == pos.line) = true := by rfl) :
    GI X B Γ (.Tuple elts kk tpos) (.Call (.Attribute d "items" apos) [] [] pos) (kvs.map fun x => .tup [x.1, x.2]) := ⟨fun pins s σ H R I ⟨S, en, k⟩ => by
  refine wpAny_Call_method0_late hbase hline (thn (h.run pins s σ H (fun v H1 => ∃ S1, Stp B.T S H S1 H1 ∧ rep X.K S1 (dlV X.prog X.w X.K kvs) v) I ⟨S, en, fun v S1 H1 t1 h1 => ⟨S1, t1, h1⟩⟩) fun u s1 ⟨v, H1, I1, r1, S1, t1, ⟨l, ob, es, e1, e2, e3⟩⟩ => ?_)
  subst e1
  obtain rfl : u = Value.ref l := r1
  have hH := t1.st.sub _ _ e2
  obtain ⟨h1, h2, hob, q2, ar, ep, xs, q3, h4, q4⟩ := dl_raw I1 hH
  have raw : s1.heap.DictRaw l ar ep := ⟨ob, hob, q2, q3⟩
  refine ⟨"dict", "dict.items", PySem.F.plainAttrs_dict, PySem.F.slot_dict_items, PySem.F.type_dict_items, ⟨ob, hob, q2.1⟩, fun a' e => by cases e; exact ⟨ob, hob, q2.2.1⟩, Calls.callWith_builtin rfl (PySem.evalArgs_none ?_)⟩
  refine DT.callItems (es := ar) (ep := ep) h1 raw ?_
  have I2 : Inv X pins σ H1 { s1 with heap := s1.heap.push { cls := .type "dict_items", data := .fields #[.ref l] } } := I1.kept (t' := s1.toks) fun b ob q => Heap.get?_push_of_some _ q
  refine wpAny_pyIter_items_raw (d := l) (es := ar) (ep := ep) ⟨_, Heap.get?_push_size _ rfl, rfl, rfl⟩ ⟨ob, Heap.get?_push_of_some _ hob, q2, q3⟩ (pi_one (tk := s1.toks) I2 _ (turn_itK _ q3) ⟨.none, .none, Heap.get?_push_size _ rfl⟩ (k (ItiK X.prog X.w l ob es) S1 H1 t1 ⟨fun i S2 H2 x st sm hx => ?_, fun S2 H2 st sm => ?_⟩))
  · rw [List.getElem?_map] at hx
    cases hk : kvs[i]? with
    | none => rw [hk] at hx; cases hx
    | some p =>
      rw [hk] at hx
      cases hx
      obtain ⟨e, g1, g2, g3⟩ := krep_get e3 hk
      refine ⟨⟨st.sub _ _ (sm _ _ e2), (List.getElem?_eq_some_iff.mp g1).1⟩, fun v H' ⟨T, e', y1, y2, y3, y4⟩ => ?_⟩
      rw [g1] at y1
      cases y1
      subst y2 y4
      have t2 := st.newV y3 (o := .tup [.ref e.2.1, e.2.2]) (fun ps z => by cases z)
      exact ⟨_, t2, T, [.ref e.2.1, e.2.2], rfl, .inl (.inl upd_same), _, _, rfl, rep_mono (sm.trans t2.s) _ _ g2, _, _, rfl, rep_mono (sm.trans t2.s) _ _ g3, rfl⟩
  · refine ⟨st.sub _ _ (sm _ _ e2), ?_⟩
    rw [List.length_map, krep_len e3]
    exact Nat.le_refl _⟩
end
end G
set_option maxHeartbeats 1000000
/-! K21: expressions that change one owned slot (a pen). -/
namespace G
open PySem PySem.Spec PyProof.Rows L2 LamX NdefX
structure StpW (P : Addr → Prop) (T : List NTab) (S H S' H' : Hp) : Prop where
  st : Sta T S' H'
  s : Same S S'
  h : ∀ a o, ¬ P a → H a = some o → (∀ ps, o ≠ .tbl ps) → H' a = some o
  fr : ∀ a, S a = none → Frm H a → S' a = none
  fm : ∀ a, Frm H a → Frm H' a
  lv : ∀ a, H a ≠ none → H' a ≠ none
section
variable {P : Addr → Prop} {T : List NTab} {S H S1 H1 S2 H2 : Hp}
theorem StpW.of (t : Stp T S H S1 H1) : StpW P T S H S1 H1 := ⟨t.st, t.s, fun a o _ e n => t.h a o e n, t.fr, fun a h => h.ext t.h, t.lv⟩
theorem StpW.trans (a : StpW P T S H S1 H1) (b : StpW P T S1 H1 S2 H2) : StpW P T S H S2 H2 :=
  ⟨b.st, a.s.trans b.s, fun x o n e q => b.h x o n (a.h x o n e q) q, fun x h1 h2 => b.fr x (a.fr x h1 h2) (a.fm x h2), fun x h => b.fm x (a.fm x h), fun x h => b.lv x (a.lv x h)⟩
end
/-- the pen's place -/
abbrev PA0 (ip : Nat) (σ : L2.St) : Addr → Prop := fun a => σ[ip]? = some (some (.ref a))
def tV (K : PySem.W.Frag) (B : Bs) (ip : Nat) (Γ Γ' : List Sl) (y : Vl) : TE := fun σ H Q => ∃ S, Env K B Γ σ S H ∧ ∀ v S' H', Env K B Γ' σ S' H' → StpW (PA0 ip σ) B.T S H S' H' → rep K S' y v → Q v H'
def tVA (K : PySem.W.Frag) (B : Bs) (ip : Nat) (Γ Γ' : List Sl) (ys : List Vl) : TA := fun σ H Q => ∃ S, Env K B Γ σ S H ∧ ∀ vs S' H', Env K B Γ' σ S' H' → StpW (PA0 ip σ) B.T S H S' H' → reps K S' ys vs → Q vs H'
def tVT (K : PySem.W.Frag) (B : Bs) (ip : Nat) (Γ Γ' : List Sl) (b : Bool) : TT := fun σ H Q => ∃ S, Env K B Γ σ S H ∧ ∀ S' H', Env K B Γ' σ S' H' → StpW (PA0 ip σ) B.T S H S' H' → Q b H'
abbrev GV (X : Cx) (B : Bs) (ip : Nat) (Γ : List Sl) (e : Expr) (Γ' : List Sl) (y : Vl) : Prop := PE X e (tV X.K B ip Γ Γ' y)
abbrev GVA (X : Cx) (B : Bs) (ip : Nat) (Γ : List Sl) (es : List Expr) (Γ' : List Sl) (ys : List Vl) : Prop := PA X es (tVA X.K B ip Γ Γ' ys)
abbrev GVT (X : Cx) (B : Bs) (ip : Nat) (Γ : List Sl) (e : Expr) (Γ' : List Sl) (b : Bool) : Prop := PT X e (tVT X.K B ip Γ Γ' b)
section
variable {X : Cx} {B : Bs} {ip : Nat} {Γ Γ1 Γ2 Γ' : List Sl} {x y z : Vl} {a b c e : Expr} {es : List Expr} {xs ys : List Vl} {pos : Pos}
theorem gv_of (h : GE X B Γ e y) : GV X B ip Γ e Γ y := PE_imp h fun σ H Q ⟨S, en, k⟩ => ⟨S, en, fun v S1 H1 t1 h1 => k v S1 H1 (en.step t1) (.of t1) h1⟩
theorem gva_of (h : GA X B Γ es ys) : GVA X B ip Γ es Γ ys := PA_imp h fun σ H Q ⟨S, en, k⟩ => ⟨S, en, fun v S1 H1 t1 h1 => k v S1 H1 (en.step t1) (.of t1) h1⟩
theorem gva_cons (h : GV X B ip Γ e Γ1 x) (h2 : GVA X B ip Γ1 es Γ2 xs) (hs : starEach (e :: es) X.env = (false, eval e X.env) :: starEach es X.env := by rfl) : GVA X B ip Γ (e :: es) Γ2 (x :: xs) :=
  PA_imp (pa_cons h h2 hs) fun σ H Q ⟨S, en, k⟩ => ⟨S, en, fun v S1 H1 e1 t1 h1 => ⟨S1, e1, fun vs S2 H2 e2 t2 h2 => k (v :: vs) S2 H2 e2 (t1.trans t2) ⟨v, vs, rfl, rep_mono t2.s _ _ h1, h2⟩⟩⟩
theorem gva_nil : GVA X B ip Γ [] Γ [] := gva_of ga_nil
theorem gv_is (h : GV X B ip Γ e Γ' x) (q : x = y) : GV X B ip Γ e Γ' y := q ▸ h
theorem twoV {r : R2} {σ : L2.St} {H : Hp} {Q : VK} (hr : RO X B r x y z) : tV X.K B ip Γ Γ2 z σ H Q → tOp r (tV X.K B ip Γ Γ1 x) (tV X.K B ip Γ1 Γ2 y) σ H Q := fun ⟨S, en, k⟩ =>
  ⟨S, en, fun v S1 H1 e1 t1 h1 => ⟨S1, e1, fun u S2 H2 e2 t2 h2 => hr v u S2 H2 Q e2.st (rep_mono t2.s _ _ h1) h2 fun v' S3 H3 t3 h3 => k v' S3 H3 (e2.step t3) ((t1.trans t2).trans (.of t3)) h3⟩⟩
theorem gv_op {op : Operator} {r : R2} (ho : OpR X (binaryOp op) r) (ha : GV X B ip Γ a Γ1 x) (hb : GV X B ip Γ1 b Γ2 y) (hr : RO X B r x y z) : GV X B ip Γ (.BinOp a op b pos) Γ2 z :=
  PE_imp (pe_op ho ha hb) fun σ H Q q => twoV hr q
theorem gv_add {i j : Int} (ha : GV X B ip Γ a Γ1 (.int i)) (hb : GV X B ip Γ1 b Γ2 (.int j)) : GV X B ip Γ (.BinOp a .Add b pos) Γ2 (.int (i + j)) := gv_op op_add ha hb ro_I0
theorem gv_ix {r : R2} (ho : IxR X r) (ha : GV X B ip Γ a Γ1 x) (hb : GV X B ip Γ1 b Γ2 y) (hs : PlainIx b) (hr : RO X B r x y z) : GV X B ip Γ (.Subscript a b pos) Γ2 z :=
  PE_imp (pe_ix ho ha hb hs) fun σ H Q q => twoV hr q
theorem gv_ixL {i : Int} (ha : GV X B ip Γ a Γ1 (.lst xs)) (hb : GV X B ip Γ1 b Γ2 (.int i)) (h : atI xs i = some y) (hs : PlainIx b := by exact fun _ _ => rfl) : GV X B ip Γ (.Subscript a b pos) Γ2 y := gv_ix ix_list ha hb hs (ro_ixL h)
theorem gvt_cmp {op : CmpOp} {r : R2} {d : Bool} (ho : OpR X (compareOp op) r) (ha : GV X B ip Γ a Γ1 x) (hb : GV X B ip Γ1 b Γ2 y) (hr : RO X B r x y (.bl d)) (hm : behindInMarks op b = false) : GVT X B ip Γ (.Compare a [op] [b] pos) Γ2 d :=
  PT_imp (pt_cmpR ho ha hb hm) fun σ H Q ⟨S, en, k⟩ => twoV (Γ1 := Γ1) hr ⟨S, en, fun v S1 H1 e1 t1 h1 => ⟨d, h1, k S1 H1 e1 t1⟩⟩
theorem gvt_eqI {i j : Int} (ha : GV X B ip Γ a Γ1 (.int i)) (hb : GV X B ip Γ1 b Γ2 (.int j)) : GVT X B ip Γ (.Compare a [.Eq] [b] pos) Γ2 (decide (i = j)) := gvt_cmp op_eq ha hb (ro_eq rfl rfl rfl (dec_int i j)) (nomark _)
theorem gv_ifT (h : GVT X B ip Γ c Γ1 true) (h1 : GV X B ip Γ1 a Γ2 x) : GV X B ip Γ (.IfExp c a b pos) Γ2 x := PE_imp (pe_ifExp h h1 (tb := fun _ _ _ => False) pe_never) fun σ H Q ⟨S, en, k⟩ => ⟨S, en, fun S1 H1 e1 t1 => by
  refine iteT ?_; exact ⟨S1, e1, fun v S2 H2 e2 t2 h2 => k v S2 H2 e2 (t1.trans t2) h2⟩⟩
theorem gv_ifF (h : GVT X B ip Γ c Γ1 false) (h1 : GV X B ip Γ1 b Γ2 x) : GV X B ip Γ (.IfExp c a b pos) Γ2 x := PE_imp (pe_ifExp h (ta := fun _ _ _ => False) pe_never h1) fun σ H Q ⟨S, en, k⟩ => ⟨S, en, fun S1 H1 e1 t1 => by
  refine iteF ?_; exact ⟨S1, e1, fun v S2 H2 e2 t2 h2 => k v S2 H2 e2 (t1.trans t2) h2⟩⟩
theorem gv_tup {x1} (h : GVA X B ip Γ es Γ' xs) (hl : xs.length ≤ sizeLine) : GV X B ip Γ (.Tuple es x1 pos) Γ' (.tup xs) :=
  PE_imp (pe_tup h) fun σ H Q ⟨S, en, k⟩ => ⟨S, en, fun vs S1 H1 e1 t1 h1 => ⟨by rw [← reps_length h1]; exact hl, fun p hp => by
    have t2 := e1.st.newV hp (o := .tup vs) (fun ps z => by cases z)
    exact k _ _ _ (e1.step t2) (t1.trans (.of t2)) ⟨p, vs, rfl, SqT.of upd_same, reps_mono t2.s _ _ h1⟩⟩⟩
theorem gv_lst (h : GVA X B ip Γ es Γ' xs) (hl : xs.length ≤ sizeLine) : GV X B ip Γ (.List es pos) Γ' (.lst xs) :=
  PE_imp (pe_lst h) fun σ H Q ⟨S, en, k⟩ => ⟨S, en, fun vs S1 H1 e1 t1 h1 => ⟨by rw [← reps_length h1]; exact hl, fun p hp => by
    have t2 := e1.st.newV hp (o := .lst vs) (fun ps z => by cases z)
    exact k _ _ _ (e1.step t2) (t1.trans (.of t2)) ⟨p, vs, rfl, upd_same, reps_mono t2.s _ _ h1⟩⟩⟩
theorem gv_callT {n : Str} {p : Pos} {id : String} {r : List V → Hp → VK → Prop} (hc : CallR X (.type id) r) (hm : X.mg n = none) (hg : Gl X n) (hv : bootBuiltins n = some (.type id)) (ha : GVA X B ip Γ (e :: es) Γ' xs) (hr : RA X B r xs y) (hn : n ≠ "__name__" := by decide) (hdb : (n == ("__debug__" : Str)) = false := by decide)
    (he : starEach (e :: es) X.env = (false, eval e X.env) :: starEach es X.env := by rfl) (hpl : (backTo pos (starEach es X.env)).any (·.1) = false := by rfl) : GV X B ip Γ (.Call (.Name n p) (e :: es) [] pos) Γ' y :=
  PE_imp (pe_callTy hc hg hm hv ha hn hdb he hpl) fun σ H Q ⟨S, en, k⟩ => ⟨S, en, fun vs S1 H1 e1 t1 h1 => hr vs S1 H1 Q e1.st h1 fun v S2 H2 t2 h2 => k v S2 H2 (e1.step t2) (t1.trans (.of t2)) h2⟩
theorem gv_tupL {p : Pos} (Gm : Gf X.mg) (h : GV X B ip Γ a Γ' (.lst xs)) (hg : Gl X "tuple" := by rfl) (hs : starEach [a] X.env = (false, eval a X.env) :: starEach [] X.env := by rfl) : GV X B ip Γ (.Call (.Name "tuple" p) [a] [] pos) Γ' (.tud xs) :=
  gv_callT call_tuple_ofD Gm.tuple hg bt_tuple (gva_cons h gva_nil hs) ra_tupL (by decide) (by decide) hs rfl
/-! statements -/
theorem gr_retV (h : GV X B ip Γ e Γ' y) : GR X B Γ (.Return (some e) pos) Γ' y :=
  PS_imp (ps_ret h) fun D σ H ⟨S, en, k⟩ => ⟨S, en, fun v S1 H1 e1 t1 h1 => k v σ S1 H1 e1 h1⟩
theorem gs_asgV {i : Nat} {n : Str} {p : Pos} (h : GV X B ip Γ e Γ1 y) (hi : i < Γ1.length) (hnd : X.N.Nodup) (hN : X.N[i]? = some n) (hx : Loc X.env.scope n) (hs : swapsWith e (some (.Name n p)) pos.line X.env = pure false := by rfl) (hf : X.fn n = true ∨ X.env.scope.names.lookup n = some .local := by first | exact .inl rfl | exact .inr rfl | assumption) :
    GS X B Γ (.Assign [.Name n p] e pos) (Γ1.set i (.va y)) :=
  PS_imp (ps_set hnd hN hx h hs hf) fun D σ H ⟨S, en, k⟩ => ⟨S, en, fun v S1 H1 e1 t1 h1 => k _ S1 H1 (e1.setV hi h1)⟩
theorem gs_parV {i j : Nat} {nx ny : Str} {a b : Expr} {px py pt : Pos} {kt k2 pt2} (ha : GVA X B ip Γ [a, b] Γ1 [x, y]) (hc : X.calm = true) (hN : X.N.Nodup) (hi : X.N[i]? = some nx) (hj : X.N[j]? = some ny) (hij : i ≠ j) (hli : i < Γ1.length) (hlj : j < Γ1.length)
    (hx : X.env.scope.names.lookup nx = some .local) (hy : X.env.scope.names.lookup ny = some .local)
    (hw : swappedStores [.Tuple [.Name nx px, .Name ny py] kt pt] (.Tuple [a, b] k2 pt2) X.env = pure (some [nx, ny])) (hs : swapsWithSole [.Tuple [.Name nx px, .Name ny py] kt pt] (.Tuple [a, b] k2 pt2) pos.line X.env = pure false := by rfl) :
    GS X B Γ (.Assign [.Tuple [.Name nx px, .Name ny py] kt pt] (.Tuple [a, b] k2 pt2) pos) ((Γ1.set i (.va x)).set j (.va y)) :=
  PS_imp (ps_par hc hN hi hj hij hx hy ha hw hs) fun D σ H ⟨S, en, k⟩ => ⟨S, en, fun vs S1 H1 e1 t1 ⟨u, r, q1, q2, v, r2, q3, q4, q5⟩ => by
    have q5 : r2 = [] := q5
    subst q5 q3 q1
    refine ⟨u, v, rfl, ?_⟩
    exact k _ S1 H1 ((e1.setV hli q2).setV (by rw [List.length_set]; exact hlj) q4)⟩
theorem gs_unpV {ts : List Expr} {is : List Nat} {kk : Nat} {p : Pos} (h : GV X B ip Γ e Γ1 (.tup xs)) (hg : PGs X ts (gNs is)) (hc : X.calm = true := by rfl) (hl : is.length = xs.length := by rfl) (hi : (is.all fun i => Nat.blt i Γ1.length) = true := by rfl)
    (hn : (assignEach ts X.env).length = xs.length := by rfl) (hst : (assignEach ts X.env).findIdx? (·.1) = none := by rfl)
    (hs : swapsWithSole [.Tuple ts kk p] e pos.line X.env = pure false := by rfl) (hw : swappedStores [.Tuple ts kk p] e X.env = pure none := by rfl) (h1 : (assignEach [.Tuple ts kk p] X.env).map (·.2) = [assign (.Tuple ts kk p) X.env] := by rfl) :
    GS X B Γ (.Assign [.Tuple ts kk p] e pos) (setVs Γ1 is xs) :=
  PS_imp (ps_asg h (pg_tup hc hg hn hst) hs hw h1) fun D σ H ⟨S, en, k⟩ => ⟨S, en, fun v S1 H1 e1 t1 ⟨a, vs, q1, q2, q3⟩ =>
    ⟨a, vs, q1, Same.sqT e1.st.sub q2, (reps_length q3).symm, gNs_ok e1 q3 hl (allLt hi) fun σ' e' => k σ' S1 H1 e'⟩⟩
end
end G
set_option maxHeartbeats 1000000
/-! K22: pens: functions that change one, the calls; new lists that are returned. -/
namespace G
open PySem PySem.Spec PyProof.Rows L2 LamX NdefX
structure Pen where
  a : Int
  b : Int
  c : Int
def Pen.vs (p : Pen) : List V := [.int p.a, .int p.b, .int p.c]
abbrev penW (K : PySem.W.Frag) (p : Pen) : Own := owL K [.int p.a, .int p.b, .int p.c]
theorem pen_r {K : PySem.W.Frag} {p : Pen} {l : Addr} {ho : HO} {S : Hp} (h : (penW K p).r l ho S) : ho = .lst p.vs := by
  obtain ⟨vs, e, _, r⟩ := h
  obtain ⟨v1, r1, q1, q2, v2, r2, q3, q4, v3, r3, q5, q6, q7⟩ := r
  have q2 : v1 = .int p.a := q2
  have q4 : v2 = .int p.b := q4
  have q6 : v3 = .int p.c := q6
  have q7 : r3 = [] := q7
  subst q7 q6 q5 q4 q3 q2 q1
  exact e
theorem pen_w {K : PySem.W.Frag} (p : Pen) (l : Addr) (S : Hp) : (penW K p).r l (.lst p.vs) S := ⟨_, rfl, Nat.le_of_ble_eq_true rfl, _, _, rfl, rfl, _, _, rfl, rfl, _, _, rfl, rfl, rfl⟩
/-- a function whose first argument is a pen -/
def spM (K : PySem.W.Frag) (T : List NTab) (pre : Pen → List Vl → Pen → Vl → Prop) : Sp := fun vs H Q _ => ∃ (S : Hp) (xs : List Vl) (y : Vl) (p p' : Pen) (l : Addr) (us : List V), Sta T S H ∧ vs = .ref l :: us ∧ reps K S xs us ∧ S l = none ∧ H l = some (.lst p.vs) ∧ pre p xs p' y ∧
  ∀ v S' H', Stp T S (upd H l (.lst p'.vs)) S' H' → rep K S' y v → Q v H'
section
variable {P : Program} {w : World} {K : PySem.W.Frag} {mg : Str → Option Value} {base : Heap} {T : List NTab} {x qual : Str} {st : Stmt} {f : Addr} {fd : FuncData} {N : List Str} {p0 : Str} {ps : List Str} {k : Nat} {pre : Pen → List Vl → Pen → Vl → Prop}
theorem env_pen {B : Bs} {Γ' : List Sl} {σ' : L2.St} {S S' H H' : Hp} {l : Addr} {p' : Pen} (en : Env K B Γ' σ' S' H') (eB : B = ⟨T, H, S, [l]⟩) (hp : Γ'[0]? = some (.ow (some l) (penW K p'))) (hH : ∃ o, H l = some o) : Stp T S (upd H l (.lst p'.vs)) S' H' := by
  subst eB
  obtain ⟨l', ho, h1, h2, h3, h4, h5, h6⟩ := en.ow 0 _ _ hp
  rcases h2 with h2 | h2
  · cases h2
  cases h2
  have e := pen_r h5
  subst e
  refine ⟨en.st, en.bs, fun b o e n => ?_, fun a h7 h8 => ?_, fun a h7 => ?_⟩
  · by_cases z : b = l
    · rw [z, upd_same] at e; rw [z, h4, Option.some.inj e]
    · rw [upd_ne z] at e; exact en.fr b o e (by simp; exact z) n
  · by_cases z : a = l
    · rw [z]; exact h3
    · obtain ⟨o, o1, o2⟩ := h8
      rw [upd_ne z] at o1
      exact (en.nw a h7 ⟨o, o1, o2⟩).1
  · by_cases z : a = l
    · rw [z, h4]; simp
    · rw [upd_ne z] at h7; exact en.lv a h7
theorem Env.more {Γ : List Sl} {σ : L2.St} {H0 S0 S H : Hp} {L : List Addr} (e : Env K ⟨T, H0, S0, []⟩ Γ σ S H) : Env K ⟨T, H0, S0, L⟩ Γ σ S H :=
  ⟨e.st, e.bs, fun a o h1 _ h3 => e.fr a o h1 (by simp) h3, e.nw, e.lv, e.len, e.va, e.ow, e.dis⟩
theorem okM (F : Fun K x qual st f fd) (Sc : FnScope N (p0 :: ps) (defScope st)) (len : ∀ p xs p' y, pre p xs p' y → xs.length = ps.length)
    (body : ∀ (cdv : Value) (A : Around) (outer : List PySem.Env) (s : Shared) (H : Hp) (E : XK) (B : Bs) (l : Addr) (p p' : Pen) (xs : List Vl) (y : Vl), B.T = T → (∀ l', some l = some l' → l' ∈ B.L0) → Room k (A.deeper (envOfC qual (defScope st) s.heap.objs.size f cdv)) → pre p xs p' y →
      ∃ Γ', Γ'[0]? = some (.ow (some l) (penW K p')) ∧ GRs (bX P w K mg base N qual st f cdv A outer s H E) B ((Gam0 N (anyV :: xs)).set 0 (.ow (some l) (penW K p))) (defBody st) Γ' y) :
    FnOk P w K mg base CX0 (k + 1) f fd (p0 :: ps) (spM K T pre) := by
  refine F.ok Sc (fun vs H Q E ⟨S, xs, y, p, p', l, us, _, e, r, _, _, hp, _⟩ => by rw [e, List.length_cons, List.length_cons, ← reps_length r, len p xs p' y hp]) fun cdv A outer s H vs Q E hr h => ?_
  obtain ⟨S, xs, y, p, p', l, us, st0, e, r, hS, hH, hp, q⟩ := h
  subst e
  obtain ⟨Γ', hg, hb⟩ := body cdv A outer s H E ⟨T, H, S, [l]⟩ l p p' xs y rfl (fun l' e => by cases e; simp) hr hp
  have rr : reps K S (anyV :: xs) (.ref l :: us) := ⟨_, _, rfl, True.intro, r⟩
  have hno : ∀ (j : Nat) (f : Option Addr) (u : Own), (Gam0 N (anyV :: xs))[j]? ≠ some (.ow f u) := fun j f u z => by
    unfold Gam0 at z
    by_cases h : j < (anyV :: xs).length
    · rw [List.getElem?_append_left (by simpa using h), List.getElem?_map] at z
      cases e : (anyV :: xs)[j]? <;> rw [e] at z <;> cases z
    · rw [List.getElem?_append_right (by simpa using h), List.getElem?_replicate] at z
      split at z <;> cases z
  have hσ : (L2.start N (.ref l :: us))[0]? = some (some (.ref l)) := rfl
  have hlt : 0 < (Gam0 N (anyV :: xs)).length := by
    unfold Gam0
    rw [List.length_append, List.length_map, List.length_cons]; omega
  refine ⟨_, hb, S, ((env0 st0 rr).seeO hno hlt hσ hS hH (pen_w p l S)).more, fun v σ' S' H' en rv => ?_⟩
  exact q v S' H' (env_pen en rfl hg ⟨_, hH⟩) rv
end
section
variable {X : Cx} {B : Bs} {ip : Nat} {Γ Γ1 Γ' : List Sl} {x y z : Vl} {a b c e : Expr} {es : List Expr} {xs ys : List Vl} {pos p pb : Pos} {k j : Nat} {name nb : Str} {ps : List Str} {pre : Pen → List Vl → Pen → Vl → Prop} {fo : Option Addr} {pn pn' : Pen}
/-- a pen is changed by a call -/
theorem StpW.pen {T : List NTab} {σ : L2.St} {S H S' H' : Hp} {l : Addr} {ho o' : HO} (h1 : σ[ip]? = some (some (.ref l))) (hS : S l = none) (hH : H l = some ho) (f1 : Frm (upd H l o') l) (t : Stp T S (upd H l o') S' H') : StpW (PA0 ip σ) T S H S' H' := by
  have ne : ∀ {a : Addr}, ¬ PA0 ip σ a → a ≠ l := fun {a} n z => n (by show σ[ip]? = _; rw [h1, z])
  have fm : ∀ {a}, Frm H a → Frm (upd H l o') a := fun {a} h => by
    by_cases z : a = l
    · rw [z]; exact f1
    · obtain ⟨o, q1, q2⟩ := h
      exact ⟨o, by rw [upd_ne z]; exact q1, q2⟩
  exact ⟨t.st, t.s, fun a o n e q => t.h a o (by rw [upd_ne (ne n)]; exact e) q, fun a q1 q2 => t.fr a q1 (fm q2), fun a q => (fm q).ext t.h, fun a q => t.lv a (upd_lv q)⟩
theorem frm_lst {H : Hp} {l : Addr} {vs : List V} (h : H l = some (.lst vs)) : Frm H l := ⟨_, h, (fun ps z => by cases z), (fun c q z => by unfold CodeO at z; cases z)⟩
theorem gv_callM (Gf : FnG X.prog X.w X.K X.mg X.base k name ps (spM X.K B.T pre)) (hr : Room j X.A) (hk : k ≤ j) (hg : Gl X name) (ha : GVA X B ip Γ es Γ1 xs) (hi : Γ1[ip]? = some (.ow fo (penW X.K pn))) (hi0 : ∃ f0 o0, Γ[ip]? = some (.ow f0 o0)) (hp : pre pn xs pn' y) (hw : ∀ l, fo = some l → l ∈ B.L0)
    (hN : X.N[ip]? = some nb := by rfl) (hv : Vis X.env.scope nb := by first | exact Or.inl rfl | exact Or.inr (Or.inl rfl) | exact Or.inr (Or.inr rfl)) (hdb : (name == ("__debug__" : Str)) = false := by decide) (hd : (nb == ("__debug__" : Str)) = false := by decide) (hcd : (nb == ("__classdict__" : Str)) = false := by decide)
    (hs0 : starEach (.Name nb pb :: es) X.env = (false, eval (.Name nb pb) X.env) :: starEach es X.env := by rfl) (hpl : (backTo pos (starEach es X.env)).any (·.1) = false := by rfl) : GV X B ip Γ (.Call (.Name name p) (.Name nb pb :: es) [] pos) (Γ1.set ip (.ow fo (penW X.K pn'))) y := by
  obtain ⟨f, fd, F, hm, hkp, hb⟩ := Gf
  refine PE_imp (pe_call F (hr.mono hk) hg hm hkp hb .nil (pass0 (X := X)) (pa_cons (pe_var hN hv hd hcd) ha hs0) hdb hs0 hpl) fun σ H Q ⟨S, en, q⟩ => ?_
  obtain ⟨f0, o0, hi0⟩ := hi0
  obtain ⟨l0, ho0, o1, _⟩ := en.ow ip _ _ hi0
  refine ⟨.ref l0, o1, S, en, fun vs S1 H1 e1 t1 h1 => ?_⟩
  obtain ⟨l, ho, u1, u2, u3, u4, u5, u6⟩ := e1.ow ip _ _ hi
  rw [o1] at u1
  cases u1
  have eh := pen_r u5
  subst eh
  show spM X.K B.T pre ((.ref l0 :: vs) ++ []) H1 Q E0
  rw [List.append_nil]
  refine ⟨S1, xs, y, pn, pn', l0, vs, e1.st, rfl, h1, u3, u4, hp, fun v S2 H2 t2 h2 => ?_⟩
  exact q v S2 H2 ((e1.write hi o1 (pen_w pn' l0 S1) hw).step t2) (t1.trans (StpW.pen o1 u3 u4 (frm_lst upd_same) t2)) h2
/-! ### new lists returned -/
/-- a function that returns a new thing of one's own -/
def spO (K : PySem.W.Frag) (T : List NTab) (pre : List Vl → Own → Prop) : Sp := fun vs H Q _ => ∃ (S : Hp) (xs : List Vl) (o : Own), Sta T S H ∧ reps K S xs vs ∧ pre xs o ∧ ∀ l ho S' H', Stp T S H S' H' → H l = none → S' l = none → H' l = some ho → o.r l ho S' → Q (.ref l) H'
theorem go_callO {k j : Nat} {pre : List Vl → Own → Prop} {o : Own} (Gf : FnG X.prog X.w X.K X.mg X.base k name ps (spO X.K B.T pre)) (hr : Room j X.A) (hk : k ≤ j) (hg : Gl X name) (ha : GA X B Γ (e :: es) xs) (hp : pre xs o) (hdb : (name == ("__debug__" : Str)) = false := by decide)
    (he : starEach (e :: es) X.env = (false, eval e X.env) :: starEach es X.env := by rfl) (hpl : (backTo pos (starEach es X.env)).any (·.1) = false := by rfl) : GO X B Γ (.Call (.Name name p) (e :: es) [] pos) o := by
  obtain ⟨f, fd, F, hm, hkp, hb⟩ := Gf
  refine PE_imp (pe_call F (hr.mono hk) hg hm hkp hb .nil (pass0 (X := X)) ha hdb he hpl) fun σ H Q ⟨S, en, q⟩ => ⟨S, en, fun vs S1 H1 t1 h1 => ?_⟩
  show spO X.K B.T pre (vs ++ []) H1 Q E0
  rw [List.append_nil]
  exact ⟨S1, xs, o, t1.st, h1, hp, fun l ho S2 H2 t2 n1 n2 h2 h3 => q l ho S2 H2 (t1.trans t2) (stp_none t1 n1) n2 h2 h3⟩
end
section
variable {P : Program} {w : World} {K : PySem.W.Frag} {mg : Str → Option Value} {base : Heap} {T : List NTab} {x qual : Str} {st : Stmt} {f : Addr} {fd : FuncData} {N ps : List Str} {k : Nat} {pre : List Vl → Own → Prop}
/-- .. whose body is one return -/
theorem okO {e : Expr} {pos : Pos} (F : Fun K x qual st f fd) (Sc : FnScope N ps (defScope st)) (hbo : defBody st = [.Return (some e) pos]) (len : ∀ xs o, pre xs o → xs.length = ps.length)
    (body : ∀ (cdv : Value) (A : Around) (outer : List PySem.Env) (s : Shared) (H : Hp) (E : XK) (B : Bs) (xs : List Vl) (o : Own), B.T = T → Room k (A.deeper (envOfC qual (defScope st) s.heap.objs.size f cdv)) → pre xs o →
      GO (bX P w K mg base N qual st f cdv A outer s H E) B (Gam0 N xs) e o) :
    FnOk P w K mg base CX0 (k + 1) f fd ps (spO K T pre) := by
  refine F.ok Sc (fun vs H Q E ⟨S, xs, o, _, r, hp, _⟩ => by rw [← reps_length r]; exact len xs o hp) fun cdv A outer s H vs Q E hr h => ?_
  obtain ⟨S, xs, o, st0, r, hp, q⟩ := h
  have hb := body cdv A outer s H E ⟨T, H, S, []⟩ xs o rfl hr hp
  rw [hbo]
  exact ⟨_, pss_cons (ps_ret hb) (pss_never (sts := [])), S, env0 st0 r, fun l ho S' H' t n1 n2 h1 h2 => q l ho S' H' t n1 n2 h1 h2⟩
end
end G
set_option maxHeartbeats 1000000
/-! K23: stores into a list; append, pop, slices with effects. -/
namespace G
open PySem PySem.Spec PyProof.Rows L2 LamX NdefX
theorem reps_set {K : PySem.W.Frag} {S : Hp} : ∀ {xs : List Vl} {vs : List V} {y : Vl} {v : V} (j : Nat), reps K S xs vs → rep K S y v → reps K S (xs.set j y) (vs.set j v)
  | [], _, _, _, _, h, _ => by have h : _ = [] := h; subst h; exact rfl
  | x :: xs, _, _, _, 0, ⟨v, t, e1, e2, e3⟩, h => by subst e1; exact ⟨_, _, rfl, h, e3⟩
  | x :: xs, _, _, _, j + 1, ⟨v, t, e1, e2, e3⟩, h => by subst e1; exact ⟨_, _, rfl, e2, reps_set j e3 h⟩
theorem reps_erase {K : PySem.W.Frag} {S : Hp} : ∀ {xs : List Vl} {vs : List V} (j : Nat), reps K S xs vs → reps K S (xs.eraseIdx j) (vs.eraseIdx j)
  | [], _, _, h => by have h : _ = [] := h; subst h; exact rfl
  | x :: xs, _, 0, ⟨v, t, e1, e2, e3⟩ => by subst e1; exact e3
  | x :: xs, _, j + 1, ⟨v, t, e1, e2, e3⟩ => by subst e1; exact ⟨_, _, rfl, e2, reps_erase j e3⟩
section
variable {X : Cx} {B : Bs} {ip : Nat} {Γ Γ1 Γ2 Γ' : List Sl} {x y z : Vl} {a b c e : Expr} {es : List Expr} {xs ys zs : List Vl} {pos : Pos}
/-- xs[k] = v, xs a list of one's own -/
theorem gs_setL {i : Nat} {f : Option Addr} {n : Str} {np p' : Pos} {k : Int} {j : Nat} (hi : Γ[i]? = some (.ow f (owL X.K xs))) (hN : X.N[i]? = some n) (hv : Vis X.env.scope n) (hval : GE X B Γ b y) (hkey : GE X B Γ a (.int k)) (hj : ixN xs.length k = some j) (hw : ∀ l, f = some l → l ∈ B.L0)
    (hs : swapsWith b (some (.Subscript (.Name n np) a p')) pos.line X.env = pure false := by rfl) (hd : (n == ("__debug__" : Str)) = false := by decide) (hcd : (n == ("__classdict__" : Str)) = false := by decide) :
    GS X B Γ (.Assign [.Subscript (.Name n np) a p'] b pos) (Γ.set i (.ow f (owL X.K (xs.set j y)))) := ⟨fun pins s σ H D I ⟨S, en, k⟩ => by
  refine wpAny_Assign_Subscript (thn (hval.run pins s σ H (fun v H1 => ∃ S1, Stp B.T S H S1 H1 ∧ rep X.K S1 y v) I ⟨S, en, fun v S1 H1 t1 h1 => ⟨S1, t1, h1⟩⟩) fun r s1 ⟨v, H1, I1, rv, S1, t1, h1⟩ => ?_) hs
  have en1 := en.step t1
  obtain ⟨l, ho, o1, o2, o3, o4, ⟨vs, e1, e0, e2⟩, o6⟩ := en1.ow i f _ hi
  subst e1
  refine thn ((pe_var hN hv hd hcd).run pins s1 σ H1 (fun v H2 => v = .ref l ∧ H2 = H1) I1 ⟨.ref l, o1, rfl, rfl⟩) fun u s2 ⟨xv, H2, I2, rx, ex, eH⟩ => ?_
  subst ex eH
  refine thn (hkey.run pins s2 σ H2 (fun v H3 => ∃ S3, Stp B.T S1 H2 S3 H3 ∧ v = V.int _) I2 ⟨S1, en1, fun v S3 H3 t3 h3 => ⟨S3, t3, h3⟩⟩) fun iv s3 ⟨xk, H3, I3, ry, S3, t3, h3⟩ => ?_
  subst h3
  have hl3 : H3 l = some (.lst vs) := t3.h l _ o4 fun ps z => by cases z
  refine wpAny_mono (set_list pins s3 σ H3 (.ref l) (.int _) v u iv r (fun H4 => H4 = upd H3 l (.lst (vs.set j v))) I3 rx ry rv ⟨l, vs, _, j, rfl, rfl, hl3, by rw [← reps_length e2]; exact hj, rfl⟩) (fun _ s4 ⟨H4, I4, e4⟩ => ?_) fun _ _ q => q
  subst e4
  exact ⟨σ, _, I4, k σ S3 _ ((en1.step t3).write hi o1 ⟨_, rfl, by rw [List.length_set]; exact e0, reps_set j (reps_mono t3.s _ _ e2) (rep_mono t3.s _ _ h1)⟩ hw)⟩⟩
/-- append of what changes a pen -/
theorem gs_appV {i : Nat} {f f0 : Option Addr} {n : Str} {np apos p2 : Pos} (hi : Γ1[i]? = some (.ow f (owL X.K xs))) (hi0 : Γ[i]? = some (.ow f0 (owL X.K ys))) (hN : X.N[i]? = some n) (hv : Vis X.env.scope n) (h : GV X B ip Γ e Γ1 x) (hz : xs.length < sizeLine) (hw : ∀ l, f = some l → l ∈ B.L0)
    (hbase : attributeBase (.Name n np) "append" X.env (eval (.Name n np) X.env) = eval (.Name n np) X.env := by rfl)
    (hfew : ((backTo p2 (starEach [e] X.env)).all (fun x => !x.1) && (backToKw p2 (keywordEach [] X.env)).all (fun x => x.1.isSome)
      && decide (([e] : List Expr).length + ([] : List Keyword).length + (if ([] : List Keyword).isEmpty then 0 else 1) < 30)) = true := by rfl)
    (hline : (apos.endLine == p2.line) = true := by rfl) (hs : starEach [e] X.env = (false, eval e X.env) :: starEach [] X.env := by rfl) (hsw : swapsWith (.Call (.Attribute (.Name n np) "append" apos) [e] [] p2) none pos.line X.env = pure false := by rfl)
    (hd : (n == ("__debug__" : Str)) = false := by decide) (hcd : (n == ("__classdict__" : Str)) = false := by decide) :
    GS X B Γ (.Expr (.Call (.Attribute (.Name n np) "append" apos) [e] [] p2) pos) (Γ1.set i (.ow f (owL X.K (xs ++ [x])))) :=
  PS_imp (ps_expr (pe_bm PySem.F.plainAttrs_list PySem.F.slot_list_append PySem.F.type_list_append mt_append (pe_var hN hv hd hcd) (gva_cons h gva_nil hs) hbase hfew hline hs rfl) hsw) fun D σ H ⟨S, en, k⟩ => by
    obtain ⟨l0, ho0, g1, _, _, g4, ⟨vs0, g5, _, _⟩, _⟩ := en.ow i _ _ hi0
    subst g5
    refine ⟨.ref l0, g1, .inl ⟨rfl, vs0, SqL.of g4⟩, S, en, fun us S1 H1 e1 t1 ⟨w, r, q1, q2, q3⟩ => ?_⟩
    have q3 : r = [] := q3
    subst q3
    obtain ⟨l, ho, h1, h2, h3, h4, ⟨vs, h5, hvl, h6⟩, h7⟩ := e1.ow i f _ hi
    subst h5
    rw [g1] at h1
    cases h1
    refine ⟨l0, vs, w, rfl, q1, h4, by rw [← reps_length h6]; exact hz, ?_⟩
    exact k σ S1 _ (e1.write hi g1 ⟨_, rfl, by rw [List.length_append]; have := reps_length h6; simp; omega, reps_snoc h6 q2⟩ hw)
/-- found.append(rest.pop(k)), k of what changes a pen -/
theorem gs_appPop {i r : Nat} {n m : Str} {np mp apos apos2 p2 p3 : Pos} {q : Int} (hi : Γ1[i]? = some (.ow none (owL X.K xs))) (hi0 : Γ[i]? = some (.ow none (owL X.K xs))) (hr : Γ1[r]? = some (.ow none (owL X.K zs))) (hr0 : Γ[r]? = some (.ow none (owL X.K zs))) (hir : i ≠ r)
    (hN : X.N[i]? = some n) (hv : Vis X.env.scope n) (hM : X.N[r]? = some m) (hvm : Vis X.env.scope m) (h : GV X B ip Γ e Γ1 (.int q)) (hq0 : 0 ≤ q) (hq : q.toNat < zs.length) (hzs : zs.length ≤ 1000000) (hy : zs[q.toNat]? = some y) (hz : xs.length < sizeLine)
    (hbase : attributeBase (.Name n np) "append" X.env (eval (.Name n np) X.env) = eval (.Name n np) X.env := by rfl) (hbase2 : attributeBase (.Name m mp) "pop" X.env (eval (.Name m mp) X.env) = eval (.Name m mp) X.env := by rfl)
    (hfew : ((backTo p2 (starEach [.Call (.Attribute (.Name m mp) "pop" apos2) [e] [] p3] X.env)).all (fun x => !x.1) && (backToKw p2 (keywordEach [] X.env)).all (fun x => x.1.isSome)
      && decide (([.Call (.Attribute (.Name m mp) "pop" apos2) [e] [] p3] : List Expr).length + ([] : List Keyword).length + (if ([] : List Keyword).isEmpty then 0 else 1) < 30)) = true := by rfl)
    (hfew2 : ((backTo p3 (starEach [e] X.env)).all (fun x => !x.1) && (backToKw p3 (keywordEach [] X.env)).all (fun x => x.1.isSome)
      && decide (([e] : List Expr).length + ([] : List Keyword).length + (if ([] : List Keyword).isEmpty then 0 else 1) < 30)) = true := by rfl)
    (hline : (apos.endLine == p2.line) = true := by rfl) (hline2 : (apos2.endLine == p3.line) = true := by rfl) (hs : starEach [.Call (.Attribute (.Name m mp) "pop" apos2) [e] [] p3] X.env = (false, eval (.Call (.Attribute (.Name m mp) "pop" apos2) [e] [] p3) X.env) :: starEach [] X.env := by rfl) (hs2 : starEach [e] X.env = (false, eval e X.env) :: starEach [] X.env := by rfl)
    (hsw : swapsWith (.Call (.Attribute (.Name n np) "append" apos) [.Call (.Attribute (.Name m mp) "pop" apos2) [e] [] p3] [] p2) none pos.line X.env = pure false := by rfl)
    (hd : (n == ("__debug__" : Str)) = false := by decide) (hcd : (n == ("__classdict__" : Str)) = false := by decide) (hd2 : (m == ("__debug__" : Str)) = false := by decide) (hcd2 : (m == ("__classdict__" : Str)) = false := by decide) :
    GS X B Γ (.Expr (.Call (.Attribute (.Name n np) "append" apos) [.Call (.Attribute (.Name m mp) "pop" apos2) [e] [] p3] [] p2) pos) ((Γ1.set r (.ow none (owL X.K (zs.eraseIdx q.toNat)))).set i (.ow none (owL X.K (xs ++ [y])))) :=
  PS_imp (ps_expr (pe_bm PySem.F.plainAttrs_list PySem.F.slot_list_append PySem.F.type_list_append mt_append (pe_var hN hv hd hcd)
    (pa_cons (pe_bm PySem.F.plainAttrs_list PySem.F.slot_list_pop PySem.F.type_list_pop mt_popAt (pe_var hM hvm hd2 hcd2) (gva_cons h gva_nil hs2) hbase2 hfew2 hline2 hs2 rfl) pa_nil hs) hbase hfew hline hs rfl) hsw) fun D σ H ⟨S, en, k⟩ => by
    obtain ⟨l0, ho0, g1, _, _, g4, ⟨vs0, g5, _, _⟩, _⟩ := en.ow i _ _ hi0
    subst g5
    refine ⟨.ref l0, g1, .inl ⟨rfl, vs0, SqL.of g4⟩, ?_⟩
    obtain ⟨r0, hr0', k1, _, _, k4, ⟨ws0, k5, _, _⟩, _⟩ := en.ow r _ _ hr0
    subst k5
    refine ⟨.ref r0, k1, .inl ⟨rfl, ws0, SqL.of k4⟩, S, en, fun us S1 H1 e1 t1 ⟨w, rr, q1, q2, q3⟩ => ?_⟩
    have q3 : rr = [] := q3
    have q2 : w = .int q := q2
    subst q3 q2 q1
    obtain ⟨l1, ho, h1, h2, h3, h4, ⟨ws, h5, hvl, h6⟩, h7⟩ := e1.ow r _ _ hr
    subst h5
    rw [k1] at h1
    cases h1
    have hlw := reps_length h6
    obtain ⟨u, hu, ru⟩ := reps_get h6 hy
    have en2 := e1.write (o' := owL X.K (zs.eraseIdx q.toNat)) hr k1 ⟨_, rfl, by have := List.length_eraseIdx_le ws q.toNat; omega, reps_erase q.toNat h6⟩ (fun l z => by cases z)
    refine ⟨r0, ws, q, q.toNat, u, rfl, rfl, h4, by omega, by omega, seqIndex_of hq0 (by omega), hu, ?_⟩
    have hi2 : (Γ1.set r (.ow none (owL X.K (zs.eraseIdx q.toNat))))[i]? = some (.ow none (owL X.K xs)) := by rw [List.getElem?_set_ne (Ne.symm hir)]; exact hi
    obtain ⟨l2, ho2, j1, j2, j3, j4, ⟨us2, j5, j8, j6⟩, j7⟩ := en2.ow i _ _ hi2
    subst j5
    rw [g1] at j1
    cases j1
    refine ⟨l0, us2, u, rfl, rfl, j4, by rw [← reps_length j6]; exact hz, ?_⟩
    exact k σ S1 _ (en2.write hi2 g1 ⟨_, rfl, by rw [List.length_append]; have := reps_length j6; simp; omega, reps_snoc j6 ru⟩ (fun l z => by cases z))
/-! slices -/
def tPV (K : PySem.W.Frag) (B : Bs) (ip : Nat) (Γ Γ' : List Sl) (o : Option Int) : TO := fun σ H Q => ∃ S, Env K B Γ σ S H ∧ ∀ S' H', Env K B Γ' σ S' H' → StpW (PA0 ip σ) B.T S H S' H' → Q o H'
theorem gpv_some {i : Int} (h : GV X B ip Γ e Γ' (.int i)) : PO X (some e) (tPV X.K B ip Γ Γ' (some i)) := PO_imp (po_some h) fun σ H Q ⟨S, en, k⟩ => ⟨S, en, fun v S1 H1 e1 t1 h1 => ⟨i, h1, k S1 H1 e1 t1⟩⟩
theorem gpv_none : PO X none (tPV X.K B ip Γ Γ none) := PO_imp po_none fun σ H Q ⟨S, en, k⟩ => k S H en (.of en.st.refl)
theorem gv_slL {lo hi : Option Expr} {ol oh : Option Int} {p2 : Pos} {Γ3 : List Sl} (h : GV X B ip Γ e Γ1 (.lst xs)) (hz : xs.length ≤ sizeLine) (hl : PO X lo (tPV X.K B ip Γ1 Γ2 ol)) (hh : PO X hi (tPV X.K B ip Γ2 Γ3 oh)) : GV X B ip Γ (.Subscript e (.Slice lo hi none p2) pos) Γ3 (.lst (cutX xs ol oh)) :=
  PE_imp (pe_slice sl_list h hl hh) fun σ H Q ⟨S, en, k⟩ => ⟨S, en, fun v S1 H1 e1 t1 ⟨p, vs, q1, q2, q3⟩ => ⟨S1, e1, fun S2 H2 e2 t2 => ⟨S2, e2, fun S3 H3 e3 t3 => by
    have tt := t2.trans t3
    refine ⟨p, vs, q1, SqL.of (tt.st.sub _ _ (tt.s _ _ q2)), fun q hq => ?_⟩
    have t4 := tt.st.newV hq (o := .lst (cutV vs ol oh)) (fun ps z => by cases z)
    exact k _ _ _ (e3.step t4) ((t1.trans tt).trans (.of t4)) ⟨q, _, rfl, upd_same, reps_mono (tt.s.trans t4.s) _ _ (cutX_reps q3)⟩⟩⟩⟩
end
end G
set_option maxHeartbeats 1000000
/-! K24: a comprehension whose items change a pen. -/
namespace G
open PySem PySem.Spec PyProof.Rows L2 LamX NdefX
section
variable {K : PySem.W.Frag} {B : Bs} {Γ Γ2 : List Sl} {σ σ2 : L2.St} {S H S0 H0 : Hp} {D : Addr} {P : Addr → Prop} {T : List NTab} {acc acc2 : List V}
theorem Env.retreat (e : Env K B Γ2 σ2 S H) (hl : Γ.length = σ.length) (h : ∀ (j : Nat) (s : Sl), Γ[j]? = some s → s ≠ .no → Γ2[j]? = some s ∧ σ2[j]? = σ[j]?) : Env K B Γ σ S H where
  st := e.st
  bs := e.bs
  fr := e.fr
  nw := e.nw
  lv := e.lv
  len := hl
  va := fun i x hi => by
    obtain ⟨h1, h2⟩ := h i _ hi (fun z => by cases z)
    obtain ⟨v, q1, q2⟩ := e.va i x h1
    exact ⟨v, by rw [← h2]; exact q1, q2⟩
  ow := fun i f o hi => by
    obtain ⟨h1, h2⟩ := h i _ hi (fun z => by cases z)
    obtain ⟨l, ho, q1, q2⟩ := e.ow i f o h1
    exact ⟨l, ho, by rw [← h2]; exact q1, q2⟩
  dis := fun i j f g o o' l h1 h2 h3 h4 => by
    obtain ⟨a1, a2⟩ := h i _ h1 (fun z => by cases z)
    obtain ⟨b1, b2⟩ := h j _ h2 (fun z => by cases z)
    exact e.dis i j f g o o' l a1 b1 (by rw [a2]; exact h3) (by rw [b2]; exact h4)
theorem sta_grow (st : Sta T S H) (hS : S D = none) (hD : H D = some (.lst acc)) : Sta T S (upd H D (.lst acc2)) := by
  refine ⟨fun c u e => ?_, fun p hp => ?_, st.nt⟩
  · rw [upd_ne (ne_of_none e hS)]; exact st.sub _ _ e
  · obtain ⟨ps, t1, t2, t3⟩ := st.tb p hp
    refine ⟨ps, ?_, t2, fun pos cv hc => ?_⟩
    · rw [upd_ne]
      · exact t1
      · intro z; rw [z, hD] at t1; cases t1
    · obtain ⟨c, e1, e2⟩ := t3 pos cv hc
      refine ⟨c, e1, ?_⟩
      rw [upd_ne]
      · exact e2
      · intro z; rw [z, hD] at e2; cases e2
theorem frm_grow {a : Addr} (h : Frm H a) : Frm (upd H D (.lst acc2)) a := by
  by_cases z : a = D
  · rw [z]; exact frm_lst upd_same
  · obtain ⟨o, h1, h2⟩ := h
    exact ⟨o, by rw [upd_ne z]; exact h1, h2⟩
theorem Env.growD (e : Env K B Γ σ S H) (hS : S D = none) (hD : H D = some (.lst acc)) (h0 : B.H0 D = none) (hn : ∀ (j : Nat) (f : Option Addr) (u : Own), Γ[j]? = some (.ow f u) → σ[j]? ≠ some (some (.ref D))) : Env K B Γ σ S (upd H D (.lst acc2)) where
  st := sta_grow e.st hS hD
  bs := e.bs
  fr := fun a o h1 h2 h3 => by
    rw [upd_ne (ne_of_none h1 h0)]; exact e.fr a o h1 h2 h3
  nw := fun a h1 h2 => ⟨(e.nw a h1 h2).1, frm_grow (e.nw a h1 h2).2⟩
  lv := fun a h => upd_lv (e.lv a h)
  len := e.len
  va := e.va
  ow := fun i f o hi => by
    obtain ⟨l, ho, q1, q2, q3, q4, q5⟩ := e.ow i f o hi
    refine ⟨l, ho, q1, q2, q3, ?_, q5⟩
    rw [upd_ne (fun z => hn i f o hi (by rw [q1, z]))]; exact q4
  dis := e.dis
theorem Env.frzD (e : Env K B Γ σ S H) (hS : S D = none) (hD : H D = some (.lst acc)) (h0 : B.H0 D = none) (hn : ∀ (j : Nat) (f : Option Addr) (u : Own), Γ[j]? = some (.ow f u) → σ[j]? ≠ some (some (.ref D))) : Env K B Γ σ (upd S D (.lst acc)) H := by
  have sm : Same S (upd S D (.lst acc)) := same_new hS
  refine ⟨⟨fun b u q => ?_, e.st.tb, fun a ps q => ?_⟩, e.bs.trans sm, e.fr, fun a q1 q2 => ?_, e.lv, e.len, fun j y hj => ?_, fun i f o hi => ?_, e.dis⟩
  · by_cases z : b = D
    · subst z; rw [upd_same] at q; rw [hD]; exact q
    · rw [upd_ne z] at q; exact e.st.sub _ _ q
  · by_cases z : a = D
    · subst z; rw [upd_same] at q; cases q
    · rw [upd_ne z] at q; exact e.st.nt _ _ q
  · by_cases z : a = D
    · subst z; exact absurd h0 q2.ne
    · rw [upd_ne z]; exact e.nw a q1 q2
  · obtain ⟨v, q2, q3⟩ := e.va j y hj
    exact ⟨v, q2, rep_mono sm _ _ q3⟩
  · obtain ⟨l, ho, q1, q2, q3, q4, q5, q6⟩ := e.ow i f o hi
    refine ⟨l, ho, q1, q2, ?_, q4, o.mono _ _ _ _ sm q5, q6⟩
    rw [upd_ne (fun z => hn i f o hi (by rw [q1, z]))]; exact q3
theorem StpW.grow (t : StpW P T S0 H0 S H) (h0 : H0 D = none) (hS : S D = none) (hD : H D = some (.lst acc)) : StpW P T S0 H0 S (upd H D (.lst acc2)) :=
  ⟨sta_grow t.st hS hD, t.s, fun a o n e q => by rw [upd_ne (ne_of_none e h0)]; exact t.h a o n e q, t.fr, fun a h => frm_grow (t.fm a h), fun a h => upd_lv (t.lv a h)⟩
theorem StpW.freeze (t : StpW P T S0 H0 S H) (h0 : H0 D = none) (hS : S D = none) (hD : H D = some (.lst acc)) : StpW P T S0 H0 (upd S D (.lst acc)) H := by
  refine ⟨⟨fun b u e => ?_, t.st.tb, fun x ps e => ?_⟩, t.s.trans (same_new hS), t.h, fun x h3 h4 => ?_, t.fm, t.lv⟩
  · by_cases q : b = D
    · subst q; rw [upd_same] at e; rw [hD]; exact e
    · rw [upd_ne q] at e; exact t.st.sub _ _ e
  · by_cases q : x = D
    · subst q; rw [upd_same] at e; cases e
    · rw [upd_ne q] at e; exact t.st.nt x ps e
  · by_cases q : x = D
    · subst q; exact absurd h0 h4.ne
    · rw [upd_ne q]; exact t.fr x h3 h4
end
section
variable {X : Cx} {B : Bs} {ip : Nat} {it elt : Expr}
/-- [elt for nm in it], the items change a pen; nm's slot k -/
theorem gv_lcV {scope : Scope} {nm : Str} {k : Nat} {q1 pos : Pos} {xs : List Vl} (Γf : Nat → List Sl) (g : Nat → Vl) (hc : X.calm = true) (hN : X.N.Nodup) (hi : GI X B (Γf 0) (.Name nm q1) it xs) (ok : BlkOk X.N X.env.scope scope [(nm, k)]) (hnk : X.N[k]? = some nm) (hll : (relabel scope X.env).names.lookup nm = some .local)
    (hno : ∀ i ≤ xs.length, (Γf i)[k]? = some .no) (hlen : ∀ i ≤ xs.length, (Γf i).length = (Γf 0).length) (hpen : ∃ f u, (Γf 0)[ip]? = some (.ow f u)) (hown : ∀ i ≤ xs.length, ∀ (j : Nat) (f : Option Addr) (u : Own), (Γf i)[j]? = some (.ow f u) → ∃ f' u', (Γf 0)[j]? = some (.ow f' u'))
    (he : ∀ (s : Shared) (H : Hp) (C : Addr) (cl : List (Str × Addr)) (fp : List Addr) (i : Nat) (x : Vl), xs[i]? = some x → GV (X.blk s H scope (compEnvC scope cl C X.env) fp) B ip ((Γf i).set k (.va x)) elt ((Γf (i + 1)).set k (.va x)) (g i))
    (hl : xs.length < sizeLine) (hs : ∀ x, foldedSetIterable it X.env x = pure x := by intro _; rfl) :
    GV X B ip (Γf 0) (.ListComp elt [⟨.Name nm q1, it, [], 0⟩] scope pos) (Γf xs.length) (.lst ((List.range xs.length).map g)) := by
  refine PE_imp (pe_lc (te := fun σ H Q => ∃ a : {a : Nat × Vl // xs[a.1]? = some a.2}, tV X.K B ip ((Γf a.1.1).set k (.va a.1.2)) ((Γf (a.1.1 + 1)).set k (.va a.1.2)) (g a.1.1) σ H Q) (own := [(nm, k)]) (g := gT X.K (.nm k)) hc hN hi ok (fun s H C cl fp => pg_name hN hnk (Or.inl hll) (Or.inr hll)) (fun _ _ _ _ _ => pts_nil)
    (fun s H C cl fp => PE_ex fun a => he s H C cl fp a.1.1 a.1.2 a.2) hs) fun σ H Q ⟨S, en, q⟩ => ?_
  refine ⟨S, en, fun J S1 H1 t1 wk D hD => ?_⟩
  have en1 := en.step t1
  have sD : S1 D = none := sta_none t1.st hD
  have h0D : B.H0 D = none := Classical.byContradiction fun z => en1.lv D z hD
  have hnD : ∀ i ≤ xs.length, ∀ (j : Nat) (f : Option Addr) (u : Own), (Γf i)[j]? = some (.ow f u) → σ[j]? ≠ some (some (.ref D)) := fun i hi j f u hj => by
    obtain ⟨f', u', h⟩ := hown i hi j f u hj
    exact en1.hasOwn hD j f' u' h
  have nP : ¬ PA0 ip σ D := fun z => by
    obtain ⟨f', u', h⟩ := hpen
    exact en1.hasOwn hD ip f' u' h z
  have hkp : ip ≠ k := fun z => by
    obtain ⟨f', u', h⟩ := hpen
    have := hno 0 (Nat.zero_le _)
    rw [← z, h] at this
    cases this
  have hkl : k < (Γf 0).length := (List.getElem?_eq_some_iff.mp (hno 0 (Nat.zero_le _))).1
  refine ⟨fun i m H2 => m = xs.length - i ∧ i ≤ xs.length ∧ ∃ S2 acc, Env X.K B (Γf i) σ S2 H2 ∧ StpW (PA0 ip σ) B.T S1 H1 S2 H2 ∧ S2 D = none ∧ H2 D = some (.lst acc) ∧ reps X.K S2 ((List.range i).map g) acc, ⟨xs.length, by simp, Nat.zero_le _, S1, [], en1.step (t1.st.newO hD), .of (t1.st.newO hD), sD, upd_same, rfl⟩, ?_⟩
  rintro i m H2 ⟨rfl, hle, S2, acc, en2, t2, d2, a2, r2⟩
  by_cases hlt : i < xs.length
  · obtain ⟨x, hx⟩ : ∃ x, xs[i]? = some x := ⟨_, List.getElem?_eq_getElem hlt⟩
    obtain ⟨hgo, hy⟩ := wk.go i S2 H2 x t2.st t2.s hx
    refine .inr ⟨hgo, fun H3 => ∃ S3 acc, Env X.K B (Γf (i + 1)) σ S3 H3 ∧ StpW (PA0 ip σ) B.T S1 H1 S3 H3 ∧ S3 D = none ∧ H3 D = some (.lst acc) ∧ reps X.K S3 ((List.range (i + 1)).map g) acc, fun H3 ⟨S3, acc3, p⟩ => ⟨xs.length - (i + 1), by omega, rfl, hlt, S3, acc3, p⟩, fun v H3 yv => ?_⟩
    obtain ⟨S3, t3, rv⟩ := hy v H3 yv
    have en3 := (en2.step t3).wipe [k]
    have fD : Frm H2 D := frm_lst a2
    have d3 : S3 D = none := t3.fr D d2 fD
    have a3 : H3 D = some (.lst acc) := t3.h D _ a2 fun ps z => by cases z
    have eΓ : wipeG (Γf i) [k] = (Γf i).set k .no := rfl
    refine gT_ok en3 rv trivial (fun j hj => by
      have ej : j = k := by simpa [Tg.idx] using hj
      rw [wipeG_length, hlen i hle, ej]
      exact hkl) fun σ2 e2 hk => ⟨?_, ?_⟩
    · refine wipe_back ?_ fun m hm => hk m fun z => hm (by simpa [Tg.idx] using z)
      have := e2.len
      rw [setT_length, wipeG_length, en2.len] at this
      exact this.symm
    · have eΓ2 : setT (wipeG (Γf i) [k]) (.nm k) x = (Γf i).set k (.va x) := by
        show ((Γf i).set k .no).set k (.va x) = _
        rw [List.set_set]
      rw [eΓ2] at e2
      have hσ : ∀ m, m ≠ k → σ2[m]? = σ[m]? := fun m hm => by
        rw [hk m (by simp [Tg.idx]; exact hm)]
        show (σ.set k none)[m]? = _
        rw [List.getElem?_set_ne (Ne.symm hm)]
      unfold tYes
      refine iteT ⟨⟨(i, x), hx⟩, S3, e2, fun y S5 H5 e5 t5 r5 => ?_⟩
      have d5 : S5 D = none := t5.fr D d3 (frm_lst a3)
      have a5 : H5 D = some (.lst acc) := t5.h D _ (fun z => nP (by show σ[ip]? = _; rw [← hσ ip hkp]; exact z)) a3 fun ps z => by cases z
      have ePA : PA0 ip σ2 = PA0 ip σ := funext fun a => by show (σ2[ip]? = _) = (σ[ip]? = _); rw [hσ ip hkp]
      rw [ePA] at t5
      have e6 : Env X.K B (Γf (i + 1)) σ S5 H5 := e5.retreat (by rw [hlen (i + 1) hlt, ← hlen i hle]; exact en2.len) fun j s hj hs => by
        have hjk : j ≠ k := fun z => by
          have := hno (i + 1) hlt
          rw [z] at hj
          rw [this] at hj
          exact hs (Option.some.inj hj).symm
        exact ⟨by rw [List.getElem?_set_ne (Ne.symm hjk)]; exact hj, hσ j hjk⟩
      have t6 := (t2.trans (.of t3)).trans t5
      refine ⟨acc, a5, ?_, S5, acc ++ [y], e6.growD d5 a5 h0D (hnD (i + 1) hlt), t6.grow hD d5 a5, d5, upd_same, ?_⟩
      · rw [← reps_length r2, List.length_map, List.length_range]; omega
      · rw [List.range_succ, List.map_append]
        exact reps_snoc (reps_mono (t3.s.trans t5.s) _ _ r2) r5
  · have hi' : i = xs.length := by omega
    subst hi'
    refine .inl ⟨wk.stop S2 H2 t2.st t2.s, ?_⟩
    exact q (.ref D) _ H2 (en2.frzD d2 a2 h0D (hnD _ hle)) ((StpW.of t1).trans (t2.freeze hD d2 a2)) ⟨D, acc, rfl, upd_same, reps_mono (same_new d2) _ _ r2⟩
end
end G
set_option maxHeartbeats 1000000
/-! K25: a comprehension whose items and whose iterator change a pen. -/
namespace G
open PySem PySem.Spec PyProof.Rows L2 LamX NdefX
def tIV (K : PySem.W.Frag) (B : Bs) (ip : Nat) (Γ Γ' : List Sl) (xs : List Vl) : TI := fun σ H R => ∃ S, Env K B Γ σ S H ∧ ∀ J S' H', Env K B Γ' σ S' H' → StpW (PA0 ip σ) B.T S H S' H' → WkJ K B.T J xs S' → R J H'
abbrev GIV (X : Cx) (B : Bs) (ip : Nat) (Γ : List Sl) (tg it : Expr) (Γ' : List Sl) (xs : List Vl) : Prop := PI X tg it (tIV X.K B ip Γ Γ' xs)
section
variable {X : Cx} {B : Bs} {ip : Nat} {Γ Γ' : List Sl} {tg a : Expr}
theorem giv_rng1 {p pos : Pos} {j : Int} (hg : Gl X "range") (hm : X.mg "range" = none) (ha : GVA X B ip Γ [a] Γ' [.int j]) (h1 : -(2 ^ 62) ≤ j ∧ j < 2 ^ 62) (hs : starEach [a] X.env = [(false, eval a X.env)] := by rfl) : GIV X B ip Γ tg (.Call (.Name "range" p) [a] [] pos) Γ' (rng 0 j.toNat) :=
  PI_imp (pi_range1 hg hm ha hs) fun σ H R ⟨S, en, k⟩ => ⟨S, en, fun vs S1 H1 e1 t1 ⟨v, r, q1, q2, q3⟩ => by
    have q3 : r = [] := q3
    have q2 : v = .int j := q2
    subst q3 q2
    exact ⟨j, q1, h1.1, h1.2, k _ S1 H1 e1 t1 (wk_rng 0 _)⟩⟩
end
section
variable {X : Cx} {B : Bs} {ip : Nat} {it elt : Expr}
/-- [elt for nm in it], the items change a pen; nm's slot k -/
theorem gv_lcVI {Γ : List Sl} {scope : Scope} {nm : Str} {k : Nat} {q1 pos : Pos} {xs : List Vl} (Γf : Nat → List Sl) (g : Nat → Vl) (hc : X.calm = true) (hN : X.N.Nodup) (hi : GIV X B ip Γ (.Name nm q1) it (Γf 0) xs) (ok : BlkOk X.N X.env.scope scope [(nm, k)]) (hnk : X.N[k]? = some nm) (hll : (relabel scope X.env).names.lookup nm = some .local)
    (hno : ∀ i ≤ xs.length, (Γf i)[k]? = some .no) (hlen : ∀ i ≤ xs.length, (Γf i).length = (Γf 0).length) (hpen : ∃ f u, (Γf 0)[ip]? = some (.ow f u)) (hown : ∀ i ≤ xs.length, ∀ (j : Nat) (f : Option Addr) (u : Own), (Γf i)[j]? = some (.ow f u) → ∃ f' u', (Γf 0)[j]? = some (.ow f' u'))
    (he : ∀ (s : Shared) (H : Hp) (C : Addr) (cl : List (Str × Addr)) (fp : List Addr) (i : Nat) (x : Vl), xs[i]? = some x → GV (X.blk s H scope (compEnvC scope cl C X.env) fp) B ip ((Γf i).set k (.va x)) elt ((Γf (i + 1)).set k (.va x)) (g i))
    (hl : xs.length < sizeLine) (hs : ∀ x, foldedSetIterable it X.env x = pure x := by intro _; rfl) :
    GV X B ip Γ (.ListComp elt [⟨.Name nm q1, it, [], 0⟩] scope pos) (Γf xs.length) (.lst ((List.range xs.length).map g)) := by
  refine PE_imp (pe_lc (te := fun σ H Q => ∃ a : {a : Nat × Vl // xs[a.1]? = some a.2}, tV X.K B ip ((Γf a.1.1).set k (.va a.1.2)) ((Γf (a.1.1 + 1)).set k (.va a.1.2)) (g a.1.1) σ H Q) (own := [(nm, k)]) (g := gT X.K (.nm k)) hc hN hi ok (fun s H C cl fp => pg_name hN hnk (Or.inl hll) (Or.inr hll)) (fun _ _ _ _ _ => pts_nil)
    (fun s H C cl fp => PE_ex fun a => he s H C cl fp a.1.1 a.1.2 a.2) hs) fun σ H Q ⟨S, en, q⟩ => ?_
  refine ⟨S, en, fun J S1 H1 en1 t1 wk D hD => ?_⟩
  have sD : S1 D = none := sta_none en1.st hD
  have h0D : B.H0 D = none := Classical.byContradiction fun z => en1.lv D z hD
  have hnD : ∀ i ≤ xs.length, ∀ (j : Nat) (f : Option Addr) (u : Own), (Γf i)[j]? = some (.ow f u) → σ[j]? ≠ some (some (.ref D)) := fun i hi j f u hj => by
    obtain ⟨f', u', h⟩ := hown i hi j f u hj
    exact en1.hasOwn hD j f' u' h
  have nP : ¬ PA0 ip σ D := fun z => by
    obtain ⟨f', u', h⟩ := hpen
    exact en1.hasOwn hD ip f' u' h z
  have hkp : ip ≠ k := fun z => by
    obtain ⟨f', u', h⟩ := hpen
    have := hno 0 (Nat.zero_le _)
    rw [← z, h] at this
    cases this
  have hkl : k < (Γf 0).length := (List.getElem?_eq_some_iff.mp (hno 0 (Nat.zero_le _))).1
  refine ⟨fun i m H2 => m = xs.length - i ∧ i ≤ xs.length ∧ ∃ S2 acc, Env X.K B (Γf i) σ S2 H2 ∧ StpW (PA0 ip σ) B.T S1 H1 S2 H2 ∧ S2 D = none ∧ H2 D = some (.lst acc) ∧ reps X.K S2 ((List.range i).map g) acc, ⟨xs.length, by simp, Nat.zero_le _, S1, [], en1.step (en1.st.newO hD), .of (en1.st.newO hD), sD, upd_same, rfl⟩, ?_⟩
  rintro i m H2 ⟨rfl, hle, S2, acc, en2, t2, d2, a2, r2⟩
  by_cases hlt : i < xs.length
  · obtain ⟨x, hx⟩ : ∃ x, xs[i]? = some x := ⟨_, List.getElem?_eq_getElem hlt⟩
    obtain ⟨hgo, hy⟩ := wk.go i S2 H2 x t2.st t2.s hx
    refine .inr ⟨hgo, fun H3 => ∃ S3 acc, Env X.K B (Γf (i + 1)) σ S3 H3 ∧ StpW (PA0 ip σ) B.T S1 H1 S3 H3 ∧ S3 D = none ∧ H3 D = some (.lst acc) ∧ reps X.K S3 ((List.range (i + 1)).map g) acc, fun H3 ⟨S3, acc3, p⟩ => ⟨xs.length - (i + 1), by omega, rfl, hlt, S3, acc3, p⟩, fun v H3 yv => ?_⟩
    obtain ⟨S3, t3, rv⟩ := hy v H3 yv
    have en3 := (en2.step t3).wipe [k]
    have fD : Frm H2 D := frm_lst a2
    have d3 : S3 D = none := t3.fr D d2 fD
    have a3 : H3 D = some (.lst acc) := t3.h D _ a2 fun ps z => by cases z
    have eΓ : wipeG (Γf i) [k] = (Γf i).set k .no := rfl
    refine gT_ok en3 rv trivial (fun j hj => by
      have ej : j = k := by simpa [Tg.idx] using hj
      rw [wipeG_length, hlen i hle, ej]
      exact hkl) fun σ2 e2 hk => ⟨?_, ?_⟩
    · refine wipe_back ?_ fun m hm => hk m fun z => hm (by simpa [Tg.idx] using z)
      have := e2.len
      rw [setT_length, wipeG_length, en2.len] at this
      exact this.symm
    · have eΓ2 : setT (wipeG (Γf i) [k]) (.nm k) x = (Γf i).set k (.va x) := by
        show ((Γf i).set k .no).set k (.va x) = _
        rw [List.set_set]
      rw [eΓ2] at e2
      have hσ : ∀ m, m ≠ k → σ2[m]? = σ[m]? := fun m hm => by
        rw [hk m (by simp [Tg.idx]; exact hm)]
        show (σ.set k none)[m]? = _
        rw [List.getElem?_set_ne (Ne.symm hm)]
      unfold tYes
      refine iteT ⟨⟨(i, x), hx⟩, S3, e2, fun y S5 H5 e5 t5 r5 => ?_⟩
      have d5 : S5 D = none := t5.fr D d3 (frm_lst a3)
      have a5 : H5 D = some (.lst acc) := t5.h D _ (fun z => nP (by show σ[ip]? = _; rw [← hσ ip hkp]; exact z)) a3 fun ps z => by cases z
      have ePA : PA0 ip σ2 = PA0 ip σ := funext fun a => by show (σ2[ip]? = _) = (σ[ip]? = _); rw [hσ ip hkp]
      rw [ePA] at t5
      have e6 : Env X.K B (Γf (i + 1)) σ S5 H5 := e5.retreat (by rw [hlen (i + 1) hlt, ← hlen i hle]; exact en2.len) fun j s hj hs => by
        have hjk : j ≠ k := fun z => by
          have := hno (i + 1) hlt
          rw [z] at hj
          rw [this] at hj
          exact hs (Option.some.inj hj).symm
        exact ⟨by rw [List.getElem?_set_ne (Ne.symm hjk)]; exact hj, hσ j hjk⟩
      have t6 := (t2.trans (.of t3)).trans t5
      refine ⟨acc, a5, ?_, S5, acc ++ [y], e6.growD d5 a5 h0D (hnD (i + 1) hlt), t6.grow hD d5 a5, d5, upd_same, ?_⟩
      · rw [← reps_length r2, List.length_map, List.length_range]; omega
      · rw [List.range_succ, List.map_append]
        exact reps_snoc (reps_mono (t3.s.trans t5.s) _ _ r2) r5
  · have hi' : i = xs.length := by omega
    subst hi'
    refine .inl ⟨wk.stop S2 H2 t2.st t2.s, ?_⟩
    exact q (.ref D) _ H2 (en2.frzD d2 a2 h0D (hnD _ hle)) (t1.trans (t2.freeze hD d2 a2)) ⟨D, acc, rfl, upd_same, reps_mono (same_new d2) _ _ r2⟩
end
end G
set_option maxHeartbeats 1000000
/-! K26: a longer tuple, some times over. -/
namespace G
open PySem PySem.Spec PyProof.Rows L2 LamX NdefX
section
variable {X : Cx}
/-- some times over, at most a million items in all -/
def rRepM (K : PySem.W.Frag) : R2 := fun x y H Q => ∃ l k xs, x = .ref l ∧ y = .int k ∧ SqT K H l xs ∧ 0 < xs.length ∧ 1 < k ∧ k < 2000 ∧ k * (xs.length : Nat) ≤ 1000000 ∧ ∀ p, H p = none → Q (.ref p) (upd H p (.tup (List.replicate k.toNat xs).flatten))
theorem op_repM : OpR X (binaryOp .Mult) (rRepM X.K) := by
  intro pins s σ H x y v u Q I rx ry h
  obtain ⟨l, k, xs, rfl, rfl, hT, h0, h1, h2, hz, q⟩ := h
  cases rx
  obtain ⟨t, rfl⟩ := ry
  obtain ⟨its, r, ⟨⟨cls, dd, data, sl⟩, ho, hc, n, hd⟩, hs⟩ := I.tuple hT
  simp only at hc hd
  subst hc hd
  have hle : its.length = xs.length := r.length.symm
  have hsz : (its.toArray.size : Nat) = xs.length := by rw [List.size_toArray, hle]
  have hem : its.toArray.isEmpty = false := by
    cases its with
    | nil => rw [← hle] at h0; exact absurd h0 (Nat.lt_irrefl _)
    | cons _ _ => rfl
  have hkn : k.toNat * xs.length ≤ 1000000 := by
    have e : ((k.toNat * xs.length : Nat) : Int) = k * (xs.length : Nat) := by rw [Int.natCast_mul, Int.toNat_of_nonneg (by omega)]
    omega
  have big : ∀ {α : Type} (ys : List α), ys.length = xs.length → (List.replicate k.toNat ys).flatten.length ≤ sizeLine := fun ys e => by
    rw [PyProof.Rows.lm_len_rep_flat, e, sizeLine_eq]; omega
  have many : Builtin.Tuple.tupleTooMany (((its.toArray.size : Nat) : Int) * k) = false := by
    unfold Builtin.Tuple.tupleTooMany
    rw [sizeLine_eq, hsz, Int.mul_comm]
    exact decide_eq_false (by omega)
  have a0 : (decide (k < -(2 ^ 63)) || decide (k ≥ 2 ^ 63)) = false := by
    rw [decide_eq_false (by omega), decide_eq_false (by omega)] <;> rfl
  have a1 : (its.toArray.isEmpty || k == 1) = false := by rw [hem, Bool.false_or]; exact beq_eq_false_iff_ne.mpr (by omega)
  have a2 : (decide (k ≤ 0) || its.toArray.isEmpty) = false := by rw [hem, Bool.or_false]; exact decide_eq_false (by omega)
  refine wpAny_binaryOp_repeat_ref (T := "tuple") (U := "int") (by decide) ⟨_, ho, rfl⟩ (fun s' => typeIs_int s' k t) noFill_tuple_mul F.fills_int_mul F.slot_int_rmul repeat_tuple F.slot_int_index.lookup
    (call_meets F.slot_int_rmul (typeIs_int s k t) F.entry_int_rmul (F.args_int_rmul_2 _ _) (int_rmul_tuple k t l its.toArray n dd sl)
      ⟨ho, rfl, ⟨_, ho, rfl⟩, call_meets F.slot_tuple_mul ⟨_, ho, rfl⟩ F.entry_tuple_mul (F.args_tuple_mul_2 _ _) (tuple_mulW l its.toArray n dd sl k t a0 a1 a2 (by rw [hsz, Int.mul_comm]; omega) many (by rw [size_rep, List.size_toArray]; exact big its hle)) ⟨ho, ?_⟩⟩)
  rw [size_rep]
  exact ⟨.ref s.heap.objs.size, _, I.laid (t' := s.toks) (o := .tup (List.replicate k.toNat xs).flatten) (fun b ob q => Heap.get?_push_of_some _ q) (Nat.le_refl _) ⟨big xs rfl, _, r.rep k.toNat, IsTup.new _ _⟩, rfl, q _ (I.hok.fresh (Nat.le_refl _))⟩
end
section
variable {X : Cx} {B : Bs} {Γ : List Sl} {a b : Expr} {pos : Pos} {xs : List Vl}
theorem ge_repM {n : Int} (ha : GE X B Γ a (.tup xs)) (hb : GE X B Γ b (.int n)) (h1 : 1 ≤ n) (h2 : n ≤ 100) (hx : xs ≠ []) (hz : xs.length ≤ 10000) : GE X B Γ (.BinOp a .Mult b pos) (.tup (List.replicate n.toNat xs).flatten) := by
  by_cases h : n = 1
  · subst h
    have e : (List.replicate (1 : Int).toNat xs).flatten = xs := by simp
    rw [e]
    exact ge_op op_rep1 ha hb fun v u S H Q st ⟨p, vs, e1, e2, e3⟩ hu k => ⟨p, vs, e1, hu, Same.sqT st.sub e2, k _ S H st.refl ⟨p, vs, rfl, e2, e3⟩⟩
  · refine ge_op op_repM ha hb fun v u S H Q st ⟨p, vs, e1, e2, e3⟩ hu k => ?_
    have hl := reps_length e3
    have hp : 0 < xs.length := List.length_pos_iff.mpr hx
    refine ⟨p, n, vs, e1, hu, Same.sqT st.sub e2, by omega, by omega, by omega, ?_, fun q hq => ?_⟩
    · rw [← hl]
      have := Int.mul_le_mul h2 (show ((xs.length : Nat) : Int) ≤ 10000 by omega) (by omega) (by omega)
      omega
    · have t := st.newV hq (o := .tup (List.replicate n.toNat vs).flatten) (fun ps z => by cases z)
      exact k _ _ _ t ⟨q, _, rfl, SqT.of upd_same, reps_mono t.s _ _ (flat_reps e3 _)⟩
end
end G
set_option maxHeartbeats 1000000
/-! K27: y = a comprehension whose items change a pen. -/
namespace G
open PySem PySem.Spec PyProof.Rows L2 LamX NdefX
section
variable {X : Cx} {B : Bs} {ip : Nat} {it elt : Expr}
/-- y = [elt for nm in it], the items change a pen; nm's slot k -/
theorem gs_lcV {scope : Scope} {nm yn : Str} {k iy : Nat} {q1 pos spos py : Pos} {xs : List Vl} (Γf : Nat → List Sl) (g : Nat → Vl) (hc : X.calm = true) (hN : X.N.Nodup) (hy : X.N[iy]? = some yn) (hyl : X.env.scope.names.lookup yn = some .local) (hsw : swapsWith (.ListComp elt [⟨.Name nm q1, it, [], 0⟩] scope pos) (some (.Name yn py)) spos.line X.env = pure true) (hiy : iy < (Γf xs.length).length) (hi : GI X B (Γf 0) (.Name nm q1) it xs) (ok : BlkOk X.N X.env.scope scope [(nm, k)]) (hnk : X.N[k]? = some nm) (hll : (relabel scope X.env).names.lookup nm = some .local)
    (hno : ∀ i ≤ xs.length, (Γf i)[k]? = some .no) (hlen : ∀ i ≤ xs.length, (Γf i).length = (Γf 0).length) (hpen : ∃ f u, (Γf 0)[ip]? = some (.ow f u)) (hown : ∀ i ≤ xs.length, ∀ (j : Nat) (f : Option Addr) (u : Own), (Γf i)[j]? = some (.ow f u) → ∃ f' u', (Γf 0)[j]? = some (.ow f' u'))
    (he : ∀ (s : Shared) (H : Hp) (C : Addr) (cl : List (Str × Addr)) (fp : List Addr) (i : Nat) (x : Vl), xs[i]? = some x → GV (X.blk s H scope (compEnvC scope cl C X.env) fp) B ip ((Γf i).set k (.va x)) elt ((Γf (i + 1)).set k (.va x)) (g i))
    (hl : xs.length < sizeLine) (hs : ∀ x, foldedSetIterable it X.env x = pure x := by intro _; rfl) :
    GS X B (Γf 0) (.Assign [.Name yn py] (.ListComp elt [⟨.Name nm q1, it, [], 0⟩] scope pos) spos) ((Γf xs.length).set iy (.va (.lst ((List.range xs.length).map g)))) := by
  refine PS_imp (ps_setLc (te := fun σ H Q => ∃ a : {a : Nat × Vl // xs[a.1]? = some a.2}, tV X.K B ip ((Γf a.1.1).set k (.va a.1.2)) ((Γf (a.1.1 + 1)).set k (.va a.1.2)) (g a.1.1) σ H Q) (own := [(nm, k)]) (g := gT X.K (.nm k)) hc hN hy hyl hsw hi ok (fun s H C cl fp => pg_name hN hnk (Or.inl hll) (Or.inr hll)) (fun _ _ _ _ _ => pts_nil)
    (fun s H C cl fp => PE_ex fun a => he s H C cl fp a.1.1 a.1.2 a.2) hs) fun D0 σ H ⟨S, en, q0⟩ => ?_
  have q : ∀ v S' H', Env X.K B (Γf xs.length) σ S' H' → StpW (PA0 ip σ) B.T S H S' H' → rep X.K S' (.lst ((List.range xs.length).map g)) v → gName iy v σ H' D0.nx := fun v S1 H1 e1 t1 h1 => q0 _ S1 H1 (e1.setV hiy h1)
  refine ⟨S, en, fun J S1 H1 t1 wk D hD => ?_⟩
  have en1 := en.step t1
  have sD : S1 D = none := sta_none t1.st hD
  have h0D : B.H0 D = none := Classical.byContradiction fun z => en1.lv D z hD
  have hnD : ∀ i ≤ xs.length, ∀ (j : Nat) (f : Option Addr) (u : Own), (Γf i)[j]? = some (.ow f u) → σ[j]? ≠ some (some (.ref D)) := fun i hi j f u hj => by
    obtain ⟨f', u', h⟩ := hown i hi j f u hj
    exact en1.hasOwn hD j f' u' h
  have nP : ¬ PA0 ip σ D := fun z => by
    obtain ⟨f', u', h⟩ := hpen
    exact en1.hasOwn hD ip f' u' h z
  have hkp : ip ≠ k := fun z => by
    obtain ⟨f', u', h⟩ := hpen
    have := hno 0 (Nat.zero_le _)
    rw [← z, h] at this
    cases this
  have hkl : k < (Γf 0).length := (List.getElem?_eq_some_iff.mp (hno 0 (Nat.zero_le _))).1
  refine ⟨fun i m H2 => m = xs.length - i ∧ i ≤ xs.length ∧ ∃ S2 acc, Env X.K B (Γf i) σ S2 H2 ∧ StpW (PA0 ip σ) B.T S1 H1 S2 H2 ∧ S2 D = none ∧ H2 D = some (.lst acc) ∧ reps X.K S2 ((List.range i).map g) acc, ⟨xs.length, by simp, Nat.zero_le _, S1, [], en1.step (t1.st.newO hD), .of (t1.st.newO hD), sD, upd_same, rfl⟩, ?_⟩
  rintro i m H2 ⟨rfl, hle, S2, acc, en2, t2, d2, a2, r2⟩
  by_cases hlt : i < xs.length
  · obtain ⟨x, hx⟩ : ∃ x, xs[i]? = some x := ⟨_, List.getElem?_eq_getElem hlt⟩
    obtain ⟨hgo, hy⟩ := wk.go i S2 H2 x t2.st t2.s hx
    refine .inr ⟨hgo, fun H3 => ∃ S3 acc, Env X.K B (Γf (i + 1)) σ S3 H3 ∧ StpW (PA0 ip σ) B.T S1 H1 S3 H3 ∧ S3 D = none ∧ H3 D = some (.lst acc) ∧ reps X.K S3 ((List.range (i + 1)).map g) acc, fun H3 ⟨S3, acc3, p⟩ => ⟨xs.length - (i + 1), by omega, rfl, hlt, S3, acc3, p⟩, fun v H3 yv => ?_⟩
    obtain ⟨S3, t3, rv⟩ := hy v H3 yv
    have en3 := (en2.step t3).wipe [k]
    have fD : Frm H2 D := frm_lst a2
    have d3 : S3 D = none := t3.fr D d2 fD
    have a3 : H3 D = some (.lst acc) := t3.h D _ a2 fun ps z => by cases z
    have eΓ : wipeG (Γf i) [k] = (Γf i).set k .no := rfl
    refine gT_ok en3 rv trivial (fun j hj => by
      have ej : j = k := by simpa [Tg.idx] using hj
      rw [wipeG_length, hlen i hle, ej]
      exact hkl) fun σ2 e2 hk => ⟨?_, ?_⟩
    · refine wipe_back ?_ fun m hm => hk m fun z => hm (by simpa [Tg.idx] using z)
      have := e2.len
      rw [setT_length, wipeG_length, en2.len] at this
      exact this.symm
    · have eΓ2 : setT (wipeG (Γf i) [k]) (.nm k) x = (Γf i).set k (.va x) := by
        show ((Γf i).set k .no).set k (.va x) = _
        rw [List.set_set]
      rw [eΓ2] at e2
      have hσ : ∀ m, m ≠ k → σ2[m]? = σ[m]? := fun m hm => by
        rw [hk m (by simp [Tg.idx]; exact hm)]
        show (σ.set k none)[m]? = _
        rw [List.getElem?_set_ne (Ne.symm hm)]
      unfold tYes
      refine iteT ⟨⟨(i, x), hx⟩, S3, e2, fun y S5 H5 e5 t5 r5 => ?_⟩
      have d5 : S5 D = none := t5.fr D d3 (frm_lst a3)
      have a5 : H5 D = some (.lst acc) := t5.h D _ (fun z => nP (by show σ[ip]? = _; rw [← hσ ip hkp]; exact z)) a3 fun ps z => by cases z
      have ePA : PA0 ip σ2 = PA0 ip σ := funext fun a => by show (σ2[ip]? = _) = (σ[ip]? = _); rw [hσ ip hkp]
      rw [ePA] at t5
      have e6 : Env X.K B (Γf (i + 1)) σ S5 H5 := e5.retreat (by rw [hlen (i + 1) hlt, ← hlen i hle]; exact en2.len) fun j s hj hs => by
        have hjk : j ≠ k := fun z => by
          have := hno (i + 1) hlt
          rw [z] at hj
          rw [this] at hj
          exact hs (Option.some.inj hj).symm
        exact ⟨by rw [List.getElem?_set_ne (Ne.symm hjk)]; exact hj, hσ j hjk⟩
      have t6 := (t2.trans (.of t3)).trans t5
      refine ⟨acc, a5, ?_, S5, acc ++ [y], e6.growD d5 a5 h0D (hnD (i + 1) hlt), t6.grow hD d5 a5, d5, upd_same, ?_⟩
      · rw [← reps_length r2, List.length_map, List.length_range]; omega
      · rw [List.range_succ, List.map_append]
        exact reps_snoc (reps_mono (t3.s.trans t5.s) _ _ r2) r5
  · have hi' : i = xs.length := by omega
    subst hi'
    refine .inl ⟨wk.stop S2 H2 t2.st t2.s, ?_⟩
    exact q (.ref D) _ H2 (en2.frzD d2 a2 h0D (hnD _ hle)) ((StpW.of t1).trans (t2.freeze hD d2 a2)) ⟨D, acc, rfl, upd_same, reps_mono (same_new d2) _ _ r2⟩
end
end G
set_option maxHeartbeats 1000000
/-! K28: the script: a list that is only read. -/
namespace G
open PySem PySem.Spec PyProof.Rows L2 LamX NdefX
def scOb (K : PySem.W.Frag) (ns : List Int) : Ob where
  p := fun v S => ∃ a, v = .ref a ∧ SqL K S a (ns.map V.int)
  mono := fun v S S' sm ⟨a, e, h⟩ => ⟨a, e, by
    rcases h with (h | ⟨o, h⟩) | h
    · exact .inl (.inl (sm _ _ h))
    · exact .inl (.inr ⟨o, sm _ _ h⟩)
    · exact .inr h⟩
def scV (K : PySem.W.Frag) (ns : List Int) : Vl := .ob (scOb K ns)
theorem sc_sub {K : PySem.W.Frag} {S H : Hp} {a : Addr} {xs : List V} (sm : Same S H) (h : SqL K S a xs) : SqL K H a xs := by
  rcases h with (h | ⟨o, h⟩) | h
  · exact .inl (.inl (sm _ _ h))
  · exact .inl (.inr ⟨o, sm _ _ h⟩)
  · exact .inr h
theorem atI_natV {α : Type} {xs : List α} {k : Nat} {y : α} (h : xs[k]? = some y) : atI xs (k : Int) = some y := by
  have hk : k < xs.length := (List.getElem?_eq_some_iff.mp h).1
  unfold atI ixN
  rw [if_pos (show (0 : Int) ≤ (k : Int) from by omega), if_pos (show (k : Int) < (xs.length : Int) from by omega)]
  exact h
section
variable {X : Cx} {B : Bs} {Γ : List Sl} {a b : Expr} {pos p : Pos} {ns : List Int} {y : Vl}
theorem g_lenS (Gm : Gf X.mg) (h : GE X B Γ a (scV X.K ns)) (hg : Gl X "len" := by rfl) (hs : starEach [a] X.env = (false, eval a X.env) :: starEach [] X.env := by rfl) : GE X B Γ (.Call (.Name "len" p) [a] [] pos) (.int ns.length) :=
  ge_callB call_len_seq Gm.len hg PySem.boot_len (ga_cons h ga_nil hs) (ra1 fun v S H Q st ⟨l, e1, e2⟩ k => by
    refine ⟨l, ns.map V.int, by rw [e1], .inl (sc_sub st.sub e2), ?_⟩
    rw [List.length_map]
    exact k _ S H st.refl rfl) (by decide) (by decide) hs rfl
theorem ge_ixS {i : Nat} (ha : GE X B Γ a (scV X.K ns)) (hb : GE X B Γ b (.int (i : Nat))) (h : i < ns.length) (hs : PlainIx b := by exact fun _ _ => rfl) : GE X B Γ (.Subscript a b pos) (.int (ns.getD i 0)) :=
  ge_ix ix_list ha hb hs fun v u S H Q st ⟨l, e1, e2⟩ h2 k => by
    have e : (ns.map V.int)[i]? = some (.int (ns.getD i 0)) := by
      rw [List.getElem?_map, List.getD_eq_getElem?_getD, List.getElem?_eq_getElem h]; rfl
    refine ⟨l, ns.map V.int, i, _, e1, h2, sc_sub st.sub e2, ?_, k _ S H st.refl rfl⟩
    exact atI_natV e
end
end G
set_option maxHeartbeats 1000000
/-! E2: what the encoded things are as data, as keys. -/
namespace G
open PySem PySem.Spec PyProof.Rows L2 LamX NdefX
theorem toDs_map : ∀ xs : List Vl, toDs xs = xs.map toD
  | [] => rfl
  | x :: xs => by rw [toDs, toDs_map xs]; rfl
theorem plains_all : ∀ {xs : List Vl}, (∀ x ∈ xs, plain x = true) → plains xs = true
  | [], _ => rfl
  | x :: xs, h => by rw [plains, h x (.head _), plains_all fun y hy => h y (.tail _ hy)]; rfl
theorem keyables_all : ∀ {xs : List Vl}, (∀ x ∈ xs, keyable x = true) → keyables xs = true
  | [], _ => rfl
  | x :: xs, h => by rw [keyables, h x (.head _), keyables_all fun y hy => h y (.tail _ hy)]; rfl
theorem lays_all : ∀ {ds : List PyData}, (∀ d ∈ ds, d.canLay0 = true) → PyData.canLayAll0 ds = true
  | [], _ => rfl
  | d :: ds, h => by rw [PyData.canLayAll0, h d (.head _), lays_all fun y hy => h y (.tail _ hy)]; rfl
theorem deps_all {n : Nat} : ∀ {ds : List PyData}, (∀ d ∈ ds, d.depth ≤ n) → PyData.depthAll ds ≤ n
  | [], _ => Nat.zero_le _
  | d :: ds, h => by
    rw [PyData.depthAll]
    exact Nat.max_le.mpr ⟨h d (.head _), deps_all fun y hy => h y (.tail _ hy)⟩
theorem kdeps_all {n : Nat} : ∀ {xs : List Vl}, (∀ x ∈ xs, (toK x).depth ≤ n) → NestedKey.depthAll (toKs xs) ≤ n
  | [], _ => Nat.zero_le _
  | d :: ds, h => by
    rw [toKs, NestedKey.depthAll]
    exact Nat.max_le.mpr ⟨h d (.head _), kdeps_all fun y hy => h y (.tail _ hy)⟩
/-- plain data of a depth -/
structure Dat (n : Nat) (x : Vl) : Prop where
  pl : plain x = true
  ky : keyable x = true
  lay : (toD x).canLay0 = true
  dep : (toD x).depth ≤ n
  kd : (toK x).depth ≤ n
theorem Dat.mono {m n : Nat} {x : Vl} (h : Dat m x) (k : m ≤ n) : Dat n x := ⟨h.pl, h.ky, h.lay, Nat.le_trans h.dep k, Nat.le_trans h.kd k⟩
theorem Dat.int (i : Int) {n : Nat} : Dat n (.int i) := ⟨rfl, rfl, rfl, Nat.zero_le _, Nat.zero_le _⟩
theorem Dat.non {n : Nat} : Dat n .non := ⟨rfl, rfl, rfl, Nat.zero_le _, Nat.zero_le _⟩
theorem Dat.bl (b : Bool) {n : Nat} : Dat n (.bl b) := ⟨rfl, rfl, rfl, Nat.zero_le _, Nat.zero_le _⟩
theorem Dat.tup {xs : List Vl} {n : Nat} (h : ∀ x ∈ xs, Dat n x) : Dat (n + 1) (.tup xs) := by
  refine ⟨plains_all fun x hx => (h x hx).pl, keyables_all fun x hx => (h x hx).ky, ?_, ?_, ?_⟩
  · show PyData.canLayAll0 (toDs xs) = true
    rw [toDs_map]
    refine lays_all fun d hd => ?_
    obtain ⟨x, h1, rfl⟩ := List.mem_map.mp hd
    exact (h x h1).lay
  · show PyData.depthAll (toDs xs) + 1 ≤ n + 1
    rw [toDs_map]
    refine Nat.succ_le_succ (deps_all fun d hd => ?_)
    obtain ⟨x, h1, rfl⟩ := List.mem_map.mp hd
    exact (h x h1).dep
  · show NestedKey.depthAll (toKs xs) + 1 ≤ n + 1
    exact Nat.succ_le_succ (kdeps_all fun x hx => (h x hx).kd)
theorem Dat.tud {xs : List Vl} {n : Nat} (h : ∀ x ∈ xs, Dat n x) : Dat (n + 1) (.tud xs) := ⟨(Dat.tup h).pl, (Dat.tup h).ky, (Dat.tup h).lay, (Dat.tup h).dep, (Dat.tup h).kd⟩
theorem Dat.ints (ns : List Int) : Dat 1 (eI ns) := Dat.tup fun x hx => by
  obtain ⟨i, _, rfl⟩ := List.mem_map.mp hx
  exact .int i
theorem Dat.st (s : Mi.Sta) : Dat 2 (eSt s) := Dat.tup fun x hx => by
  simp only [List.mem_cons, List.not_mem_nil, or_false] at hx
  rcases hx with rfl | rfl
  · exact Dat.tud fun x hx => by
      obtain ⟨i, _, rfl⟩ := List.mem_map.mp hx
      exact .int i
  · exact .int _
theorem Dat.nd (n : Mi.Nd) : Dat 3 (eNd n) := Dat.tup fun x hx => by
  simp only [List.mem_cons, List.not_mem_nil, or_false] at hx
  rcases hx with rfl | rfl
  · exact Dat.st _
  · exact Dat.st _
theorem keyOk_nd (n : Mi.Nd) : keyOk (eNd n) := ⟨(Dat.nd n).ky, Nat.le_trans (Dat.nd n).kd (by decide)⟩
theorem isTu_nd (n : Mi.Nd) : isTu (eNd n) := ⟨_, .inl rfl⟩
theorem toKs_ints : ∀ {a b : List Int}, toKs (a.map Vl.int) = toKs (b.map Vl.int) → a = b
  | [], [], _ => rfl
  | [], _ :: _, h => by cases h
  | _ :: _, [], h => by cases h
  | x :: a, y :: b, h => by
    rw [List.map_cons, List.map_cons, toKs, toKs] at h
    have h1 := (List.cons.inj h).1
    have h2 := (List.cons.inj h).2
    cases h1
    rw [toKs_ints h2]
theorem toK_st {s t : Mi.Sta} (h : toK (eSt s) = toK (eSt t)) : s = t := by
  have h := NestedKey.tup.inj h
  have h1 := (List.cons.inj h).1
  have h2 := (List.cons.inj (List.cons.inj h).2).1
  have h1 := toKs_ints (NestedKey.tup.inj h1)
  have h2 : NestedKey.num s.2 = NestedKey.num t.2 := h2
  cases h2' : s with
  | mk a b => cases ht : t with
    | mk c d =>
      rw [h2', ht] at h1 h2
      cases h2
      have h1 : a = c := h1
      subst h1; rfl
theorem toK_nd {m n : Mi.Nd} (h : toK (eNd m) = toK (eNd n)) : m = n := by
  have h := NestedKey.tup.inj h
  have h1 := toK_st (List.cons.inj h).1
  have h2 := toK_st (List.cons.inj (List.cons.inj h).2).1
  cases m; cases n
  have h1 : _ = _ := h1
  have h2 : _ = _ := h2
  simp only at h1 h2
  rw [h1, h2]
/-! dicts by nodes -/
section
variable {β : Type}
def eD (f : β → Vl) (d : List (Mi.Nd × β)) : List (Vl × Vl) := d.map fun p => (eNd p.1, f p.2)
theorem lk_eD (f : β → Vl) (d : List (Mi.Nd × β)) (n : Mi.Nd) : lkK (eD f d) (toK (eNd n)) = (Mi.look d n).map f := by
  unfold lkK eD Mi.look
  induction d with
  | nil => rfl
  | cons p d ih =>
    rw [List.map_cons, List.find?_cons, List.find?_cons]
    by_cases h : p.1 = n
    · rw [decide_eq_true (by rw [h]), decide_eq_true h]; rfl
    · rw [decide_eq_false (fun z => h (toK_nd z)), decide_eq_false h]
      exact ih
theorem put_eD (f : β → Vl) (d : List (Mi.Nd × β)) (n : Mi.Nd) (v : β) : putK2 (eD f d) (eNd n) (f v) = eD f (Mi.put d n v) := by
  unfold putK2 eD Mi.put
  have e : ((d.map fun p => (eNd p.1, f p.2)).any fun p => decide (toK p.1 = toK (eNd n))) = d.any fun p => decide (p.1 = n) := by
    rw [List.any_map]
    refine congrArg (fun g => d.any g) (funext fun p => ?_)
    show decide (toK (eNd p.1) = toK (eNd n)) = decide (p.1 = n)
    by_cases h : p.1 = n
    · rw [decide_eq_true (by rw [h]), decide_eq_true h]
    · rw [decide_eq_false (fun z => h (toK_nd z)), decide_eq_false h]
  rw [e]
  split
  · rw [List.map_map, List.map_map]
    refine List.map_congr_left fun p _ => ?_
    show (if toK (eNd p.1) = toK (eNd n) then (eNd p.1, f v) else (eNd p.1, f p.2)) = (eNd (if p.1 = n then (p.1, v) else p).1, f (if p.1 = n then (p.1, v) else p).2)
    by_cases h : p.1 = n
    · rw [if_pos h, if_pos (by rw [h])]
    · rw [if_neg h, if_neg (fun z => h (toK_nd z))]
  · rw [List.map_append]; rfl
end
section
variable {X : Cx} {B : Bs} {Γ : List Sl} {x y : Vl} {a b : Expr} {pos : Pos} {n : Nat}
theorem shaped_of (h : Dat n x) (hn : n ≤ 64) : SeqAt.shaped (toD x) = true := by
  unfold SeqAt.shaped
  rw [h.lay, decide_eq_true (Nat.le_trans h.dep hn)]; rfl
/-- == of equal data -/
theorem ge_eqSame (ha : GE X B Γ a x) (hb : GE X B Γ b y) (hx : Dat n x) (hy : Dat n y) (hn : n ≤ 64) (e : toD x = toD y) (hu : X.A.units + 64 < cLine) (hm : behindInMarks .Eq b = false := by first | exact nomark _ | rfl) : GE X B Γ (.Compare a [.Eq] [b] pos) (.bl true) :=
  ge_cmp (op_eqD hu) ha hb (ro_eqD hx.pl hy.pl (shaped_of hx hn) (shaped_of hy hn) (by rw [e]; exact SeqAt.eqv_refl _ hy.lay)) hm
theorem gt_eqSame (ha : GE X B Γ a x) (hb : GE X B Γ b y) (hx : Dat n x) (hy : Dat n y) (hn : n ≤ 64) (e : toD x = toD y) (hu : X.A.units + 64 < cLine) (hm : behindInMarks .Eq b = false := by first | exact nomark _ | rfl) : GT X B Γ (.Compare a [.Eq] [b] pos) true :=
  gt_cmp (op_eqD hu) ha hb (ro_eqD hx.pl hy.pl (shaped_of hx hn) (shaped_of hy hn) (by rw [e]; exact SeqAt.eqv_refl _ hy.lay)) hm
theorem gt_neSame (ha : GE X B Γ a x) (hb : GE X B Γ b y) (hx : Dat n x) (hy : Dat n y) (hn : n ≤ 64) (e : toD x = toD y) (hu : X.A.units + 64 < cLine) (hm : behindInMarks .NotEq b = false := by first | exact nomark _ | rfl) : GT X B Γ (.Compare a [.NotEq] [b] pos) false :=
  gt_cmp (op_neD hu) ha hb (ro_neD hx.pl hy.pl (shaped_of hx hn) (shaped_of hy hn) (by rw [e, SeqAt.eqv_refl _ hy.lay]; rfl)) hm
end
theorem Dat.lst_pl {xs : List Vl} {n : Nat} (h : ∀ x ∈ xs, Dat n x) : plain (.lst xs) = true ∧ SeqAt.shaped (toD (.lst xs)) = SeqAt.shaped (toD (.tup xs)) := ⟨plains_all fun x hx => (h x hx).pl, rfl⟩
theorem alike_int (i j : Int) : PySem.W.alike (.int i) (.int j) = true := rfl
theorem sortOk_ints {A : Around} (ns : List Int) (hu : A.units + 4 < cLine) : SortOk A (ns.map .int) where
  key := fun x hx => by obtain ⟨i, _, rfl⟩ := List.mem_map.mp hx; rfl
  alike := fun d hd d' hd' => by
    obtain ⟨x, h1, rfl⟩ := List.mem_map.mp hd
    obtain ⟨i, _, rfl⟩ := List.mem_map.mp h1
    obtain ⟨y, h2, rfl⟩ := List.mem_map.mp hd'
    obtain ⟨j, _, rfl⟩ := List.mem_map.mp h2
    rfl
  sortable := .inr fun d hd => by
    obtain ⟨x, h1, rfl⟩ := List.mem_map.mp hd
    obtain ⟨i, _, rfl⟩ := List.mem_map.mp h1
    exact ⟨(fun z => by cases z), (fun xs z => by cases z)⟩
  room := fun x hx => by obtain ⟨i, _, rfl⟩ := List.mem_map.mp hx; show A.units + 4 + 0 < cLine; omega
theorem sortX_ints (ns : List Int) : sortX (ns.map .int) = (ns.mergeSort fun a b => decide (a ≤ b)).map .int := by
  unfold sortX
  have e := List.map_mergeSort (r := fun a b : Int => decide (a ≤ b)) (s := PySem.W.dataLe false toD) (f := Vl.int) (l := ns) (fun a _ b _ => by
    have := congrFun (congrFun (PySem.W.dataLe_int (fun b : Int => b)) a) b
    rw [← this]; rfl)
  exact e.symm
theorem sorted_perm {a b : List Int} (h : a.Perm b) (hb : b.Pairwise (· ≤ ·)) : (a.mergeSort fun a b => decide (a ≤ b)) = b := by
  refine List.Perm.eq_of_pairwise (le := fun a b : Int => a ≤ b) (fun x y _ _ h1 h2 => Int.le_antisymm h1 h2) ?_ hb ((List.mergeSort_perm a _).trans h)
  have := List.pairwise_mergeSort (le := fun a b : Int => decide (a ≤ b)) (fun a b c h1 h2 => by simp at *; omega) (fun a b => by simp; omega) a
  exact this.imp fun h => of_decide_eq_true h
theorem rangeI_sorted (n : Nat) : (Mi.rangeI n).Pairwise (· ≤ ·) := by
  unfold Mi.rangeI
  rw [List.pairwise_map]
  refine List.Pairwise.imp (fun {a b} h => ?_) (List.pairwise_lt_range (n := n))
  omega
end G
set_option maxHeartbeats 1000000
/-! M5: states stay states; runs. -/
namespace Mi
theorem rangeI_length (n : Nat) : (rangeI n).length = n := by unfold rangeI; rw [List.length_map, List.length_range]
theorem arr_perm {row o : List Int} {p : Int} (h : okOrder p o) (hl : (row.length : Int) = p) : (arr row o).Perm row := by
  have e : (rangeI p.toNat).map (fun i => row.getD i.toNat (-1)) = row := by
    refine List.ext_getElem? fun i => ?_
    unfold rangeI
    rw [List.map_map, List.getElem?_map]
    by_cases hi : i < p.toNat
    · rw [List.getElem?_range hi]
      have hi2 : i < row.length := by omega
      rw [List.getElem?_eq_getElem hi2]
      show some (row.getD ((i : Int)).toNat (-1)) = _
      rw [List.getD_eq_getElem?_getD, Int.toNat_natCast, List.getElem?_eq_getElem hi2]; rfl
    · rw [List.getElem?_eq_none (by rw [List.length_range]; omega), List.getElem?_eq_none (by omega)]; rfl
  have := List.Perm.map (fun i : Int => row.getD i.toNat (-1)) h
  rw [e] at this
  exact this
structure rowOk (p : Int) (row : List Int) : Prop where
  len : (row.length : Int) = p
  rng : ∀ x ∈ row, -1 ≤ x ∧ x ≤ 99
  dist : ∀ x ∈ row, x = -1 ∨ row.count x = 1
theorem rowOk.perm {p : Int} {row row' : List Int} (h : rowOk p row) (k : row'.Perm row) : rowOk p row' where
  len := by rw [k.length_eq]; exact h.len
  rng := fun x hx => h.rng x (k.mem_iff.mp hx)
  dist := fun x hx => by rw [k.count_eq]; exact h.dist x (k.mem_iff.mp hx)
theorem okSt.row {r : Rl} {s : Sta} (h : okSt r s) : rowOk r.places s.1 := ⟨h.len, h.rng, h.dist⟩
theorem filled_set {row : List Int} {q : Nat} {x : Int} (h : q < row.length) : filled row q x = row.set q x := by
  unfold filled
  rw [List.set_eq_take_append_cons_drop, if_pos h, List.append_assoc]; rfl
theorem rowOk.filled {p : Int} {row : List Int} {q : Nat} {x : Int} (h : rowOk p row) (hq : q < row.length) (hx : x ∉ row) (h0 : -1 ≤ x) (h1 : x ≤ 99) : rowOk p (filled row q x) := by
  rw [filled_set hq]
  refine ⟨by rw [List.length_set]; exact h.len, fun y hy => ?_, fun y hy => ?_⟩
  · rcases List.mem_or_eq_of_mem_set hy with hy | hy
    · exact h.rng y hy
    · rw [hy]; exact ⟨h0, h1⟩
  · by_cases e : y = -1
    · exact .inl e
    · refine .inr ?_
      have hpos := List.count_pos_iff.mpr hy
      rw [List.count_set hq] at hpos ⊢
      by_cases ex : y = x
      · subst ex
        rw [List.count_eq_zero.mpr hx]
        simp
      · have hyr : y ∈ row := (List.mem_or_eq_of_mem_set hy).resolve_right ex
        have hc := (h.dist y hyr).resolve_left e
        have e2 : (x == y) = false := by simp; exact fun z => ex z.symm
        rw [e2, hc] at hpos ⊢
        simp only [Bool.false_eq_true, if_false] at hpos ⊢
        split at hpos <;> rename_i hh
        · omega
        · rw [if_neg hh]
theorem lrAt_mem {r : Rl} {l : Int} (h0 : 0 ≤ l) (h1 : l < r.labels.length) : lrAt r l ∈ r.labels := by
  unfold lrAt
  have : l.toNat < r.labels.length := by omega
  rw [List.getD_eq_getElem?_getD, List.getElem?_eq_getElem this]
  exact List.getElem_mem _
theorem getD_mem {α : Type} {l : List α} {i : Nat} {d : α} (h : i < l.length) : l.getD i d ∈ l := by
  rw [List.getD_eq_getElem?_getD, List.getElem?_eq_getElem h]
  exact List.getElem_mem _
theorem placeOf_lt {r : Rl} {s : Sta} (hr : okRl r) (hs : okSt r s) : placeOf r s < s.1.length := by
  unfold placeOf
  split
  · rename_i h; exact List.idxOf_lt_length_of_mem h
  · have h := (hr.a _ (lrAt_mem hs.lab.1 hs.lab.2)).o
    have := hs.len
    omega
theorem okSt_step {r : Rl} {s : Sta} {x : Int} (hr : okRl r) (hs : okSt r s) (h0 : -1 ≤ x) (h1 : x ≤ 99) : okSt r (step r s x) := by
  have hL := hr.a _ (lrAt_mem hs.lab.1 hs.lab.2)
  unfold step
  split
  · rename_i hx
    have hi : s.1.idxOf x < (lrAt r s.2).hits.length := by
      have h2 := List.idxOf_lt_length_of_mem hx
      have h3 := hL.hl
      have h4 := hs.len
      omega
    have hm := hL.h _ (getD_mem (d := ([], 0)) hi)
    have hp := hs.row.perm (arr_perm hm.1 hs.len)
    exact ⟨hp.len, hm.2, hp.rng, hp.dist⟩
  · rename_i hx
    have hq := placeOf_lt hr hs
    have hi : placeOf r s < (lrAt r s.2).comes.length := by
      have h3 := hL.cl
      have h4 := hs.len
      omega
    have hm := hL.c _ (getD_mem (d := ([], 0)) hi)
    have hf := hs.row.filled hq hx h0 h1
    have hp := hf.perm (arr_perm hm.1 hf.len)
    exact ⟨hp.len, hm.2, hp.rng, hp.dist⟩
theorem okSt_first {r : Rl} (hr : okRl r) : okSt r (first r) := by
  have := hr.p
  have hl := hr.l
  unfold first
  refine ⟨?_, ⟨Int.le_refl _, ?_⟩, fun x hx => ?_, fun x hx => .inl (List.eq_of_mem_replicate hx)⟩
  · show ((List.replicate r.places.toNat (-1 : Int)).length : Int) = _
    rw [List.length_replicate]; omega
  · show (0 : Int) < _
    omega
  · rw [List.eq_of_mem_replicate hx]; omega
/-! runs -/
def runS (r : Rl) (s : Sta) (xs : List Int) : Sta := xs.foldl (step r) s
def runH (r : Rl) : Sta → List Int → List Bool
  | _, [] => []
  | s, x :: xs => isHit s x :: runH r (step r s x) xs
def runG (r : Rl) : Sta → List Int → List (Option Int)
  | _, [] => []
  | s, x :: xs => goneOf r s x :: runG r (step r s x) xs
def missesOf (r : Rl) (xs : List Int) : Nat := (runH r (first r) xs).count false
theorem runH_app (r : Rl) : ∀ (xs ys : List Int) (s : Sta), runH r s (xs ++ ys) = runH r s xs ++ runH r (runS r s xs) ys
  | [], _, _ => rfl
  | x :: xs, ys, s => by
    rw [List.cons_append, runH, runH_app r xs ys, runH]; rfl
theorem runG_app (r : Rl) : ∀ (xs ys : List Int) (s : Sta), runG r s (xs ++ ys) = runG r s xs ++ runG r (runS r s xs) ys
  | [], _, _ => rfl
  | x :: xs, ys, s => by
    rw [List.cons_append, runG, runG_app r xs ys, runG]; rfl
theorem runS_app (r : Rl) (xs ys : List Int) (s : Sta) : runS r s (xs ++ ys) = runS r (runS r s xs) ys := List.foldl_append
theorem runH_len (r : Rl) : ∀ (xs : List Int) (s : Sta), (runH r s xs).length = xs.length
  | [], _ => rfl
  | x :: xs, s => by rw [runH, List.length_cons, List.length_cons, runH_len r xs]
theorem runG_len (r : Rl) : ∀ (xs : List Int) (s : Sta), (runG r s xs).length = xs.length
  | [], _ => rfl
  | x :: xs, s => by rw [runG, List.length_cons, List.length_cons, runG_len r xs]
theorem okSt_run {r : Rl} (hr : okRl r) : ∀ {xs : List Int} {s : Sta}, okSt r s → (∀ x ∈ xs, 0 ≤ x ∧ x ≤ 99) → okSt r (runS r s xs)
  | [], _, h, _ => h
  | x :: xs, s, h, hx => okSt_run hr (xs := xs) (okSt_step hr h (by have := hx x (.head _); omega) (hx x (.head _)).2) (fun y hy => hx y (.tail _ hy))
end Mi
set_option maxHeartbeats 1000000
/-! M6: rules of one label. -/
namespace Mi
def frontO (p n : Nat) : List Int := (p : Int) :: (rangeI n).filter fun x => !decide (x = (p : Int))
theorem rangeI_nodup (n : Nat) : (rangeI n).Nodup := by
  unfold rangeI
  refine List.Pairwise.map _ (fun a b h z => h (Int.ofNat.inj z)) List.nodup_range
theorem mem_rangeI {n : Nat} {x : Int} : x ∈ rangeI n ↔ 0 ≤ x ∧ x < n := by
  unfold rangeI
  rw [List.mem_map]
  constructor
  · rintro ⟨i, hi, rfl⟩
    have := List.mem_range.mp hi
    omega
  · rintro ⟨h0, h1⟩
    exact ⟨x.toNat, List.mem_range.mpr (by omega), by omega⟩
theorem frontO_ok {p n : Nat} (h : p < n) : okOrder n (frontO p n) := by
  unfold okOrder
  rw [Int.toNat_natCast]
  have hm : (p : Int) ∈ rangeI n := mem_rangeI.mpr (by omega)
  have hnd := rangeI_nodup n
  unfold frontO
  refine (List.perm_ext_iff_of_nodup (List.nodup_cons.mpr ⟨by simp, hnd.filter _⟩) hnd).mpr fun x => ?_
  simp only [List.mem_cons, List.mem_filter, Bool.not_eq_true', decide_eq_false_iff_not]
  constructor
  · rintro (rfl | ⟨h1, _⟩)
    · exact hm
    · exact h1
  · intro h1
    by_cases e : x = (p : Int)
    · exact .inl e
    · exact .inr ⟨h1, e⟩
theorem rangeI_ok (n : Nat) : okOrder n (rangeI n) := by
  unfold okOrder
  rw [Int.toNat_natCast]
def oneLabel (n : Nat) (hs : List (List Int)) (out : Int) (cs : List (List Int)) : Rl := ⟨n, [⟨hs.map fun o => (o, 0), out, cs.map fun o => (o, 0)⟩]⟩
theorem oneLabel_ok {n : Nat} {hs cs : List (List Int)} {out : Int} (h1 : 1 ≤ n) (h3 : n ≤ 3) (hl : hs.length = n) (hh : ∀ o ∈ hs, okOrder n o) (cl : cs.length = n) (hc : ∀ o ∈ cs, okOrder n o) (ho : 0 ≤ out ∧ out < n) : okRl (oneLabel n hs out cs) := by
  refine ⟨⟨by show (1 : Int) ≤ n; omega, by show (n : Int) ≤ 3; omega⟩, ⟨Nat.le_refl _, by show 1 ≤ 2; omega⟩, fun x hx => ?_⟩
  have e : x = ⟨hs.map fun o => (o, 0), out, cs.map fun o => (o, 0)⟩ := by simpa [oneLabel] using hx
  subst e
  have mv : ∀ (os : List (List Int)), (∀ o ∈ os, okOrder n o) → ∀ m ∈ os.map (fun o => ((o, 0) : Mv)), okMv (oneLabel n hs out cs).places (oneLabel n hs out cs).labels.length m := fun os ho m hm => by
    obtain ⟨o, h, rfl⟩ := List.mem_map.mp hm
    exact ⟨ho o h, Int.le_refl _, by show (0 : Int) < 1; omega⟩
  exact ⟨by show ((hs.map _).length : Int) = n; rw [List.length_map, hl], mv hs hh, ho, by show ((cs.map _).length : Int) = n; rw [List.length_map, cl], mv cs hc⟩
def fronts (n : Nat) : List (List Int) := (List.range n).map fun i => frontO i n
theorem fronts_ok (n : Nat) : (fronts n).length = n ∧ ∀ o ∈ fronts n, okOrder n o := by
  unfold fronts
  refine ⟨by rw [List.length_map, List.length_range], fun o ho => ?_⟩
  obtain ⟨i, hi, rfl⟩ := List.mem_map.mp ho
  exact frontO_ok (List.mem_range.mp hi)
def queueR (n : Nat) : Rl := oneLabel n (List.replicate n (rangeI n)) ((n : Int) - 1) (fronts n)
def recentR (n : Nat) : Rl := oneLabel n (fronts n) ((n : Int) - 1) (fronts n)
def newestR (n : Nat) : Rl := oneLabel n (fronts n) 0 (fronts n)
theorem queueR_ok {n : Nat} (h1 : 1 ≤ n) (h3 : n ≤ 3) : okRl (queueR n) :=
  oneLabel_ok h1 h3 List.length_replicate (fun o ho => by rw [List.eq_of_mem_replicate ho]; exact rangeI_ok n) (fronts_ok n).1 (fronts_ok n).2 (by omega)
theorem recentR_ok {n : Nat} (h1 : 1 ≤ n) (h3 : n ≤ 3) : okRl (recentR n) := oneLabel_ok h1 h3 (fronts_ok n).1 (fronts_ok n).2 (fronts_ok n).1 (fronts_ok n).2 (by omega)
theorem newestR_ok {n : Nat} (h1 : 1 ≤ n) (h3 : n ≤ 3) : okRl (newestR n) := oneLabel_ok h1 h3 (fronts_ok n).1 (fronts_ok n).2 (fronts_ok n).1 (fronts_ok n).2 (by omega)
end Mi
set_option maxHeartbeats 1000000
/-! M7: numbering anew. -/
namespace Mi
def ks : List Int → List Int → List Int
  | l, [] => l
  | l, t :: ts => ks (if t ∈ l then l else l ++ [t]) ts
def numb (l : List Int) : List (Int × Int) := l.mapIdx fun i t => (t, (i : Int) - 1)
theorem numb_length (l : List Int) : (numb l).length = l.length := by unfold numb; rw [List.length_mapIdx]
theorem numb_snoc (l : List Int) (t : Int) : numb (l ++ [t]) = numb l ++ [(t, (l.length : Int) - 1)] := by
  unfold numb
  rw [List.mapIdx_append]
  simp
theorem lookup_off (l : List Int) (t : Int) (k : Nat) : (l.mapIdx fun i t => (t, ((i + k : Nat) : Int) - 1)).lookup t = if t ∈ l then some (((l.idxOf t + k : Nat) : Int) - 1) else none := by
  induction l generalizing k with
  | nil => rfl
  | cons x l ih =>
    rw [List.mapIdx_cons, List.lookup_cons]
    by_cases h : t = x
    · subst h
      simp
    · have h2 : (t == x) = false := by simp; exact h
      have h3 : (x == t) = false := by simp; exact fun z => h z.symm
      rw [h2]
      have := ih (k + 1)
      have e : (l.mapIdx fun i t => (t, ((i + 1 + k : Nat) : Int) - 1)) = l.mapIdx fun i t => (t, ((i + (k + 1) : Nat) : Int) - 1) := by
        congr 1; funext i t; rw [show i + 1 + k = i + (k + 1) by omega]
      simp only [e, this, List.mem_cons, h, false_or, List.idxOf_cons, h3, cond_false]
      split
      · rw [show l.idxOf t + 1 + k = l.idxOf t + (k + 1) by omega]
      · rfl
theorem lookup_numb (l : List Int) (t : Int) : (numb l).lookup t = if t ∈ l then some ((l.idxOf t : Int) - 1) else none := by
  have := lookup_off l t 0
  exact this
theorem nums_ks : ∀ (ts l : List Int), nums (numb l) ts = numb (ks l ts)
  | [], l => rfl
  | t :: ts, l => by
    rw [nums, ks, lookup_numb]
    by_cases h : t ∈ l
    · rw [if_pos h, if_pos h]; exact nums_ks ts l
    · rw [if_neg h, if_neg h, numb_length]
      show nums (numb l ++ [(t, (l.length : Int) - 1)]) ts = _
      rw [← numb_snoc]
      exact nums_ks ts (l ++ [t])
def kys (n : Nd) : List Int := ks [-1] (n.1.1 ++ n.2.1)
def nu (n : Nd) (t : Int) : Int := ((kys n).idxOf t : Int) - 1
theorem ks_mem_l : ∀ {ts l : List Int} {t : Int}, t ∈ l → t ∈ ks l ts
  | [], _, _, h => h
  | x :: ts, l, t, h => ks_mem_l (ts := ts) (by split; exact h; exact List.mem_append_left _ h)
theorem ks_mem : ∀ {ts l : List Int} {t : Int}, t ∈ ts → t ∈ ks l ts
  | x :: ts, l, t, h => by
    rcases List.mem_cons.mp h with h | h
    · subst h
      refine ks_mem_l (ts := ts) ?_
      split
      · assumption
      · simp
    · exact ks_mem (ts := ts) h
theorem ks_pre : ∀ (ts l : List Int), ∃ m, ks l ts = l ++ m
  | [], l => ⟨[], by simp [ks]⟩
  | t :: ts, l => by
    rw [ks]
    split
    · exact ks_pre ts l
    · obtain ⟨m, e⟩ := ks_pre ts (l ++ [t])
      exact ⟨[t] ++ m, by rw [e, List.append_assoc]⟩
theorem ks_length : ∀ (ts l : List Int), (ks l ts).length ≤ l.length + ts.length
  | [], l => by simp [ks]
  | t :: ts, l => by
    rw [ks]
    split
    · have := ks_length ts l; simp; omega
    · have := ks_length ts (l ++ [t]); simp at this ⊢; omega
theorem idx_inj {l : List Int} {s t : Int} (hs : s ∈ l) (ht : t ∈ l) (h : l.idxOf s = l.idxOf t) : s = t := by
  have h1 := List.getElem_idxOf (List.idxOf_lt_length_of_mem hs)
  have h2 := List.getElem_idxOf (List.idxOf_lt_length_of_mem ht)
  rw [← h1, ← h2]
  congr 1
theorem nu_blank (n : Nd) : nu n (-1) = -1 := by
  obtain ⟨m, e⟩ := ks_pre (n.1.1 ++ n.2.1) [-1]
  unfold nu kys
  rw [e]
  simp
theorem kys_blank (n : Nd) : (-1) ∈ kys n := ks_mem_l (by simp)
theorem kys_mem (n : Nd) {t : Int} (h : t ∈ n.1.1 ++ n.2.1) : t ∈ kys n := ks_mem h
theorem nu_inj (n : Nd) {s t : Int} (hs : s ∈ kys n) (ht : t ∈ kys n) (h : nu n s = nu n t) : s = t := idx_inj hs ht (by unfold nu at h; omega)
theorem nu_ge (n : Nd) (t : Int) : -1 ≤ nu n t := by unfold nu; omega
theorem nu_lt (n : Nd) {t : Int} (h : t ∈ kys n) : nu n t < n.1.1.length + n.2.1.length := by
  have h1 := List.idxOf_lt_length_of_mem h
  have h2 := ks_length (n.1.1 ++ n.2.1) [-1]
  rw [List.length_append] at h2
  unfold kys at h1
  simp only [List.length_singleton] at h2
  unfold nu kys
  omega
/-- renaming -/
def renS (r : Int → Int) (s : Sta) : Sta := (s.1.map r, s.2)
def ren (r : Int → Int) (n : Nd) : Nd := (renS r n.1, renS r n.2)
theorem numOf_nu (n : Nd) {t : Int} (h : t ∈ kys n) : numOf (numsOf n) t = nu n t := by
  unfold numOf numsOf
  have : nums [(-1, -1)] (n.1.1 ++ n.2.1) = numb (kys n) := nums_ks (n.1.1 ++ n.2.1) [-1]
  rw [this, lookup_numb, if_pos h]; rfl
theorem named_ren (n : Nd) : named n = ren (nu n) n := by
  unfold named ren renS
  rw [List.map_congr_left (fun t ht => numOf_nu n (kys_mem n (List.mem_append_left _ ht))), List.map_congr_left (fun t ht => numOf_nu n (kys_mem n (List.mem_append_right _ ht)))]
def Inj (r : Int → Int) (l : List Int) : Prop := ∀ s ∈ l, ∀ t ∈ l, r s = r t → s = t
theorem ks_ren {r : Int → Int} : ∀ {ts l : List Int}, Inj r (l ++ ts) → ks (l.map r) (ts.map r) = (ks l ts).map r
  | [], l, _ => rfl
  | t :: ts, l, h => by
    have e : (r t ∈ l.map r) ↔ t ∈ l := by
      constructor
      · intro z
        obtain ⟨s, h1, h2⟩ := List.mem_map.mp z
        have := h s (List.mem_append_left _ h1) t (by simp) h2
        rwa [← this]
      · exact fun z => List.mem_map_of_mem z
    rw [List.map_cons, ks, ks]
    by_cases z : t ∈ l
    · rw [if_pos z, if_pos (e.mpr z)]
      exact ks_ren fun s hs u hu => h s (by simp at hs ⊢; rcases hs with hs | hs <;> simp [hs]) u (by simp at hu ⊢; rcases hu with hu | hu <;> simp [hu])
    · rw [if_neg z, if_neg fun q => z (e.mp q)]
      have := ks_ren (r := r) (ts := ts) (l := l ++ [t]) (fun s hs u hu => h s (by simpa using hs) u (by simpa using hu))
      rw [List.map_append] at this
      exact this
theorem idx_ren {r : Int → Int} : ∀ {l : List Int} {t : Int}, (∀ s ∈ l, r s = r t → s = t) → (l.map r).idxOf (r t) = l.idxOf t
  | [], _, _ => rfl
  | x :: l, t, h => by
    rw [List.map_cons, List.idxOf_cons, List.idxOf_cons]
    by_cases e : x = t
    · subst e; simp
    · have h1 : (r x == r t) = false := by
        simp; exact fun z => e (h x (by simp) z)
      have h2 : (x == t) = false := by simp; exact e
      rw [h1, h2, cond_false, cond_false, idx_ren fun s hs => h s (List.mem_cons_of_mem _ hs)]
theorem ks_sub : ∀ {ts l : List Int} {t : Int}, t ∈ ks l ts → t ∈ l ++ ts
  | [], l, t, h => by simpa [ks] using h
  | x :: ts, l, t, h => by
    have := ks_sub (ts := ts) h
    by_cases z : x ∈ l
    · rw [if_pos z] at this
      simp at this ⊢; rcases this with h | h <;> simp [h]
    · rw [if_neg z] at this
      simpa using this
/-- things of an arrangement, and blank -/
def thg (n : Nd) : List Int := -1 :: (n.1.1 ++ n.2.1)
theorem kys_thg {n : Nd} {t : Int} : t ∈ kys n ↔ t ∈ thg n := by
  refine ⟨fun h => ks_sub (ts := n.1.1 ++ n.2.1) (l := [-1]) h, fun h => ?_⟩
  unfold thg at h
  rcases List.mem_cons.mp h with h | h
  · rw [h]; exact kys_blank n
  · exact kys_mem n h
theorem kys_ren {r : Int → Int} {n : Nd} (h0 : r (-1) = -1) (h : Inj r (thg n)) : kys (ren r n) = (kys n).map r := by
  unfold kys ren renS
  show ks [-1] (n.1.1.map r ++ n.2.1.map r) = _
  rw [← List.map_append]
  have := ks_ren (r := r) (ts := n.1.1 ++ n.2.1) (l := [-1]) h
  rw [List.map_singleton, h0] at this
  exact this
theorem nu_ren {r : Int → Int} {n : Nd} (h0 : r (-1) = -1) (h : Inj r (thg n)) {t : Int} (ht : t ∈ thg n) : nu (ren r n) (r t) = nu n t := by
  unfold nu
  rw [kys_ren h0 h, idx_ren fun s hs e => h s (kys_thg.mp hs) t ht e]
theorem renS_comp {q r : Int → Int} {s : Sta} {p : Int → Int} (h : ∀ t ∈ s.1, q (r t) = p t) : renS q (renS r s) = renS p s := by
  unfold renS
  simp only [List.map_map]
  rw [List.map_congr_left (f := q ∘ r) (g := p) fun t ht => h t ht]
/-- renaming changes no names -/
theorem named_of_ren {r : Int → Int} {n : Nd} (h0 : r (-1) = -1) (h : Inj r (thg n)) : named (ren r n) = named n := by
  rw [named_ren, named_ren n]
  show (renS (nu (ren r n)) (renS r n.1), renS (nu (ren r n)) (renS r n.2)) = (renS (nu n) n.1, renS (nu n) n.2)
  rw [renS_comp fun t ht => nu_ren h0 h (by unfold thg; simp [ht]), renS_comp fun t ht => nu_ren h0 h (by unfold thg; simp [ht])]
theorem nu_Inj (n : Nd) : Inj (nu n) (thg n) := fun s hs t ht e => nu_inj n (kys_thg.mpr hs) (kys_thg.mpr ht) e
theorem named_named (n : Nd) : named (named n) = named n := by
  conv => lhs; rw [named_ren n]
  exact named_of_ren (nu_blank n) (nu_Inj n)
end Mi
set_option maxHeartbeats 1000000
/-! M8: moves keep arrangements; requests are walks. -/
namespace Mi
theorem getD_ren {r : Int → Int} (h0 : r (-1) = -1) (l : List Int) (i : Nat) : (l.map r).getD i (-1) = r (l.getD i (-1)) := by
  rw [List.getD_eq_getElem?_getD, List.getD_eq_getElem?_getD, List.getElem?_map]
  cases l[i]? with
  | none => exact h0.symm
  | some v => rfl
theorem arr_ren {r : Int → Int} (h0 : r (-1) = -1) (row o : List Int) : arr (row.map r) o = (arr row o).map r := by
  unfold arr
  rw [List.map_map]
  exact List.map_congr_left fun i _ => getD_ren h0 row i.toNat
theorem filled_ren {r : Int → Int} (row : List Int) (q : Nat) (x : Int) : filled (row.map r) q (r x) = (filled row q x).map r := by
  unfold filled
  simp [List.map_take, List.map_drop]
theorem mem_ren {r : Int → Int} {row : List Int} {x : Int} (h : ∀ s ∈ row, r s = r x → s = x) : r x ∈ row.map r ↔ x ∈ row := by
  constructor
  · intro z
    obtain ⟨s, h1, h2⟩ := List.mem_map.mp z
    rw [← h s h1 h2]; exact h1
  · exact fun z => List.mem_map_of_mem z
theorem placeOf_ren {r : Int → Int} (R : Rl) {s : Sta} (h0 : r (-1) = -1) (h : ∀ t ∈ s.1, r t = -1 → t = -1) : placeOf R (renS r s) = placeOf R s := by
  have e : ((-1 : Int) ∈ s.1.map r) ↔ (-1 : Int) ∈ s.1 := by
    have := mem_ren (r := r) (row := s.1) (x := -1) (by rw [h0]; exact h)
    rwa [h0] at this
  have e2 : (s.1.map r).idxOf (-1) = s.1.idxOf (-1) := by
    have := idx_ren (r := r) (l := s.1) (t := -1) (by rw [h0]; exact h)
    rwa [h0] at this
  unfold placeOf renS
  show (if -1 ∈ s.1.map r then (s.1.map r).idxOf (-1) else _) = _
  rw [e2]
  by_cases z : (-1 : Int) ∈ s.1
  · rw [if_pos z, if_pos (e.mpr z)]
  · rw [if_neg z, if_neg fun q => z (e.mp q)]
theorem step_ren {r : Int → Int} (R : Rl) {s : Sta} {x : Int} (h0 : r (-1) = -1) (hb : ∀ t ∈ s.1, r t = -1 → t = -1) (hx : ∀ t ∈ s.1, r t = r x → t = x) : step R (renS r s) (r x) = renS r (step R s x) ∧ isHit (renS r s) (r x) = isHit s x := by
  have e := mem_ren hx
  have ei := idx_ren hx
  refine ⟨?_, ?_⟩
  · unfold step
    show (if r x ∈ s.1.map r then _ else _) = _
    by_cases z : x ∈ s.1
    · rw [if_pos (e.mpr z), if_pos z]
      unfold stepHit
      show (arr (s.1.map r) ((lrAt R s.2).hits.getD ((s.1.map r).idxOf (r x)) ([], 0)).1, ((lrAt R s.2).hits.getD ((s.1.map r).idxOf (r x)) ([], 0)).2) = _
      rw [ei, arr_ren h0]; rfl
    · rw [if_neg fun q => z (e.mp q), if_neg z]
      unfold stepMiss
      rw [placeOf_ren R h0 hb]
      show (arr (filled (s.1.map r) _ (r x)) _, _) = _
      rw [filled_ren, arr_ren h0]; rfl
  · unfold isHit
    show decide (r x ∈ s.1.map r) = _
    by_cases z : x ∈ s.1
    · rw [decide_eq_true z, decide_eq_true (e.mpr z)]
    · rw [decide_eq_false z, decide_eq_false fun q => z (e.mp q)]
/-- rows renamed stay rows -/
theorem rowOk.ren {r : Int → Int} {p : Int} {row : List Int} (h : rowOk p row) (h0 : r (-1) = -1) (hr : ∀ x ∈ row, -1 ≤ r x ∧ r x ≤ 99) (hi : ∀ s ∈ row, ∀ t ∈ row, r s = r t → s = t) : rowOk p (row.map r) where
  len := by rw [List.length_map]; exact h.len
  rng := fun x hx => by
    obtain ⟨s, h1, rfl⟩ := List.mem_map.mp hx
    exact hr s h1
  dist := fun x hx => by
    obtain ⟨s, h1, rfl⟩ := List.mem_map.mp hx
    rcases h.dist s h1 with z | z
    · left; rw [z, h0]
    · right
      rw [List.count_eq_countP, List.countP_map]
      rw [List.count_eq_countP] at z
      rw [← z]
      refine List.countP_congr fun t ht => ?_
      simp only [Function.comp_apply, beq_iff_eq]
      exact ⟨fun e => hi t ht s h1 e, fun e => by rw [e]⟩
theorem okSt_of {r : Rl} {s : Sta} (h : rowOk r.places s.1) (hl : 0 ≤ s.2 ∧ s.2 < r.labels.length) : okSt r s := ⟨h.len, hl, h.rng, h.dist⟩
/-- naming two states makes an arrangement -/
theorem okNd_named {a b : Rl} {n : Nd} (ha : okRl a) (hb : okRl b) (hx : okSt a n.1) (hy : okSt b n.2) : okNd a b (named n) := by
  have hl : (n.1.1.length : Int) + n.2.1.length ≤ 6 := by
    have := hx.len; have := hy.len; have := ha.p; have := hb.p
    omega
  have hm1 : ∀ t ∈ n.1.1, t ∈ kys n := fun t ht => kys_mem n (List.mem_append_left _ ht)
  have hm2 : ∀ t ∈ n.2.1, t ∈ kys n := fun t ht => kys_mem n (List.mem_append_right _ ht)
  refine ⟨?_, ?_, named_named n⟩
  · rw [named_ren]
    exact okSt_of (hx.row.ren (nu_blank n) (fun x h => ⟨nu_ge n x, by have := nu_lt n (hm1 x h); omega⟩) fun s hs t ht e => nu_inj n (hm1 s hs) (hm1 t ht) e) hx.lab
  · rw [named_ren]
    exact okSt_of (hy.row.ren (nu_blank n) (fun x h => ⟨nu_ge n x, by have := nu_lt n (hm2 x h); omega⟩) fun s hs t ht e => nu_inj n (hm2 s hs) (hm2 t ht) e) hy.lab
theorem maxI_ge : ∀ (l : List Int), -1 ≤ maxI l ∧ ∀ x ∈ l, x ≤ maxI l
  | [] => ⟨Int.le_refl _, fun x hx => by cases hx⟩
  | x :: xs => by
    obtain ⟨h1, h2⟩ := maxI_ge xs
    unfold maxI
    split
    · exact ⟨by omega, fun y hy => by
        rcases List.mem_cons.mp hy with e | e
        · omega
        · have := h2 y e; omega⟩
    · exact ⟨h1, fun y hy => by
        rcases List.mem_cons.mp hy with e | e
        · omega
        · exact h2 y e⟩
theorem maxI_le {l : List Int} {m : Int} (h0 : -1 ≤ m) (h : ∀ x ∈ l, x ≤ m) : maxI l ≤ m := by
  induction l with
  | nil => exact h0
  | cons x l ih =>
    unfold maxI
    split
    · exact h x (.head _)
    · exact ih fun y hy => h y (.tail _ hy)
theorem howMany_rng {a b : Rl} {n : Nd} (ha : okRl a) (hb : okRl b) (h : okNd a b n) : 0 ≤ howMany n ∧ howMany n ≤ 6 ∧ ∀ x ∈ thg n, x < howMany n := by
  have h1 := maxI_ge (n.1.1 ++ n.2.1)
  have hl : (n.1.1.length : Int) + n.2.1.length ≤ 6 := by
    have := h.x.len; have := h.y.len; have := ha.p; have := hb.p
    omega
  have h2 : maxI (n.1.1 ++ n.2.1) ≤ 5 := maxI_le (by decide) fun x hx => by
    have e : n = ren (nu n) n := h.nm.symm.trans (named_ren n)
    have hx2 : x ∈ (ren (nu n) n).1.1 ++ (ren (nu n) n).2.1 := by rw [← e]; exact hx
    have hx3 : x ∈ (n.1.1 ++ n.2.1).map (nu n) := by rw [List.map_append]; exact hx2
    obtain ⟨t, ht, rfl⟩ := List.mem_map.mp hx3
    have := nu_lt n (kys_mem n ht)
    omega
  unfold howMany
  refine ⟨by omega, by omega, fun x hx => ?_⟩
  unfold thg at hx
  rcases List.mem_cons.mp hx with e | e
  · omega
  · have := h1.2 x e; omega
theorem okNd_moved {a b : Rl} {n : Nd} {k : Int} (ha : okRl a) (hb : okRl b) (h : okNd a b n) (h0 : 0 ≤ k) (h1 : k ≤ howMany n) : okNd a b (movedTo a b n k) := by
  have := howMany_rng ha hb h
  exact okNd_named ha hb (okSt_step ha h.x (by omega) (by omega)) (okSt_step hb h.y (by omega) (by omega))
theorem named_fst (a b : Rl) : named (fstNd a b) = fstNd a b := by
  rw [named_ren]
  unfold ren renS fstNd first
  simp only [List.map_replicate, nu_blank]
theorem okNd_fst {a b : Rl} (ha : okRl a) (hb : okRl b) : okNd a b (fstNd a b) := ⟨okSt_first ha, okSt_first hb, named_fst a b⟩
theorem okPath_snoc {a b : Rl} (ha : okRl a) (hb : okRl b) {n : Nd} {xs : List Int} {k : Int} (h : okPath a b n xs) (h0 : 0 ≤ k) (h1 : k ≤ howMany (pathE a b n xs)) : okPath a b n (xs ++ [k]) :=
  okPath_app.mpr ⟨h, okPath_end h, h0, h1, okNd_moved ha hb (okPath_end h) h0 h1⟩
/-! requests are walks -/
def numR (n : Nd) (x : Int) : Int := if x ∈ n.1.1 ++ n.2.1 then nu n x else howMany (named n)
theorem req_step {a b : Rl} {n : Nd} {x : Int} (ha : okRl a) (hb : okRl b) (hx : okSt a n.1) (hy : okSt b n.2) (h0 : 0 ≤ x) :
    0 ≤ numR n x ∧ numR n x ≤ howMany (named n) ∧ movedTo a b (named n) (numR n x) = named (step a n.1 x, step b n.2 x) ∧ isHit (named n).1 (numR n x) = isHit n.1 x ∧ isHit (named n).2 (numR n x) = isHit n.2 x := by
  have hN := okNd_named ha hb hx hy
  obtain ⟨g0, g6, gt⟩ := howMany_rng ha hb hN
  have xb : x ≠ -1 := by omega
  have en := named_ren n
  -- the renaming, widened
  let r : Int → Int := fun t => if t = x then numR n x else nu n t
  have hthg : ∀ t ∈ thg n, nu n t ∈ thg (named n) := fun t ht => by
    rw [en]
    unfold thg at ht ⊢
    rcases List.mem_cons.mp ht with e | e
    · rw [e, nu_blank]; exact List.mem_cons_self ..
    · refine List.mem_cons_of_mem _ ?_
      show nu n t ∈ n.1.1.map (nu n) ++ n.2.1.map (nu n)
      rw [← List.map_append]
      exact List.mem_map_of_mem e
  have r1 : ∀ t ∈ thg n, r t = nu n t := fun t ht => by
    show (if t = x then numR n x else nu n t) = _
    split
    · rename_i e
      subst e
      unfold numR
      have : t ∈ n.1.1 ++ n.2.1 := by
        unfold thg at ht
        rcases List.mem_cons.mp ht with e | e
        · exact absurd e xb
        · exact e
      rw [if_pos this]
    · rfl
  have rx : r x = numR n x := if_pos rfl
  have hinj : ∀ t ∈ thg n, r t = r x → t = x := fun t ht e => by
    rw [rx, r1 t ht] at e
    unfold numR at e
    split at e
    · rename_i hx2
      exact nu_Inj n t ht x (List.mem_cons_of_mem _ hx2) e
    · have := gt _ (hthg t ht)
      omega
  have r0 : r (-1) = -1 := by rw [r1 (-1) (List.mem_cons_self ..), nu_blank]
  have hb2 : ∀ t ∈ thg n, r t = -1 → t = -1 := fun t ht e => by
    rw [r1 t ht, ← nu_blank n] at e
    exact nu_Inj n t ht (-1) (List.mem_cons_self ..) e
  have en2 : named n = ren r n := by
    rw [en]
    unfold ren renS
    rw [List.map_congr_left (f := nu n) (g := r) fun t ht => (r1 t (by unfold thg; simp [ht])).symm, List.map_congr_left (f := nu n) (g := r) fun t ht => (r1 t (by unfold thg; simp [ht])).symm]
  have m1 : ∀ t ∈ n.1.1, t ∈ thg n := fun t ht => by unfold thg; simp [ht]
  have m2 : ∀ t ∈ n.2.1, t ∈ thg n := fun t ht => by unfold thg; simp [ht]
  have s1 := step_ren (r := r) a (s := n.1) (x := x) r0 (fun t ht => hb2 t (m1 t ht)) (fun t ht => hinj t (m1 t ht))
  have s2 := step_ren (r := r) b (s := n.2) (x := x) r0 (fun t ht => hb2 t (m2 t ht)) (fun t ht => hinj t (m2 t ht))
  rw [rx] at s1 s2
  have lo : 0 ≤ numR n x := by
    unfold numR
    split
    · rename_i hx2
      have h1 := nu_ge n x
      have h2 : nu n x ≠ -1 := fun e => xb (nu_Inj n x (List.mem_cons_of_mem _ hx2) (-1) (List.mem_cons_self ..) (by rw [e, nu_blank]))
      omega
    · exact g0
  have hi : numR n x ≤ howMany (named n) := by
    unfold numR
    split
    · rename_i hx2
      have := gt _ (hthg x (List.mem_cons_of_mem _ hx2))
      omega
    · exact Int.le_refl _
  refine ⟨lo, hi, ?_, ?_, ?_⟩
  · unfold movedTo
    rw [en2]
    show named (step a (renS r n.1) _, step b (renS r n.2) _) = _
    rw [s1.1, s2.1]
    -- things after the step are things before, or x
    have sub : ∀ (R : Rl) (s : Sta), okRl R → okSt R s → ∀ t ∈ (step R s x).1, t = -1 ∨ t = x ∨ t ∈ s.1 := fun R s hR hs t ht => by
      unfold step at ht
      have hL := hR.a _ (lrAt_mem hs.lab.1 hs.lab.2)
      split at ht
      · rename_i hin
        unfold stepHit arr at ht
        obtain ⟨i, _, e⟩ := List.mem_map.mp ht
        rw [List.getD_eq_getElem?_getD] at e
        cases z : s.1[i.toNat]? with
        | none => rw [z] at e; exact .inl e.symm
        | some v => rw [z] at e; exact .inr (.inr (by rw [← show v = t from e]; exact List.mem_of_getElem? z))
      · rename_i hin
        unfold stepMiss arr at ht
        obtain ⟨i, _, e⟩ := List.mem_map.mp ht
        rw [List.getD_eq_getElem?_getD] at e
        cases z : (filled s.1 (placeOf R s) x)[i.toNat]? with
        | none => rw [z] at e; exact .inl e.symm
        | some v =>
          rw [z] at e
          have hv : v ∈ filled s.1 (placeOf R s) x := List.mem_of_getElem? z
          have e : v = t := e
          rw [e] at hv
          unfold filled at hv
          simp only [List.mem_append, List.mem_singleton] at hv
          rcases hv with (h | h) | h
          · exact .inr (.inr (List.mem_of_mem_take h))
          · exact .inr (.inl h)
          · exact .inr (.inr (List.mem_of_mem_drop h))
    have sub2 : ∀ t ∈ thg (step a n.1 x, step b n.2 x), t = x ∨ t ∈ thg n := fun t ht => by
      unfold thg at ht ⊢
      simp only [List.mem_cons, List.mem_append] at ht ⊢
      rcases ht with h | h | h
      · exact .inr (.inl h)
      · rcases sub a n.1 ha hx t h with h | h | h
        · exact .inr (.inl h)
        · exact .inl h
        · exact .inr (.inr (.inl h))
      · rcases sub b n.2 hb hy t h with h | h | h
        · exact .inr (.inl h)
        · exact .inl h
        · exact .inr (.inr (.inr h))
    refine named_of_ren (n := (step a n.1 x, step b n.2 x)) r0 fun s hs t ht e => ?_
    rcases sub2 s hs with h1 | h1 <;> rcases sub2 t ht with h2 | h2
    · rw [h1, h2]
    · rw [h1] at e; rw [h1, hinj t h2 e.symm]
    · rw [h2] at e; rw [h2, hinj s h1 e]
    · rw [r1 s h1, r1 t h2] at e
      exact nu_Inj n s h1 t h2 e
  · rw [en2]; exact s1.2
  · rw [en2]; exact s2.2
/-- the walk of requests -/
def walkR (a b : Rl) : Nd → List Int → List Int
  | _, [] => []
  | n, x :: xs => numR n x :: walkR a b (step a n.1 x, step b n.2 x) xs
theorem walkR_len (a b : Rl) : ∀ (xs : List Int) (n : Nd), (walkR a b n xs).length = xs.length
  | [], _ => rfl
  | x :: xs, n => by rw [walkR, List.length_cons, List.length_cons, walkR_len a b xs]
def mineS (ss : List Stp) : Int := (ss.map (·.mine)).sum
def itsS (ss : List Stp) : Int := (ss.map (·.its)).sum
theorem count_b01 (h : Bool) (l : List Bool) : (((h :: l).count false : Nat) : Int) = b01 h + (l.count false : Nat) := by
  rw [List.count_cons]
  cases h <;> simp [b01]; omega
theorem walkR_ok {a b : Rl} (ha : okRl a) (hb : okRl b) : ∀ (xs : List Int) (n : Nd), okSt a n.1 → okSt b n.2 → (∀ x ∈ xs, 0 ≤ x ∧ x ≤ 99) → okPath a b (named n) (walkR a b n xs) ∧
    mineS (pathS a b (named n) (walkR a b n xs)) = ((runH a n.1 xs).count false : Nat) ∧ itsS (pathS a b (named n) (walkR a b n xs)) = ((runH b n.2 xs).count false : Nat)
  | [], n, hx, hy, _ => ⟨okNd_named ha hb hx hy, rfl, rfl⟩
  | x :: xs, n, hx, hy, hr => by
    have hx0 := hr x (.head _)
    obtain ⟨q0, q1, q2, q3, q4⟩ := req_step ha hb hx hy hx0.1
    have k1 := okSt_step ha hx (x := x) (by omega) hx0.2
    have k2 := okSt_step hb hy (x := x) (by omega) hx0.2
    obtain ⟨i1, i2, i3⟩ := walkR_ok ha hb xs (step a n.1 x, step b n.2 x) k1 k2 fun y hy => hr y (.tail _ hy)
    refine ⟨⟨okNd_named ha hb hx hy, q0, q1, by rw [q2]; exact i1⟩, ?_, ?_⟩
    · show b01 (isHit (named n).1 (numR n x)) + mineS (pathS a b (movedTo a b (named n) (numR n x)) _) = _
      rw [q2, q3, i2]
      exact (count_b01 _ _).symm
    · show b01 (isHit (named n).2 (numR n x)) + itsS (pathS a b (movedTo a b (named n) (numR n x)) _) = _
      rw [q2, q4, i3]
      exact (count_b01 _ _).symm
/-- the walk of requests from the beginning -/
theorem walk_of_req {a b : Rl} (ha : okRl a) (hb : okRl b) (xs : List Int) (hr : ∀ x ∈ xs, 0 ≤ x ∧ x ≤ 99) : ∃ ks : List Int, ks.length = xs.length ∧ okPath a b (fstNd a b) ks ∧ mineS (pathS a b (fstNd a b) ks) = (missesOf a xs : Nat) ∧ itsS (pathS a b (fstNd a b) ks) = (missesOf b xs : Nat) := by
  have := walkR_ok ha hb xs (fstNd a b) (okSt_first ha) (okSt_first hb) hr
  rw [named_fst] at this
  exact ⟨_, walkR_len a b xs _, this⟩
end Mi
set_option maxHeartbeats 1000000
/-! M9: few arrangements; the graph ends. -/
namespace Mi
/-! all lists that are numbered as they come -/
def grow : Nat → Nat → List (List Int)
  | _, 0 => [[]]
  | c, m + 1 => (List.range (c + 2)).flatMap fun i => (grow (max c i) m).map fun l => ((i : Int) - 1) :: l
def Grw : Nat → List Int → Prop
  | _, [] => True
  | c, x :: xs => -1 ≤ x ∧ x ≤ c ∧ Grw (max c (x + 1).toNat) xs
theorem grow_mem : ∀ {l : List Int} {c : Nat}, Grw c l → l ∈ grow c l.length
  | [], c, _ => by simp [grow]
  | x :: xs, c, ⟨h0, h1, h2⟩ => by
    show x :: xs ∈ grow c (xs.length + 1)
    rw [grow]
    refine List.mem_flatMap.mpr ⟨(x + 1).toNat, List.mem_range.mpr (by omega), ?_⟩
    refine List.mem_map.mpr ⟨xs, grow_mem h2, ?_⟩
    rw [show (((x + 1).toNat : Nat) : Int) - 1 = x by omega]
theorem grw_ks : ∀ (ts l K : List Int), l ≠ [] → (∃ m, K = ks l ts ++ m) → Grw (l.length - 1) (ts.map fun t => (K.idxOf t : Int) - 1)
  | [], l, K, _, _ => trivial
  | t :: ts, l, K, hl, ⟨m, hK⟩ => by
    have hl0 : 0 < l.length := List.length_pos_iff.mpr hl
    rw [List.map_cons]
    by_cases h : t ∈ l
    · rw [ks, if_pos h] at hK
      obtain ⟨m2, e2⟩ := ks_pre ts l
      have ei : K.idxOf t = l.idxOf t := by
        rw [hK, e2, List.append_assoc, List.idxOf_append, if_pos h]
      have hlt := List.idxOf_lt_length_of_mem h
      refine ⟨by omega, by rw [ei]; omega, ?_⟩
      rw [show max (l.length - 1) ((K.idxOf t : Int) - 1 + 1).toNat = l.length - 1 by rw [ei]; omega]
      exact grw_ks ts l K hl ⟨m, hK⟩
    · rw [ks, if_neg h] at hK
      obtain ⟨m2, e2⟩ := ks_pre ts (l ++ [t])
      have ei : K.idxOf t = l.length := by
        rw [hK, e2, List.append_assoc, List.append_assoc, List.idxOf_append, if_neg h]
        simp
      refine ⟨by omega, by rw [ei]; omega, ?_⟩
      have := grw_ks ts (l ++ [t]) K (by simp) ⟨m, hK⟩
      rw [List.length_append, List.length_singleton] at this
      rw [show max (l.length - 1) ((K.idxOf t : Int) - 1 + 1).toNat = l.length + 1 - 1 by rw [ei]; omega]
      exact this
def distB (row : List Int) : Bool := row.all fun x => decide (x = -1) || decide (row.count x = 1)
def cand (p q : Nat) : List (List Int) := (grow 0 (p + q)).filter fun l => distB (l.take p) && distB (l.drop p)
def allNd (p q : Nat) : List Nd := [0, 1].flatMap fun (i : Int) => [0, 1].flatMap fun (j : Int) => (cand p q).map fun l => ((l.take p, i), (l.drop p, j))
theorem dist_B {p : Int} {row : List Int} (h : rowOk p row) : distB row = true := by
  unfold distB
  rw [List.all_eq_true]
  intro x hx
  rcases h.dist x hx with e | e
  · rw [decide_eq_true e]; rfl
  · rw [decide_eq_true e, Bool.or_true]
theorem allNd_mem {a b : Rl} {n : Nd} (ha : okRl a) (hb : okRl b) (h : okNd a b n) : n ∈ allNd a.places.toNat b.places.toNat := by
  obtain ⟨⟨r1, i⟩, ⟨r2, j⟩⟩ := n
  have l1 : r1.length = a.places.toNat := by have h1 : (r1.length : Int) = _ := h.x.len; omega
  have l2 : r2.length = b.places.toNat := by have h1 : (r2.length : Int) = _ := h.y.len; omega
  have hi : i = 0 ∨ i = 1 := by have h1 : 0 ≤ i ∧ i < _ := h.x.lab; have := ha.l; omega
  have hj : j = 0 ∨ j = 1 := by have h1 : 0 ≤ j ∧ j < _ := h.y.lab; have := hb.l; omega
  have g : Grw 0 (r1 ++ r2) := by
    have := grw_ks (r1 ++ r2) [-1] (ks [-1] (r1 ++ r2)) (by simp) ⟨[], by rw [List.append_nil]⟩
    have e : (r1 ++ r2).map (fun t => ((ks [-1] (r1 ++ r2)).idxOf t : Int) - 1) = r1 ++ r2 := by
      have e1 := h.nm
      rw [named_ren] at e1
      have e2 : r1.map (nu ((r1, i), (r2, j))) = r1 := congrArg (fun n : Nd => n.1.1) e1
      have e3 : r2.map (nu ((r1, i), (r2, j))) = r2 := congrArg (fun n : Nd => n.2.1) e1
      rw [List.map_append]
      show r1.map (nu ((r1, i), (r2, j))) ++ r2.map (nu ((r1, i), (r2, j))) = _
      rw [e2, e3]
    rw [e] at this
    exact this
  have m := grow_mem g
  rw [List.length_append, l1, l2] at m
  have t1 : (r1 ++ r2).take a.places.toNat = r1 := by rw [← l1, List.take_left]
  have t2 : (r1 ++ r2).drop a.places.toNat = r2 := by rw [← l1, List.drop_left]
  have hc : r1 ++ r2 ∈ cand a.places.toNat b.places.toNat := by
    unfold cand
    refine List.mem_filter.mpr ⟨m, ?_⟩
    rw [t1, t2, dist_B h.x.row, dist_B h.y.row]; rfl
  unfold allNd
  refine List.mem_flatMap.mpr ⟨i, by rcases hi with e | e <;> rw [e] <;> simp, List.mem_flatMap.mpr ⟨j, by rcases hj with e | e <;> rw [e] <;> simp, List.mem_map.mpr ⟨_, hc, ?_⟩⟩⟩
  rw [t1, t2]
theorem allNd_len : ∀ p q : Nat, 1 ≤ p → p ≤ 3 → 1 ≤ q → q ≤ 3 → (allNd p q).length ≤ 1144 := by
  have h : ∀ p ∈ [1, 2, 3], ∀ q ∈ [1, 2, 3], (allNd p q).length ≤ 1144 := by decide +kernel
  intro p q h1 h2 h3 h4
  exact h p (by simp; omega) q (by simp; omega)
theorem nodup_len {α : Type} [DecidableEq α] : ∀ {l m : List α}, l.Nodup → (∀ x ∈ l, x ∈ m) → l.length ≤ m.length
  | [], m, _, _ => Nat.zero_le _
  | x :: l, m, h, hs => by
    have hx := hs x (.head _)
    have hn := List.nodup_cons.mp h
    have := nodup_len (l := l) (m := m.erase x) hn.2 fun y hy => (List.mem_erase_of_ne fun e => hn.1 (by rw [← e]; exact hy)).mpr (hs y (.tail _ hy))
    rw [List.length_erase_of_mem hx] at this
    have := List.length_pos_of_mem hx
    rw [List.length_cons]; omega
theorem few {a b : Rl} (ha : okRl a) (hb : okRl b) {ns : List Nd} (hn : ns.Nodup) (h : ∀ n ∈ ns, okNd a b n) : ns.length ≤ 1144 := by
  have := ha.p; have := hb.p
  exact Nat.le_trans (nodup_len hn fun n hm => allNd_mem ha hb (h n hm)) (allNd_len _ _ (by omega) (by omega) (by omega) (by omega))
/-! the graph -/
theorem steps_ok {a b : Rl} {n : Nd} (ha : okRl a) (hb : okRl b) (h : okNd a b n) {s : Stp} (hs : s ∈ steps a b n) : ∃ k, 0 ≤ k ∧ k ≤ howMany n ∧ s = stpAt a b n k ∧ okNd a b s.later := by
  unfold steps rangeI at hs
  rw [List.map_map] at hs
  obtain ⟨i, hi, rfl⟩ := List.mem_map.mp hs
  have hi := List.mem_range.mp hi
  have g := howMany_rng ha hb h
  have i0 : (0 : Int) ≤ (i : Int) := by omega
  have i1 : (i : Int) ≤ howMany n := by omega
  exact ⟨(i : Int), i0, i1, rfl, okNd_moved ha hb h i0 i1⟩
theorem steps_mem {a b : Rl} {n : Nd} {k : Int} (h0 : 0 ≤ k) (h1 : k ≤ howMany n) : stpAt a b n k ∈ steps a b n := by
  unfold steps rangeI
  rw [List.map_map]
  exact List.mem_map.mpr ⟨k.toNat, List.mem_range.mpr (by omega), by show stpAt a b n ((k.toNat : Nat) : Int) = _; rw [Int.toNat_of_nonneg h0]⟩
theorem gIn_keys {a b : Rl} {w : List Int} : ∀ {ss : List Stp} {ws : List (Nd × List Int)}, (ws.map (·.1)).Nodup → (∀ p ∈ ws, okNd a b p.1) → (∀ s ∈ ss, okNd a b s.later) → ((gIn w ws ss).map (·.1)).Nodup ∧ (∀ p ∈ gIn w ws ss, okNd a b p.1) ∧ (∀ s ∈ ss, s.later ∈ (gIn w ws ss).map (·.1))
  | [], ws, h1, h2, _ => ⟨h1, h2, fun s hs => by cases hs⟩
  | s :: ss, ws, h1, h2, h3 => by
    have h3' : ∀ t ∈ ss, okNd a b t.later := fun t ht => h3 t (.tail _ ht)
    rw [gIn]
    by_cases z : s.later ∈ ws.map (·.1)
    · rw [if_pos z]
      obtain ⟨i1, i2, i3⟩ := gIn_keys (w := w) h1 h2 h3'
      refine ⟨i1, i2, fun t ht => ?_⟩
      rcases List.mem_cons.mp ht with e | e
      · obtain ⟨m, em⟩ := gIn_pre w ss ws
        rw [e, em, List.map_append]
        exact List.mem_append_left _ z
      · exact i3 t e
    · rw [if_neg z]
      have k1 : ((ws ++ [(s.later, w ++ [s.name])]).map (·.1)).Nodup := by
        rw [List.map_append]
        refine List.nodup_append.mpr ⟨h1, by simp, fun x hx y hy e => ?_⟩
        simp at hy
        rw [e, hy] at hx
        exact z hx
      have k2 : ∀ p ∈ ws ++ [(s.later, w ++ [s.name])], okNd a b p.1 := fun p hp => by
        rcases List.mem_append.mp hp with hp | hp
        · exact h2 p hp
        · rw [List.mem_singleton.mp hp]; exact h3 s (.head _)
      obtain ⟨i1, i2, i3⟩ := gIn_keys (w := w) k1 k2 h3'
      refine ⟨i1, i2, fun t ht => ?_⟩
      rcases List.mem_cons.mp ht with e | e
      · obtain ⟨m, em⟩ := gIn_pre w ss (ws ++ [(s.later, w ++ [s.name])])
        rw [e, em, List.map_append, List.map_append]
        exact List.mem_append_left _ (List.mem_append_right _ (by simp))
      · exact i3 t e
theorem gW_ok {a b : Rl} (ha : okRl a) (hb : okRl b) : ∀ i, ((gW a b i).map (·.1)).Nodup ∧ (∀ p ∈ gW a b i, okNd a b p.1) ∧ fstNd a b ∈ (gW a b i).map (·.1)
  | 0 => ⟨by simp [gW], fun p hp => by
      have e : p = (fstNd a b, []) := by simpa [gW] using hp
      rw [e]; exact okNd_fst ha hb, by simp [gW]⟩
  | i + 1 => by
    obtain ⟨h1, h2, h3⟩ := gW_ok ha hb i
    have hn : okNd a b (gN a b i) := by
      unfold gN
      rw [List.getD_eq_getElem?_getD]
      cases e : ((gW a b i).map (·.1))[i]? with
      | none => exact okNd_fst ha hb
      | some n =>
        obtain ⟨p, hp, rfl⟩ := List.mem_map.mp (List.mem_of_getElem? e)
        exact h2 p hp
    have k := gIn_keys (a := a) (b := b) (w := walkOf (gW a b i) (gN a b i)) (ss := steps a b (gN a b i)) h1 h2 fun s hs => by
      obtain ⟨_, _, _, _, h⟩ := steps_ok ha hb hn hs
      exact h
    refine ⟨k.1, k.2.1, ?_⟩
    obtain ⟨m, em⟩ := gW_pre a b 0 (i + 1)
    rw [Nat.zero_add] at em
    rw [em, List.map_append]
    exact List.mem_append_left _ (by simp [gW])
theorem gW_mono (a b : Rl) {i j : Nat} (h : i ≤ j) : ∃ m, gW a b j = gW a b i ++ m := by
  have := gW_pre a b i (j - i)
  rwa [show i + (j - i) = j by omega] at this
theorem gOk_ex {a b : Rl} (ha : okRl a) (hb : okRl b) : ∃ N, GOk a b N ∧ 1 ≤ N ∧ N ≤ 1144 := by
  have hlen : ∀ i, (gW a b i).length ≤ 1144 := fun i => by
    have h := gW_ok ha hb i
    have := few ha hb h.1 (fun n hn => by
      obtain ⟨p, hp, rfl⟩ := List.mem_map.mp hn
      exact h.2.1 p hp)
    rwa [List.length_map] at this
  have main : ∀ k, (∃ N, N < k ∧ GOk a b N ∧ 1 ≤ N) ∨ ∀ i < k, i < (gW a b i).length := by
    intro k
    induction k with
    | zero => exact .inr fun i h => absurd h (Nat.not_lt_zero _)
    | succ k ih =>
      rcases ih with ⟨N, h1, h2⟩ | h
      · exact .inl ⟨N, by omega, h2⟩
      · by_cases z : k < (gW a b k).length
        · exact .inr fun i hi => by
            rcases Nat.lt_succ_iff_lt_or_eq.mp hi with q | q
            · exact h i q
            · rw [q]; exact z
        · have hk : 1 ≤ k := by
            rcases Nat.eq_zero_or_pos k with e | e
            · subst e; exact absurd (by simp [gW]) z
            · exact e
          refine .inl ⟨k, Nat.lt_succ_self k, ⟨(gW_ok ha hb k).2.1, h, ?_, by have := hlen k; have := h (k - 1) (by omega); have := hlen (k - 1); omega⟩, hk⟩
          obtain ⟨m, em⟩ := gW_mono a b (show k - 1 ≤ k by omega)
          have h1 := h (k - 1) (by omega)
          have h2 : (gW a b k).length = (gW a b (k - 1)).length + m.length := by rw [em, List.length_append]
          omega
  rcases main 1146 with ⟨N, h1, h2, h3⟩ | h
  · refine ⟨N, h2, h3, ?_⟩
    have := hlen N
    rw [h2.len] at this
    exact this
  · have h1 := h 1145 (by omega)
    have h2 := hlen 1145
    omega
/-- the nodes -/
def vs (a b : Rl) (N : Nat) : List Nd := (gW a b N).map (·.1)
structure VOk (a b : Rl) (N : Nat) : Prop where
  nd : (vs a b N).Nodup
  ok : ∀ n ∈ vs a b N, okNd a b n
  len : (vs a b N).length = N
  sm : N ≤ 1144
  first : fstNd a b ∈ vs a b N
  st : ∀ n ∈ vs a b N, look (gG a b N) n = some (steps a b n)
  clo : ∀ n ∈ vs a b N, ∀ s ∈ steps a b n, s.later ∈ vs a b N
theorem gN_of {a b : Rl} {N i : Nat} (g : GOk a b N) (h : i < N) : gN a b i = (vs a b N)[i]'(by unfold vs; rw [List.length_map, g.len]; exact h) := by
  obtain ⟨m, e⟩ := gW_mono a b (Nat.le_of_lt h)
  have hl := g.lt i h
  unfold gN
  rw [List.getD_eq_getElem?_getD, List.getElem?_eq_getElem (by rw [List.length_map]; exact hl)]
  show ((gW a b i).map (·.1))[i]'_ = _
  simp only [vs, e, List.map_append]
  rw [List.getElem_append_left]
theorem vOk {a b : Rl} {N : Nat} (ha : okRl a) (hb : okRl b) (g : GOk a b N) (hN : N ≤ 1144) : VOk a b N := by
  have w := gW_ok ha hb N
  have hlen : (vs a b N).length = N := by unfold vs; rw [List.length_map, g.len]
  refine ⟨w.1, fun n hn => ?_, hlen, hN, w.2.2, fun n hn => ?_, fun n hn s hs => ?_⟩
  · obtain ⟨p, hp, rfl⟩ := List.mem_map.mp hn
    exact w.2.1 p hp
  · have key : ∀ i ≤ N, ∀ j < i, look (gG a b i) (gN a b j) = some (steps a b (gN a b j)) := by
      intro i
      induction i with
      | zero => intro _ j hj; exact absurd hj (Nat.not_lt_zero _)
      | succ i ih =>
        intro hi j hj
        rw [gG, look_put]
        split
        · rename_i e; rw [e]
        · rename_i e
          refine ih (by omega) j ?_
          rcases Nat.lt_succ_iff_lt_or_eq.mp hj with q | q
          · exact q
          · rw [q] at e; exact absurd rfl e
    obtain ⟨j, hj, e⟩ := List.getElem_of_mem hn
    have hj2 : j < N := by rw [← hlen]; exact hj
    rw [← e, ← gN_of g hj2]
    exact key N (Nat.le_refl _) j hj2
  · obtain ⟨j, hj, e⟩ := List.getElem_of_mem hn
    have hj2 : j < N := by rw [← hlen]; exact hj
    have en : gN a b j = n := by rw [gN_of g hj2, e]
    have hw := gW_ok ha hb j
    have k := gIn_keys (a := a) (b := b) (w := walkOf (gW a b j) (gN a b j)) (ss := steps a b (gN a b j)) hw.1 hw.2.1 fun s hs => by
      have hn2 : okNd a b (gN a b j) := by
        rw [en]
        obtain ⟨p, hp, rfl⟩ := List.mem_map.mp hn
        exact w.2.1 p hp
      obtain ⟨_, _, _, _, h⟩ := steps_ok ha hb hn2 hs
      exact h
    obtain ⟨m, em⟩ := gW_mono a b (show j + 1 ≤ N by omega)
    unfold vs
    rw [em, List.map_append]
    exact List.mem_append_left _ (k.2.2 s (by rw [en]; exact hs))
end Mi
set_option maxHeartbeats 1000000
/-! M10: the climb: records. -/
namespace Mi
def gainOf (ss : List Stp) : Int := (ss.map fun s => s.its - s.mine).sum
theorem gainOf_app (x y : List Stp) : gainOf (x ++ y) = gainOf x + gainOf y := by unfold gainOf; rw [List.map_append, List.sum_append]
theorem pathS_app {a b : Rl} : ∀ {n : Nd} {xs ys : List Int}, pathS a b n (xs ++ ys) = pathS a b n xs ++ pathS a b (pathE a b n xs) ys
  | _, [], _ => rfl
  | n, k :: xs, ys => by rw [List.cons_append, pathS, pathS, List.cons_append, pathS_app]; rfl
theorem gain_snoc {a b : Rl} {n : Nd} {xs : List Int} {k : Int} : gainOf (pathS a b n (xs ++ [k])) = gainOf (pathS a b n xs) + ((stpAt a b (pathE a b n xs) k).its - (stpAt a b (pathE a b n xs) k).mine) := by
  rw [pathS_app, gainOf_app]
  show _ + (_ + 0) = _
  rw [Int.add_zero]
def RcOk (a b : Rl) : Rc → Prop
  | .root n => n = fstNd a b
  | .ext n v k r => RcOk a b r ∧ 0 ≤ k ∧ k ≤ howMany r.node ∧ n = movedTo a b r.node k ∧ v = r.value + ((stpAt a b r.node k).its - (stpAt a b r.node k).mine)
def Rc.anc : Rc → List Rc
  | .root n => [.root n]
  | .ext n v k r => .ext n v k r :: r.anc
def Rc.nodes (r : Rc) : List Nd := r.anc.map Rc.node
theorem RcOk.path {a b : Rl} (ha : okRl a) (hb : okRl b) : ∀ {r : Rc}, RcOk a b r → okPath a b (fstNd a b) r.walk ∧ pathE a b (fstNd a b) r.walk = r.node ∧ gainOf (pathS a b (fstNd a b) r.walk) = r.value
  | .root n, h => by
    have h : n = fstNd a b := h
    subst h
    exact ⟨okNd_fst ha hb, rfl, rfl⟩
  | .ext n v k r, ⟨h1, h2, h3, h4, h5⟩ => by
    obtain ⟨p1, p2, p3⟩ := RcOk.path ha hb h1
    refine ⟨okPath_snoc ha hb p1 h2 (by rw [p2]; exact h3), ?_, ?_⟩
    · show pathE a b _ (r.walk ++ [k]) = n
      rw [pathE_app, p2, h4]; rfl
    · show gainOf (pathS a b _ (r.walk ++ [k])) = v
      rw [gain_snoc, p2, p3, h5]
theorem RcOk.anc {a b : Rl} : ∀ {r q : Rc}, RcOk a b r → q ∈ r.anc → RcOk a b q ∧ ∃ ls, r.walk = q.walk ++ ls
  | .root n, q, h, hq => by
    have e : q = .root n := by simpa [Rc.anc] using hq
    subst e
    exact ⟨h, [], rfl⟩
  | .ext n v k r, q, h, hq => by
    rcases List.mem_cons.mp hq with e | e
    · subst e; exact ⟨h, [], by rw [List.append_nil]⟩
    · obtain ⟨h1, ls, h2⟩ := RcOk.anc h.1 e
      exact ⟨h1, ls ++ [k], by show r.walk ++ [k] = _; rw [h2, List.append_assoc]⟩
theorem anc_self (r : Rc) : r ∈ r.anc := by cases r <;> simp [Rc.anc]
theorem nodes_len (r : Rc) : r.nodes.length = r.walk.length + 1 := by
  unfold Rc.nodes
  rw [List.length_map]
  induction r with
  | root n => rfl
  | ext n v k r ih => simp [Rc.anc, Rc.walk, ih]
theorem RcOk.nodesV {a b : Rl} {N : Nat} (V : VOk a b N) : ∀ {r : Rc}, RcOk a b r → ∀ n ∈ r.nodes, n ∈ vs a b N
  | .root n, h, m, hm => by
    have e : m = n := by simpa [Rc.nodes, Rc.anc, Rc.node] using hm
    rw [e, show n = fstNd a b from h]; exact V.first
  | .ext n v k r, h, m, hm => by
    have hm : m ∈ n :: r.nodes := hm
    rcases List.mem_cons.mp hm with e | e
    · rw [e, h.2.2.2.1]
      have hr : r.node ∈ vs a b N := RcOk.nodesV V h.1 _ (List.mem_map_of_mem (anc_self r))
      exact V.clo _ hr _ (steps_mem h.2.1 h.2.2.1)
    · exact RcOk.nodesV V h.1 m e
theorem RcOk.root {a b : Rl} : ∀ {r : Rc}, RcOk a b r → Rc.root (fstNd a b) ∈ r.anc
  | .root n, h => by rw [show n = fstNd a b from h]; exact anc_self _
  | .ext n v k r, h => List.mem_cons_of_mem _ (RcOk.root h.1)
theorem sinceN_none {t : Nd} : ∀ {r : Rc}, sinceN t r = none → t ∉ r.nodes
  | .root m, h => by
    unfold sinceN at h
    split at h
    · cases h
    · rename_i e
      simp [Rc.nodes, Rc.anc, Rc.node]; exact fun z => e z.symm
  | .ext m v k r, h => by
    unfold sinceN at h
    split at h
    · cases h
    · rename_i e
      have := sinceN_none h
      intro z
      have z : t ∈ m :: r.nodes := z
      rcases List.mem_cons.mp z with q | q
      · exact e q.symm
      · exact this q
theorem sinceN_some {t : Nd} : ∀ {r q : Rc}, sinceN t r = some q → q ∈ r.anc ∧ q.node = t
  | .root m, q, h => by
    unfold sinceN at h
    split at h
    · cases h; rename_i e; exact ⟨anc_self _, e⟩
    · cases h
  | .ext m v k r, q, h => by
    unfold sinceN at h
    split at h
    · cases h; rename_i e; exact ⟨anc_self _, e⟩
    · obtain ⟨h1, h2⟩ := sinceN_some h
      exact ⟨List.mem_cons_of_mem _ h1, h2⟩
/-! one layer more -/
theorem put_keys {β : Type} (d : List (Nd × β)) (n : Nd) (v : β) : (put d n v).map (·.1) = if n ∈ d.map (·.1) then d.map (·.1) else d.map (·.1) ++ [n] := by
  by_cases h : n ∈ d.map (·.1)
  · rw [if_pos h]
    unfold put
    rw [if_pos, List.map_map]
    · refine List.map_congr_left fun p _ => ?_
      show (if p.1 = n then (p.1, v) else p).1 = p.1
      split <;> rfl
    · obtain ⟨p, h1, h2⟩ := List.mem_map.mp h
      exact List.any_eq_true.mpr ⟨p, h1, decide_eq_true h2⟩
  · rw [if_neg h, put_new h, List.map_append]; rfl
theorem put_nodup {β : Type} {d : List (Nd × β)} {n : Nd} {v : β} (h : (d.map (·.1)).Nodup) : ((put d n v).map (·.1)).Nodup := by
  rw [put_keys]
  split
  · exact h
  · rename_i z
    refine List.nodup_append.mpr ⟨h, by simp, fun x hx y hy e => ?_⟩
    simp at hy
    rw [e, hy] at hx
    exact z hx
theorem imp1_nodup {best : List (Nd × Int)} {r : Rc} {f : List (Nd × Rc)} {s : Stp} (h : (f.map (·.1)).Nodup) : ((imp1 best r f s).map (·.1)).Nodup := by
  unfold imp1
  split
  · exact put_nodup h
  · exact h
theorem fold1_nodup {best : List (Nd × Int)} {r : Rc} : ∀ {ss : List Stp} {f : List (Nd × Rc)}, (f.map (·.1)).Nodup → ((ss.foldl (imp1 best r) f).map (·.1)).Nodup
  | [], _, h => h
  | _ :: ss, _, h => fold1_nodup (ss := ss) (imp1_nodup h)
theorem impF_nodup {a b : Rl} {best : List (Nd × Int)} : ∀ {rs : List Rc} {f : List (Nd × Rc)}, (f.map (·.1)).Nodup → ((rs.foldl (impR a b best) f).map (·.1)).Nodup
  | [], _, h => h
  | _ :: rs, _, h => impF_nodup (rs := rs) (fold1_nodup h)
/-- what is known there, is as much -/
def Has (f : List (Nd × Rc)) (n : Nd) (v : Int) : Prop := ∃ q, look f n = some q ∧ v ≤ q.value
def HasB (d : List (Nd × Int)) (n : Nd) (v : Int) : Prop := ∃ u, look d n = some u ∧ v ≤ u
theorem imp1_has {best : List (Nd × Int)} {r : Rc} {f : List (Nd × Rc)} {s : Stp} {n : Nd} {v : Int} (h : Has f n v) : Has (imp1 best r f s) n v := by
  unfold imp1
  split
  · rename_i hc
    obtain ⟨q, h1, h2⟩ := h
    unfold Has
    rw [look_put]
    split
    · rename_i e
      refine ⟨_, rfl, ?_⟩
      have hr := (Bool.and_eq_true_iff.mp hc).2
      unfold betterR at hr
      rw [← e, h1] at hr
      have := of_decide_eq_true hr
      show v ≤ r.value + (s.its - s.mine)
      omega
    · exact ⟨q, h1, h2⟩
  · exact h
theorem imp1_new {best : List (Nd × Int)} {r : Rc} {f : List (Nd × Rc)} {s : Stp} : HasB best s.later (r.value + (s.its - s.mine)) ∨ Has (imp1 best r f s) s.later (r.value + (s.its - s.mine)) := by
  unfold imp1
  split
  · right
    refine ⟨.ext s.later (r.value + (s.its - s.mine)) s.name r, ?_, Int.le_refl _⟩
    rw [look_put, if_pos rfl]
  · rename_i hc
    by_cases z : better best s.later (r.value + (s.its - s.mine)) = true
    · right
      rw [z, Bool.true_and] at hc
      unfold betterR at hc
      cases e : look f s.later with
      | none => rw [e] at hc; exact absurd rfl hc
      | some q =>
        rw [e] at hc
        refine ⟨q, e, ?_⟩
        have : ¬ (r.value + (s.its - s.mine) > q.value) := fun h => hc (decide_eq_true h)
        omega
    · left
      unfold better at z
      cases e : look best s.later with
      | none => rw [e] at z; exact absurd rfl z
      | some u =>
        rw [e] at z
        refine ⟨u, e, ?_⟩
        have : ¬ (r.value + (s.its - s.mine) > u) := fun h => z (decide_eq_true h)
        omega
theorem fold1_has {best : List (Nd × Int)} {r : Rc} {n : Nd} {v : Int} : ∀ {ss : List Stp} {f : List (Nd × Rc)}, Has f n v → Has (ss.foldl (imp1 best r) f) n v
  | [], _, h => h
  | _ :: ss, _, h => fold1_has (ss := ss) (imp1_has h)
theorem fold1_new {best : List (Nd × Int)} {r : Rc} : ∀ {ss : List Stp} {f : List (Nd × Rc)}, ∀ s ∈ ss, HasB best s.later (r.value + (s.its - s.mine)) ∨ Has (ss.foldl (imp1 best r) f) s.later (r.value + (s.its - s.mine))
  | t :: ss, f, s, hs => by
    rcases List.mem_cons.mp hs with e | e
    · subst e
      rcases imp1_new (best := best) (r := r) (f := f) (s := s) with h | h
      · exact .inl h
      · exact .inr (fold1_has (ss := ss) h)
    · exact fold1_new (ss := ss) (f := imp1 best r f t) s e
theorem impF_has {a b : Rl} {best : List (Nd × Int)} {n : Nd} {v : Int} : ∀ {rs : List Rc} {f : List (Nd × Rc)}, Has f n v → Has (rs.foldl (impR a b best) f) n v
  | [], _, h => h
  | _ :: rs, _, h => impF_has (rs := rs) (fold1_has h)
theorem impF_new {a b : Rl} {best : List (Nd × Int)} : ∀ {rs : List Rc} {f : List (Nd × Rc)}, ∀ r ∈ rs, ∀ s ∈ steps a b r.node, HasB best s.later (r.value + (s.its - s.mine)) ∨ Has (rs.foldl (impR a b best) f) s.later (r.value + (s.its - s.mine))
  | t :: rs, f, r, hr, s, hs => by
    rcases List.mem_cons.mp hr with e | e
    · subst e
      rcases fold1_new (best := best) (r := r) (f := f) s hs with h | h
      · exact .inl h
      · exact .inr (impF_has (rs := rs) h)
    · exact impF_new (rs := rs) r e s hs
/-! the best values then -/
theorem setB_cons (d : List (Nd × Int)) (r : Rc) (rs : List Rc) : setB d (r :: rs) = setB (put d r.node r.value) rs := rfl
theorem setB_out : ∀ {rs : List Rc} {d : List (Nd × Int)} {n : Nd}, n ∉ rs.map Rc.node → look (setB d rs) n = look d n
  | [], d, n, _ => rfl
  | r :: rs, d, n, h => by
    rw [List.map_cons, List.mem_cons, not_or] at h
    rw [setB_cons, setB_out h.2, look_put, if_neg h.1]
theorem setB_in : ∀ {rs : List Rc} {d : List (Nd × Int)}, (rs.map Rc.node).Nodup → ∀ r ∈ rs, look (setB d rs) r.node = some r.value
  | t :: rs, d, h, r, hr => by
    have h := List.nodup_cons.mp h
    rw [setB_cons]
    rcases List.mem_cons.mp hr with e | e
    · subst e
      rw [setB_out h.1, look_put, if_pos rfl]
    · exact setB_in h.2 r e
theorem setB_nodup : ∀ {rs : List Rc} {d : List (Nd × Int)}, (d.map (·.1)).Nodup → ((setB d rs).map (·.1)).Nodup
  | [], _, h => h
  | r :: rs, d, h => by rw [setB_cons]; exact setB_nodup (put_nodup h)
theorem setB_keys : ∀ {rs : List Rc} {d : List (Nd × Int)} {n : Nd}, n ∈ (setB d rs).map (·.1) → n ∈ d.map (·.1) ∨ n ∈ rs.map Rc.node
  | [], _, _, h => .inl h
  | r :: rs, d, n, h => by
    rw [setB_cons] at h
    rcases setB_keys h with h | h
    · rw [put_keys] at h
      split at h
      · exact .inl h
      · rcases List.mem_append.mp h with h | h
        · exact .inl h
        · right; rw [List.mem_singleton.mp h]; exact List.mem_cons_self ..
    · exact .inr (List.mem_cons_of_mem _ h)
theorem setT_cons (t r : Rc) (rs : List Rc) : setT t (r :: rs) = setT (if r.value > t.value then r else t) rs := rfl
theorem setT_ok : ∀ (rs : List Rc) (t : Rc), (setT t rs = t ∨ setT t rs ∈ rs ∧ t.value < (setT t rs).value) ∧ t.value ≤ (setT t rs).value ∧ ∀ r ∈ rs, r.value ≤ (setT t rs).value
  | [], t => ⟨.inl rfl, Int.le_refl _, fun r hr => by cases hr⟩
  | r :: rs, t => by
    rw [setT_cons]
    by_cases h : r.value > t.value
    · rw [if_pos h]
      obtain ⟨h1, h2, h3⟩ := setT_ok rs r
      refine ⟨.inr ?_, by omega, fun q hq => ?_⟩
      · rcases h1 with e | ⟨e1, e2⟩
        · rw [e]; exact ⟨.head _, h⟩
        · exact ⟨.tail _ e1, by omega⟩
      · rcases List.mem_cons.mp hq with e | e
        · rw [e]; exact h2
        · exact h3 q e
    · rw [if_neg h]
      obtain ⟨h1, h2, h3⟩ := setT_ok rs t
      refine ⟨?_, h2, fun q hq => ?_⟩
      · rcases h1 with e | ⟨e1, e2⟩
        · exact .inl e
        · exact .inr ⟨.tail _ e1, e2⟩
      · rcases List.mem_cons.mp hq with e | e
        · rw [e]; omega
        · exact h3 q e
end Mi
set_option maxHeartbeats 1000000
/-! M11: the climb: what holds behind each layer. -/
namespace Mi
structure Inv (a b : Rl) (N : Nat) (c : Cl) (i : Nat) : Prop where
  lay : ∀ r ∈ c.layer, RcOk a b r ∧ r.walk.length = i ∧ r.node ∈ vs a b N
  layN : (c.layer.map Rc.node).Nodup
  layB : ∀ r ∈ c.layer, look c.best r.node = some r.value
  ancB : ∀ r ∈ c.layer, ∀ q ∈ r.anc, HasB c.best q.node q.value
  bn : (c.best.map (·.1)).Nodup
  bv : ∀ n ∈ c.best.map (·.1), n ∈ vs a b N
  rel : ∀ n v, look c.best n = some v → (∃ r ∈ c.layer, r.node = n ∧ r.value = v) ∨ ∀ s ∈ steps a b n, HasB c.best s.later (v + (s.its - s.mine))
  topOk : RcOk a b c.top
  topW : c.top.walk.length ≤ i
  topB : HasB c.best c.top.node c.top.value
  topM : ∀ n v, look c.best n = some v → v ≤ c.top.value
  pth : ∀ ks : List Int, okPath a b (fstNd a b) ks → ks.length ≤ i → HasB c.best (pathE a b (fstNd a b) ks) (gainOf (pathS a b (fstNd a b) ks))
theorem inv0 {a b : Rl} {N : Nat} (V : VOk a b N) : Inv a b N (cl0 a b) 0 := by
  have e : look (cl0 a b).best (fstNd a b) = some 0 := by
    show look [(fstNd a b, (0 : Int))] (fstNd a b) = some 0
    unfold look
    rw [List.find?_cons, decide_eq_true rfl]; rfl
  have one : ∀ r ∈ (cl0 a b).layer, r = .root (fstNd a b) := fun r hr => List.mem_singleton.mp hr
  have bst : ∀ n v, look (cl0 a b).best n = some v → n = fstNd a b ∧ v = 0 := fun n v h => by
    have hm : n ∈ (cl0 a b).best.map (·.1) := (look_some_iff _ n).mp (by rw [h]; rfl)
    have hn : n = fstNd a b := by simpa [cl0] using hm
    rw [hn, e] at h
    exact ⟨hn, (Option.some.inj h).symm⟩
  refine ⟨fun r hr => ?_, by simp [cl0], fun r hr => ?_, fun r hr q hq => ?_, by simp [cl0], fun n hn => ?_, fun n v h => ?_, rfl, Nat.le_refl _, ⟨0, e, Int.le_refl _⟩, fun n v h => ?_, fun ks hp hl => ?_⟩
  · rw [one r hr]; exact ⟨rfl, rfl, V.first⟩
  · rw [one r hr]; exact e
  · rw [one r hr] at hq
    have : q = .root (fstNd a b) := by simpa [Rc.anc] using hq
    rw [this]; exact ⟨0, e, Int.le_refl _⟩
  · have hn : n = fstNd a b := by simpa [cl0] using hn
    rw [hn]; exact V.first
  · obtain ⟨h1, h2⟩ := bst n v h
    exact .inl ⟨.root (fstNd a b), by simp [cl0], h1.symm, h2.symm⟩
  · rw [(bst n v h).2]; exact Int.le_refl _
  · have : ks = [] := List.eq_nil_of_length_eq_zero (by omega)
    rw [this]; exact ⟨0, e, Int.le_refl _⟩
theorem look_nodup {β : Type} {f : List (Nd × β)} (h : (f.map (·.1)).Nodup) {n : Nd} {q : β} : look f n = some q ↔ (n, q) ∈ f := by
  induction f with
  | nil => simp [look]
  | cons p f ih =>
    have h := List.nodup_cons.mp h
    have e : look (p :: f) n = if p.1 = n then some p.2 else look f n := by
      unfold look
      rw [List.find?_cons]
      by_cases z : p.1 = n
      · rw [decide_eq_true z, if_pos z]; rfl
      · rw [decide_eq_false z, if_neg z]
    rw [e, List.mem_cons]
    split
    · rename_i z
      constructor
      · intro w
        left
        have w := Option.some.inj w
        rw [← z, ← w]
      · rintro (w | w)
        · rw [← w]
        · exact absurd (List.mem_map.mpr ⟨(n, q), w, z.symm⟩) h.1
    · rename_i z
      rw [ih h.2]
      constructor
      · exact fun w => .inr w
      · rintro (w | w)
        · exact absurd (by rw [← w]) z
        · exact w
theorem better_gt {best : List (Nd × Int)} {n : Nd} {v u : Int} (h : better best n v = true) (e : look best n = some u) : u < v := by
  unfold better at h
  rw [e] at h
  exact of_decide_eq_true h
theorem inv_next {srt : List Rc → List Rc} (hsrt : ∀ l, (srt l).Perm l) {a b : Rl} {N i : Nat} {c : Cl} (ha : okRl a) (hb : okRl b) (V : VOk a b N) (I : Inv a b N c i) :
    Inv a b N ⟨clNext srt a b c, setB c.best (clNext srt a b c), setT c.top (clNext srt a b c)⟩ (i + 1) ∧
    (∀ n v, look c.best n = some v → HasB (setB c.best (clNext srt a b c)) n v) ∧
    (∀ r ∈ clNext srt a b c, (∃ b' ∈ c.layer, r.before = some b') ∧ ∀ q ∈ r.anc, q ≠ r → ∃ u, look c.best q.node = some u ∧ q.value ≤ u ∧ (q.node = r.node → u < r.value)) := by
  let F := impF a b c.best c.layer
  have hF1 : (F.map (·.1)).Nodup := impF_nodup (rs := c.layer) (f := []) (by simp)
  have hF2 : ∀ p ∈ F, ∃ r ∈ c.layer, ∃ s ∈ steps a b r.node, p.2 = .ext s.later (r.value + (s.its - s.mine)) s.name r ∧ p.1 = s.later ∧ better c.best s.later (r.value + (s.its - s.mine)) = true := fun p hp => by
    rcases impF_mem (rs := c.layer) (f := []) hp with h | h
    · cases h
    · exact h
  have hL : ∀ r, r ∈ clNext srt a b c ↔ ∃ p ∈ F, p.2 = r := fun r => by
    show r ∈ srt (F.map (·.2)) ↔ _
    rw [(hsrt _).mem_iff, List.mem_map]
  have hnode : ∀ p ∈ F, p.2.node = p.1 := fun p hp => by
    obtain ⟨r, _, s, _, e1, e2, _⟩ := hF2 p hp
    rw [e1, e2]; rfl
  have hNod : ((clNext srt a b c).map Rc.node).Nodup := by
    have : ((srt (F.map (·.2))).map Rc.node).Perm ((F.map (·.2)).map Rc.node) := (hsrt _).map _
    refine this.nodup_iff.mpr ?_
    have e : F.map (Rc.node ∘ fun x => x.2) = F.map (·.1) := List.map_congr_left hnode
    rw [List.map_map, e]
    exact hF1
  -- records of the next layer
  have hrec : ∀ r ∈ clNext srt a b c, ∃ b' ∈ c.layer, ∃ k, 0 ≤ k ∧ k ≤ howMany b'.node ∧ r = .ext (movedTo a b b'.node k) (b'.value + ((stpAt a b b'.node k).its - (stpAt a b b'.node k).mine)) k b' ∧ better c.best r.node r.value = true := fun r hr => by
    obtain ⟨p, hp, e⟩ := (hL r).mp hr
    obtain ⟨b', hb', s, hs, e1, e2, e3⟩ := hF2 p hp
    obtain ⟨k, k0, k1, es, _⟩ := steps_ok ha hb (V.ok _ (I.lay b' hb').2.2) hs
    refine ⟨b', hb', k, k0, k1, ?_, ?_⟩
    · rw [← e, e1, es]; rfl
    · rw [← e, e1]; exact e3
  have mono : ∀ n v, look c.best n = some v → HasB (setB c.best (clNext srt a b c)) n v := fun n v h => by
    by_cases z : n ∈ (clNext srt a b c).map Rc.node
    · obtain ⟨r, hr, e⟩ := List.mem_map.mp z
      obtain ⟨_, _, _, _, _, _, hbt⟩ := hrec r hr
      rw [← e] at h ⊢
      exact ⟨_, setB_in hNod r hr, Int.le_of_lt (better_gt hbt h)⟩
    · exact ⟨v, by rw [setB_out z]; exact h, Int.le_refl _⟩
  have monoH : ∀ n v, HasB c.best n v → HasB (setB c.best (clNext srt a b c)) n v := fun n v ⟨u, h1, h2⟩ => by
    obtain ⟨u', h3, h4⟩ := mono n u h1
    exact ⟨u', h3, Int.le_trans h2 h4⟩
  have rcok : ∀ r ∈ clNext srt a b c, RcOk a b r ∧ r.walk.length = i + 1 := fun r hr => by
    obtain ⟨b', hb', k, k0, k1, e, _⟩ := hrec r hr
    subst e
    refine ⟨⟨(I.lay b' hb').1, k0, k1, rfl, rfl⟩, ?_⟩
    show (b'.walk ++ [k]).length = _
    rw [List.length_append, (I.lay b' hb').2.1]; rfl
  have inV : ∀ r ∈ clNext srt a b c, r.node ∈ vs a b N := fun r hr => RcOk.nodesV V (rcok r hr).1 _ (List.mem_map_of_mem (anc_self r))
  have tk := setT_ok (clNext srt a b c) c.top
  -- a step from a node known is known then
  have relx : ∀ n v, look c.best n = some v → ∀ s ∈ steps a b n, HasB (setB c.best (clNext srt a b c)) s.later (v + (s.its - s.mine)) := fun n v h s hs => by
    rcases I.rel n v h with ⟨r, hr, e1, e2⟩ | h2
    · subst e1 e2
      rcases impF_new (best := c.best) (f := []) r hr s hs with h3 | ⟨q, h3, h4⟩
      · exact monoH _ _ h3
      · have hq : (s.later, q) ∈ F := (look_nodup hF1).mp h3
        have hqL : q ∈ clNext srt a b c := (hL q).mpr ⟨_, hq, rfl⟩
        have hqn : q.node = s.later := hnode _ hq
        refine ⟨q.value, ?_, h4⟩
        rw [← hqn]
        exact setB_in hNod q hqL
    · exact monoH _ _ (h2 s hs)
  refine ⟨⟨fun r hr => ⟨(rcok r hr).1, (rcok r hr).2, inV r hr⟩, hNod, fun r hr => setB_in hNod r hr, fun r hr q hq => ?_, setB_nodup I.bn, fun n hn => ?_, fun n v h => ?_, ?_, ?_, ?_, fun n v h => ?_, fun ks hp hl => ?_⟩, mono, fun r hr => ?_⟩
  · obtain ⟨b', hb', k, k0, k1, e, _⟩ := hrec r hr
    rw [e] at hq
    rcases List.mem_cons.mp hq with z | z
    · rw [z, ← e]; exact ⟨_, setB_in hNod r hr, Int.le_refl _⟩
    · exact monoH _ _ (I.ancB b' hb' q z)
  · rcases setB_keys hn with h | h
    · exact I.bv n h
    · obtain ⟨r, hr, e⟩ := List.mem_map.mp h
      rw [← e]; exact inV r hr
  · by_cases z : n ∈ (clNext srt a b c).map Rc.node
    · obtain ⟨r, hr, e⟩ := List.mem_map.mp z
      have h : look (setB c.best (clNext srt a b c)) n = some v := h
      rw [← e, setB_in hNod r hr] at h
      exact .inl ⟨r, hr, e, Option.some.inj h⟩
    · have h : look (setB c.best (clNext srt a b c)) n = some v := h
      rw [setB_out z] at h
      exact .inr (relx n v h)
  · rcases tk.1 with e | ⟨e, _⟩
    · show RcOk a b (setT c.top (clNext srt a b c)); rw [e]; exact I.topOk
    · exact (rcok _ e).1
  · rcases tk.1 with e | ⟨e, _⟩
    · show (setT c.top (clNext srt a b c)).walk.length ≤ i + 1; rw [e]; exact Nat.le_succ_of_le I.topW
    · exact Nat.le_of_eq (rcok _ e).2
  · rcases tk.1 with e | ⟨e, _⟩
    · show HasB _ (setT c.top (clNext srt a b c)).node (setT c.top (clNext srt a b c)).value; rw [e]; exact monoH _ _ I.topB
    · exact ⟨_, setB_in hNod _ e, Int.le_refl _⟩
  · by_cases z : n ∈ (clNext srt a b c).map Rc.node
    · obtain ⟨r, hr, e⟩ := List.mem_map.mp z
      have h : look (setB c.best (clNext srt a b c)) n = some v := h
      rw [← e, setB_in hNod r hr] at h
      rw [← Option.some.inj h]
      exact tk.2.2 r hr
    · have h : look (setB c.best (clNext srt a b c)) n = some v := h
      rw [setB_out z] at h
      exact Int.le_trans (I.topM n v h) tk.2.1
  · by_cases z : ks.length ≤ i
    · exact monoH _ _ (I.pth ks hp z)
    · -- the last move
      have hne : ks ≠ [] := fun e => z (by rw [e]; exact Nat.zero_le _)
      have es : ks = ks.dropLast ++ [ks.getLast hne] := (List.dropLast_concat_getLast hne).symm
      generalize ks.dropLast = xs at es
      generalize ks.getLast hne = k at es
      subst es
      obtain ⟨p1, p2⟩ := okPath_app.mp hp
      obtain ⟨u, h1, h2⟩ := I.pth xs p1 (by rw [List.length_append, List.length_singleton] at hl; omega)
      have hs := steps_mem (a := a) (b := b) p2.2.1 p2.2.2.1
      obtain ⟨u2, h3, h4⟩ := relx _ u h1 _ hs
      rw [pathE_app, gain_snoc]
      refine ⟨u2, h3, ?_⟩
      omega
  · obtain ⟨b', hb', k, k0, k1, e, hbt⟩ := hrec r hr
    refine ⟨⟨b', hb', by rw [e]; rfl⟩, fun q hq hne => ?_⟩
    have hq2 : q ∈ b'.anc := by
      rw [e] at hq hne
      rcases List.mem_cons.mp hq with z | z
      · exact absurd z hne
      · exact z
    obtain ⟨u, h1, h2⟩ := I.ancB b' hb' q hq2
    exact ⟨u, h1, h2, fun z => by rw [z] at h1; exact better_gt hbt h1⟩
section
variable {srt : List Rc → List Rc} {a b : Rl} {N : Nat}
theorem inv_all (hsrt : ∀ l, (srt l).Perm l) (ha : okRl a) (hb : okRl b) (V : VOk a b N) : ∀ i, Inv a b N (cl srt a b i) i
  | 0 => inv0 V
  | i + 1 => (inv_next hsrt ha hb V (inv_all hsrt ha hb V i)).1
theorem best_mono (hsrt : ∀ l, (srt l).Perm l) (ha : okRl a) (hb : okRl b) (V : VOk a b N) (i : Nat) : ∀ j n v, HasB (cl srt a b i).best n v → HasB (cl srt a b (i + j)).best n v
  | 0, n, v, h => h
  | j + 1, n, v, h => by
    obtain ⟨u, h1, h2⟩ := best_mono hsrt ha hb V i j n v h
    obtain ⟨u2, h3, h4⟩ := (inv_next hsrt ha hb V (inv_all hsrt ha hb V (i + j))).2.1 n u h1
    exact ⟨u2, h3, Int.le_trans h2 h4⟩
/-- no record's node came before in layers up to i: records have different nodes -/
theorem chain (hsrt : ∀ l, (srt l).Perm l) (ha : okRl a) (hb : okRl b) (V : VOk a b N) : ∀ i, (∀ j < i, ∀ r ∈ (cl srt a b (j + 1)).layer, r.since = none) → ∀ r ∈ (cl srt a b i).layer, r.nodes.Nodup
  | 0, _, r, hr => by
    have : r = .root (fstNd a b) := List.mem_singleton.mp hr
    rw [this]
    simp [Rc.nodes, Rc.anc]
  | i + 1, h, r, hr => by
    obtain ⟨⟨b', hb', e⟩, _⟩ := (inv_next hsrt ha hb V (inv_all hsrt ha hb V i)).2.2 r hr
    have hs := h i (Nat.lt_succ_self _) r hr
    have hn := chain hsrt ha hb V i (fun j hj => h j (Nat.lt_succ_of_lt hj)) b' hb'
    cases r with
    | root n => cases e
    | ext n v k q =>
      have e : q = b' := Option.some.inj e
      subst e
      have h1 : n ∉ q.nodes := sinceN_none hs
      exact List.nodup_cons.mpr ⟨h1, hn⟩
theorem layer_lt (hsrt : ∀ l, (srt l).Perm l) (ha : okRl a) (hb : okRl b) (V : VOk a b N) (i : Nat) (h : ∀ j < i, ∀ r ∈ (cl srt a b (j + 1)).layer, r.since = none) (hne : (cl srt a b i).layer ≠ []) : i + 1 ≤ N := by
  obtain ⟨r, hr⟩ := List.exists_mem_of_ne_nil _ hne
  have h1 := chain hsrt ha hb V i h r hr
  have h2 := (inv_all hsrt ha hb V i).lay r hr
  have h3 := nodup_len h1 fun n hn => RcOk.nodesV V h2.1 n hn
  rw [nodes_len, h2.2.1, V.len] at h3
  exact h3
/-- the climb ends -/
theorem climb_end (hsrt : ∀ l, (srt l).Perm l) (ha : okRl a) (hb : okRl b) (V : VOk a b N) : ∃ M, M ≤ N ∧ (∀ i < M, (cl srt a b i).layer ≠ []) ∧ (∀ i < M, ∀ r ∈ (cl srt a b (i + 1)).layer, r.since = none) ∧
    ((cl srt a b M).layer = [] ∨ (cl srt a b M).layer ≠ [] ∧ ∃ r ∈ (cl srt a b (M + 1)).layer, r.since ≠ none) := by
  have main : ∀ k, (∃ M, M < k ∧ (∀ i < M, (cl srt a b i).layer ≠ []) ∧ (∀ i < M, ∀ r ∈ (cl srt a b (i + 1)).layer, r.since = none) ∧
    ((cl srt a b M).layer = [] ∨ (cl srt a b M).layer ≠ [] ∧ ∃ r ∈ (cl srt a b (M + 1)).layer, r.since ≠ none)) ∨ ((∀ i < k, (cl srt a b i).layer ≠ []) ∧ ∀ i < k, ∀ r ∈ (cl srt a b (i + 1)).layer, r.since = none) := by
    intro k
    induction k with
    | zero => exact .inr ⟨fun i h => absurd h (Nat.not_lt_zero _), fun i h => absurd h (Nat.not_lt_zero _)⟩
    | succ k ih =>
      rcases ih with ⟨M, h1, h2⟩ | ⟨h1, h2⟩
      · exact .inl ⟨M, by omega, h2⟩
      · by_cases z : (cl srt a b k).layer = []
        · exact .inl ⟨k, Nat.lt_succ_self _, h1, h2, .inl z⟩
        · by_cases w : ∃ r ∈ (cl srt a b (k + 1)).layer, r.since ≠ none
          · exact .inl ⟨k, Nat.lt_succ_self _, h1, h2, .inr ⟨z, w⟩⟩
          · refine .inr ⟨fun i hi => ?_, fun i hi r hr => ?_⟩
            · rcases Nat.lt_succ_iff_lt_or_eq.mp hi with q | q
              · exact h1 i q
              · rw [q]; exact z
            · rcases Nat.lt_succ_iff_lt_or_eq.mp hi with q | q
              · exact h2 i q r hr
              · subst q
                exact Classical.byContradiction fun e => w ⟨r, hr, e⟩
  rcases main (N + 1) with ⟨M, h1, h2, h3, h4⟩ | ⟨h1, h2⟩
  · exact ⟨M, by omega, h2, h3, h4⟩
  · have := layer_lt hsrt ha hb V N (fun j hj => h2 j (by omega)) (h1 N (by omega))
    omega
end
end Mi
set_option maxHeartbeats 1000000
/-! M12: what the climb's end says. -/
namespace Mi
section
variable {srt : List Rc → List Rc} {a b : Rl} {N : Nat}
structure LayOk (a b : Rl) (N : Nat) (c : Cl) (i : Nat) : Prop where
  lay : ∀ r ∈ c.layer, look (gG a b N) r.node = some (steps a b r.node) ∧ okNd a b r.node ∧ r.walk.length = i
  len : c.layer.length ≤ 1144
  blen : c.best.length ≤ 1144
theorem best_len {c : Cl} {i : Nat} (V : VOk a b N) (I : Inv a b N c i) : c.best.length ≤ 1144 := by
  have := nodup_len I.bn I.bv
  rw [List.length_map, V.len] at this
  exact Nat.le_trans this V.sm
theorem lay_ok (hsrt : ∀ l, (srt l).Perm l) (ha : okRl a) (hb : okRl b) (V : VOk a b N) (i : Nat) : LayOk a b N (cl srt a b i) i := by
  have I := inv_all hsrt ha hb V i
  refine ⟨fun r hr => ?_, ?_, best_len V I⟩
  · obtain ⟨h1, h2, h3⟩ := I.lay r hr
    exact ⟨V.st _ h3, V.ok _ h3, h2⟩
  · have := nodup_len I.layN fun n hn => by
      obtain ⟨r, hr, e⟩ := List.mem_map.mp hn
      rw [← e]; exact (I.lay r hr).2.2
    rw [List.length_map, V.len] at this
    exact Nat.le_trans this V.sm
theorem srt_nil (hsrt : ∀ l, (srt l).Perm l) : srt [] = [] := (hsrt []).eq_nil
theorem cl_stop (hsrt : ∀ l, (srt l).Perm l) {M : Nat} (h : (cl srt a b M).layer = []) : ∀ j, (cl srt a b (M + j)).layer = [] ∧ (cl srt a b (M + j)).best = (cl srt a b M).best ∧ (cl srt a b (M + j)).top = (cl srt a b M).top
  | 0 => ⟨h, rfl, rfl⟩
  | j + 1 => by
    obtain ⟨h1, h2, h3⟩ := cl_stop hsrt h j
    have e : clNext srt a b (cl srt a b (M + j)) = [] := by
      unfold clNext
      rw [h1]
      exact srt_nil hsrt
    refine ⟨e, ?_, ?_⟩
    · show setB (cl srt a b (M + j)).best (clNext srt a b (cl srt a b (M + j))) = _
      rw [e]; exact h2
    · show setT (cl srt a b (M + j)).top (clNext srt a b (cl srt a b (M + j))) = _
      rw [e]; exact h3
theorem top_later (i : Nat) : ∀ j, (cl srt a b (i + j)).top = (cl srt a b i).top ∨ (cl srt a b i).top.value < (cl srt a b (i + j)).top.value
  | 0 => .inl rfl
  | j + 1 => by
    have ih := top_later i j
    have k := (setT_ok (clNext srt a b (cl srt a b (i + j))) (cl srt a b (i + j)).top).1
    have e : (cl srt a b (i + (j + 1))).top = setT (cl srt a b (i + j)).top (clNext srt a b (cl srt a b (i + j))) := rfl
    rw [← e] at k
    rcases k with k | ⟨_, k⟩
    · rw [k]; exact ih
    · rcases ih with ih | ih
      · rw [ih] at k; exact .inr k
      · exact .inr (by omega)
theorem first_zero (hsrt : ∀ l, (srt l).Perm l) (ha : okRl a) (hb : okRl b) (V : VOk a b N) : ∀ i, (∀ j < i, ∀ r ∈ (cl srt a b (j + 1)).layer, r.since = none) → look (cl srt a b i).best (fstNd a b) = some 0
  | 0, _ => by
    show look [(fstNd a b, (0 : Int))] (fstNd a b) = some 0
    unfold look
    rw [List.find?_cons, decide_eq_true rfl]; rfl
  | i + 1, h => by
    have ih := first_zero hsrt ha hb V i fun j hj => h j (Nat.lt_succ_of_lt hj)
    show look (setB (cl srt a b i).best (clNext srt a b (cl srt a b i))) _ = _
    rw [setB_out]
    · exact ih
    · intro z
      obtain ⟨r, hr, e⟩ := List.mem_map.mp z
      have hr2 : r ∈ (cl srt a b (i + 1)).layer := hr
      have hs := h i (Nat.lt_succ_self _) r hr2
      obtain ⟨h1, h2, h3⟩ := (inv_all hsrt ha hb V (i + 1)).lay r hr2
      cases r with
      | root n => cases h2
      | ext n v k q =>
        have : n ∉ q.nodes := sinceN_none hs
        have hroot := RcOk.root (a := a) (b := b) (r := q) h1.1
        have hm : fstNd a b ∈ q.nodes := List.mem_map.mpr ⟨_, hroot, rfl⟩
        rw [show n = fstNd a b from e] at this
        exact this hm
structure MostOk (a b : Rl) (c : Cl) : Prop where
  p1 : ∀ p ∈ c.best, okNd a b p.1
  p2 : (c.best.map (·.1)).Nodup
  p3 : look c.best (fstNd a b) = some 0
  p4 : ∀ p ∈ c.best, ∀ s ∈ steps a b p.1, ∃ u, look c.best s.later = some u ∧ p.2 + (s.its - s.mine) ≤ u
  p5 : c.best.length ≤ 1144
  t1 : okPath a b (fstNd a b) c.top.walk
  t2 : c.top.walk.length ≤ 1144
  t3 : gainOf (pathS a b (fstNd a b) c.top.walk) = c.top.value
  t4 : c.top.value ∈ c.best.map (·.2)
  t5 : ∀ v ∈ c.best.map (·.2), v ≤ c.top.value
  t6 : 0 ≤ c.top.value
  q1 : ∀ ks : List Int, okPath a b (fstNd a b) ks → gainOf (pathS a b (fstNd a b) ks) ≤ c.top.value
  q2 : ∀ ks : List Int, okPath a b (fstNd a b) ks → gainOf (pathS a b (fstNd a b) ks) = c.top.value → c.top.walk.length ≤ ks.length
theorem most_ok (hsrt : ∀ l, (srt l).Perm l) (ha : okRl a) (hb : okRl b) (V : VOk a b N) {M : Nat} (hM : M ≤ N) (h1 : ∀ i < M, ∀ r ∈ (cl srt a b (i + 1)).layer, r.since = none) (h2 : (cl srt a b M).layer = []) : MostOk a b (cl srt a b M) := by
  have I := inv_all hsrt ha hb V M
  have hN := V.sm
  have tp := I.topOk.path ha hb
  have lk : ∀ p ∈ (cl srt a b M).best, look (cl srt a b M).best p.1 = some p.2 := fun p hp => (look_nodup I.bn).mpr hp
  have f0 := first_zero hsrt ha hb V M h1
  have q1 : ∀ ks : List Int, okPath a b (fstNd a b) ks → gainOf (pathS a b (fstNd a b) ks) ≤ (cl srt a b M).top.value := fun ks hp => by
    have I2 := inv_all hsrt ha hb V (M + ks.length)
    obtain ⟨u, e1, e2⟩ := I2.pth ks hp (by omega)
    have := I2.topM _ _ e1
    rw [(cl_stop hsrt h2 ks.length).2.2] at this
    omega
  refine ⟨fun p hp => V.ok _ (I.bv _ (List.mem_map_of_mem hp)), I.bn, f0, fun p hp s hs => ?_, best_len V I, tp.1, by have := I.topW; omega, tp.2.2, ?_, fun v hv => ?_, I.topM _ _ f0, q1, fun ks hp hg => ?_⟩
  · rcases I.rel p.1 p.2 (lk p hp) with ⟨r, hr, _⟩ | h
    · rw [h2] at hr; cases hr
    · exact h s hs
  · obtain ⟨u, e1, e2⟩ := I.topB
    have e3 := I.topM _ _ e1
    have e4 : u = (cl srt a b M).top.value := by omega
    rw [e4] at e1
    exact List.mem_map.mpr ⟨_, (look_nodup I.bn).mp e1, rfl⟩
  · obtain ⟨p, hp, rfl⟩ := List.mem_map.mp hv
    exact I.topM _ _ (lk p hp)
  · -- no shorter walk
    by_cases z : (cl srt a b M).top.walk.length ≤ ks.length
    · exact z
    · have hlt : ks.length ≤ M := by have := I.topW; omega
      have I2 := inv_all hsrt ha hb V ks.length
      obtain ⟨u, e1, e2⟩ := I2.pth ks hp (Nat.le_refl _)
      have e3 := I2.topM _ _ e1
      have k := top_later (srt := srt) (a := a) (b := b) ks.length (M - ks.length)
      rw [show ks.length + (M - ks.length) = M by omega] at k
      rcases k with k | k
      · rw [k]; exact I2.topW
      · omega
structure EverOk (a b : Rl) (ns ls : List Int) : Prop where
  w1 : okPath a b (fstNd a b) ns
  w2 : okPath a b (pathE a b (fstNd a b) ns) ls
  ne : ls ≠ []
  e : pathE a b (pathE a b (fstNd a b) ns) ls = pathE a b (fstNd a b) ns
  l1 : ns.length ≤ 1145
  l2 : ls.length ≤ 1145
  g : 0 < gainOf (pathS a b (pathE a b (fstNd a b) ns) ls)
theorem since_anc {r bf : Rc} (h : r.since = some bf) : ∃ q, r.before = some q ∧ bf ∈ q.anc ∧ bf.node = r.node := by
  cases r with
  | root n => cases h
  | ext n v k q =>
    have := sinceN_some h
    exact ⟨q, rfl, this.1, this.2⟩
theorem ever_ok (hsrt : ∀ l, (srt l).Perm l) (ha : okRl a) (hb : okRl b) (V : VOk a b N) {M : Nat} (hM : M ≤ N) {r bf : Rc} (hr : r ∈ (cl srt a b (M + 1)).layer) (hs : r.since = some bf) : EverOk a b bf.walk (r.walk.drop bf.walk.length) ∧ bf.value < r.value ∧ RcOk a b r ∧ bf ∈ r.anc := by
  have hN := V.sm
  obtain ⟨h1, h2, h3⟩ := (inv_all hsrt ha hb V (M + 1)).lay r hr
  have k := (inv_next hsrt ha hb V (inv_all hsrt ha hb V M)).2.2 r hr
  obtain ⟨q, q1, q2, q3⟩ := since_anc hs
  have hanc : bf ∈ r.anc := by
    cases r with
    | root n => cases q1
    | ext n v k' q' =>
      have q1 : q' = q := Option.some.inj q1
      subst q1
      exact List.mem_cons_of_mem _ q2
  have hqr : RcOk a b q ∧ r.walk.length = q.walk.length + 1 := by
    cases r with
    | root n => cases q1
    | ext n v k' q' =>
      have q1 : q' = q := Option.some.inj q1
      subst q1
      exact ⟨h1.1, by show (q'.walk ++ [k']).length = _; rw [List.length_append]; rfl⟩
  obtain ⟨b1, ls2, b2⟩ := RcOk.anc hqr.1 q2
  have hlen : bf.walk.length ≤ q.walk.length := by rw [b2, List.length_append]; omega
  have hne : bf ≠ r := fun e => by rw [e] at hlen; omega
  obtain ⟨u, u1, u2, u3⟩ := k.2 bf hanc hne
  have hv : bf.value < r.value := by have := u3 q3; omega
  obtain ⟨_, ls, ew⟩ := RcOk.anc h1 hanc
  have ed : r.walk.drop bf.walk.length = ls := by rw [ew, List.drop_left]
  obtain ⟨p1, p2, p3⟩ := h1.path ha hb
  obtain ⟨o1, o2, o3⟩ := b1.path ha hb
  rw [ed]
  rw [ew] at p1 p2 p3
  rw [pathE_app] at p2
  rw [pathS_app, gainOf_app] at p3
  have p1 := okPath_app.mp p1
  have hl : bf.walk.length + ls.length = M + 1 := by rw [← h2, ew, List.length_append]
  refine ⟨⟨p1.1, p1.2, fun z => ?_, by rw [p2, o2, q3], by omega, by omega, by omega⟩, hv, h1, hanc⟩
  rw [z] at hl
  simp at hl
  omega
/-! no move adds: nothing to gain -/
def Flat (a b : Rl) : Prop := ∀ r, RcOk a b r → ∀ k, 0 ≤ k → k ≤ howMany r.node → (stpAt a b r.node k).its - (stpAt a b r.node k).mine ≤ 0
theorem flat_anc (hf : Flat a b) : ∀ {r q : Rc}, RcOk a b r → q ∈ r.anc → r.value ≤ q.value
  | .root n, q, h, hq => by
    have e : q = .root n := by simpa [Rc.anc] using hq
    rw [e]; exact Int.le_refl _
  | .ext n v k r, q, h, hq => by
    rcases List.mem_cons.mp hq with e | e
    · rw [e]; exact Int.le_refl _
    · have h1 := flat_anc hf h.1 e
      have h2 := hf r h.1 k h.2.1 h.2.2.1
      have h3 : v = _ := h.2.2.2.2
      show v ≤ q.value
      omega
theorem flat_top (hsrt : ∀ l, (srt l).Perm l) (ha : okRl a) (hb : okRl b) (V : VOk a b N) (hf : Flat a b) : ∀ i, (cl srt a b i).top = .root (fstNd a b)
  | 0 => rfl
  | i + 1 => by
    have ih := flat_top hsrt ha hb V hf i
    rcases top_later (srt := srt) (a := a) (b := b) i 1 with k | k
    · rw [k]; exact ih
    · have h1 := (inv_all hsrt ha hb V (i + 1)).topOk
      have h2 := flat_anc hf h1 (RcOk.root h1)
      rw [ih] at k
      have h3 : (Rc.root (fstNd a b)).value = 0 := rfl
      omega
theorem flat_same (a : Rl) : Flat a a := fun r hr k h0 h1 => by
  have key : ∀ {r : Rc}, RcOk a a r → r.node.1 = r.node.2 := by
    intro r
    induction r with
    | root n => intro h; rw [show Rc.node (.root n) = n from rfl, show n = fstNd a a from h]; rfl
    | ext n v k q ih =>
      intro h
      have e := ih h.1
      show n.1 = n.2
      rw [h.2.2.2.1]
      unfold movedTo named
      rw [e]
  unfold stpAt
  rw [key hr]
  simp
theorem flat_within {a b : Rl} {N : Nat} (V : VOk a b N) (h : ∀ n ∈ vs a b N, ∀ x ∈ n.1.1, x = -1 ∨ x ∈ n.2.1) : Flat a b := fun r hr k h0 h1 => by
  have hv : r.node ∈ vs a b N := RcOk.nodesV V hr _ (List.mem_map_of_mem (anc_self r))
  have hw := h _ hv k
  unfold stpAt b01 isHit
  by_cases z : k ∈ r.node.1.1
  · have : k ∈ r.node.2.1 := by
      rcases hw z with e | e
      · omega
      · exact e
    simp [z, this]
  · simp only [z, decide_false]
    by_cases y : k ∈ r.node.2.1 <;> simp [y]
end
end Mi
set_option maxHeartbeats 1000000
/-! F1: goesout.rules: what tells whether any value is a rule. -/
namespace G
open PySem PySem.Spec PyProof.Rows L2 LamX NdefX
abbrev sWhole : Stmt := topS 24
theorem scWhole : FnScope ["thing", "low", "high"] ["thing", "low", "high"] (defScope sWhole) := ⟨rfl, rfl, rfl, by decide +kernel, rfl, by decide +kernel, by decide +kernel⟩
abbrev sMove : Stmt := topS 26
theorem scMove : FnScope ["thing", "places", "labels"] ["thing", "places", "labels"] (defScope sMove) := ⟨rfl, rfl, rfl, by decide +kernel, rfl, by decide +kernel, by decide +kernel⟩
abbrev sMoves : Stmt := topS 27
theorem scMoves : FnScope ["thing", "places", "labels", "one"] ["thing", "places", "labels"] (defScope sMoves) := ⟨rfl, rfl, rfl, by decide +kernel, rfl, by decide +kernel, by decide +kernel⟩
abbrev sLR : Stmt := topS 28
theorem scLR : FnScope ["thing", "places", "labels", "hits", "out", "comes"] ["thing", "places", "labels"] (defScope sLR) := ⟨rfl, rfl, rfl, by decide +kernel, rfl, by decide +kernel, by decide +kernel⟩
abbrev sRule : Stmt := topS 29
theorem scRule : FnScope ["thing", "places", "labels", "one"] ["thing"] (defScope sRule) := ⟨rfl, rfl, rfl, by decide +kernel, rfl, by decide +kernel, by decide +kernel⟩
abbrev sNeedR : Stmt := topS 30
theorem scNeedR : FnScope ["rule"] ["rule"] (defScope sNeedR) := ⟨rfl, rfl, rfl, by decide +kernel, rfl, by decide +kernel, by decide +kernel⟩

def preOrder (xs : List Vl) (y : Vl) : Prop := ∃ (o : List Int) (p : Int), xs = [eI o, .int p] ∧ Mi.okOrder p o ∧ 0 ≤ p ∧ p ≤ 4 ∧ y = .bl true
def preMove (xs : List Vl) (y : Vl) : Prop := ∃ (m : Mi.Mv) (p L : Int), xs = [eMv m, .int p, .int L] ∧ Mi.okMv p L m ∧ 0 ≤ p ∧ p ≤ 4 ∧ y = .bl true
def preMoves (xs : List Vl) (y : Vl) : Prop := ∃ (ms : List Mi.Mv) (p L : Int), xs = [.tup (ms.map eMv), .int p, .int L] ∧ (ms.length : Int) = p ∧ (∀ m ∈ ms, Mi.okMv p L m) ∧ 0 ≤ p ∧ p ≤ 4 ∧ y = .bl true
def preLR (xs : List Vl) (y : Vl) : Prop := ∃ (r : Mi.LR) (p L : Int), xs = [eLR r, .int p, .int L] ∧ Mi.okLR p L r ∧ 0 ≤ p ∧ p ≤ 4 ∧ y = .bl true
def preRule (xs : List Vl) (y : Vl) : Prop := ∃ r : Mi.Rl, xs = [eRl r] ∧ Mi.okRl r ∧ y = .bl true
def preNeedR (xs : List Vl) (y : Vl) : Prop := ∃ r : Mi.Rl, xs = [eRl r] ∧ Mi.okRl r ∧ y = .non
section
variable {P : Program} {w : World} {K : PySem.W.Frag} {mg : Str → Option Value} {base : Heap} {T : List NTab} {f : Addr} {fd : FuncData}
abbrev D (P : Program) (w : World) (K : PySem.W.Frag) (mg : Str → Option Value) (base : Heap) (T : List NTab) (k : Nat) (name : Str) (ps : List Str) (pre : List Vl → Vl → Prop) : Prop := FnG P w K mg base k name ps (spV K T pre)
theorem ok_whole (F : Fun K "is_whole" "is_whole" sWhole f fd) (Gm : Gf mg) : FnOk P w K mg base CX0 1 f fd ["thing", "low", "high"] (spV K T preWhole) := by
  refine okV F scWhole (fun xs y ⟨_, _, _, e, _⟩ => by rw [e]; rfl) fun cdv A outer s H E B xs y hT hr ⟨i, lo, hi, e1, hlo, e2⟩ => ?_
  subst e1 e2
  exact ⟨_, grs_one (gr_ret (ge_andT (g_isiI Gm (gv 0)) (ge_andT (ge_is (ge_not (g_isiB Gm (gv 0))) rfl) (ge_one (g_between (gv 1) (gv 0) (gv 2) hlo)))))⟩
theorem ok_move (F : Fun K "is_move" "is_move" sMove f fd) (Gm : Gf mg) (F1 : D P w K mg base T 2 "is_order" ["thing", "places"] preOrder) (F2 : D P w K mg base T 1 "is_whole" ["thing", "low", "high"] preWhole) :
    FnOk P w K mg base CX0 3 f fd ["thing", "places", "labels"] (spV K T preMove) := by
  refine okV F scMove (fun xs y ⟨_, _, _, e, _⟩ => by rw [e]; rfl) fun cdv A outer s H E B xs y hT hr ⟨m, p, L, e1, hm, h1, h2, e2⟩ => ?_
  subst e1 e2 hT
  exact ⟨_, grs_cons (gs_skip (gt_guard Gm (gv 0) (gv 0) ge_int rfl)) (grs_one (gr_ret (ge_andT (ge_call F1 hr (by omega) rfl (ga_cons (ge_ixT (gv 0) ge_int rfl) (ga_cons (gv 1) ga_nil)) ⟨m.1, p, rfl, hm.1, h1, h2, rfl⟩)
    (ge_one (ge_call F2 hr (by omega) rfl (ga_cons (ge_ixT (gv 0) ge_int rfl) (ga_cons ge_int (ga_cons (ge_sub (gv 2) ge_int) ga_nil))) ⟨m.2, 0, L - 1, rfl, hm.2.1, by rw [decide_eq_true (by have := hm.2.2; omega)]⟩)))))⟩
theorem ok_moves (F : Fun K "are_moves" "are_moves" sMoves f fd) (Gm : Gf mg) (F1 : D P w K mg base T 3 "is_move" ["thing", "places", "labels"] preMove) :
    FnOk P w K mg base CX0 4 f fd ["thing", "places", "labels"] (spV K T preMoves) := by
  refine okV F scMoves (fun xs y ⟨_, _, _, e, _⟩ => by rw [e]; rfl) fun cdv A outer s H E B xs y hT hr ⟨ms, p, L, e1, hl, hm, h1, h2, e2⟩ => ?_
  subst e1 e2 hT
  refine ⟨_, grs_cons (gs_skip (gt_guard Gm (gv 0) (gv 0) (gv 1) (by rw [List.length_map]; exact hl))) (grs_one (gr_ret (ge_is (g_allC (as := ms) (k := 3) eMv (fun _ => true) Gm rfl scMoves.nd (gv 0) (blkOk_by (N := ["thing", "places", "labels", "one"]) (sc := defScope sMoves) (by decide +kernel)) rfl rfl (Nat.le_of_ble_eq_true rfl) (fun s H C cl fp a ha => ?_) (by rw [sizeLine_eq]; omega)) ?_)))⟩
  · exact ge_call F1 hr (by omega) rfl (ga_cons (gv 3) (ga_cons (gv 1) (ga_cons (gv 2) ga_nil))) ⟨a, p, L, rfl, hm a ha, h1, h2, rfl⟩
  · simp
theorem ok_LR (F : Fun K "is_label_row" "is_label_row" sLR f fd) (Gm : Gf mg) (F1 : D P w K mg base T 4 "are_moves" ["thing", "places", "labels"] preMoves) (F2 : D P w K mg base T 1 "is_whole" ["thing", "low", "high"] preWhole) :
    FnOk P w K mg base CX0 5 f fd ["thing", "places", "labels"] (spV K T preLR) := by
  refine okV F scLR (fun xs y ⟨_, _, _, e, _⟩ => by rw [e]; rfl) fun cdv A outer s H E B xs y hT hr ⟨r, p, L, e1, hm, h1, h2, e2⟩ => ?_
  subst e1 e2 hT
  exact ⟨_, grs_cons (gs_skip (gt_guard Gm (gv 0) (gv 0) ge_int rfl)) (grs_cons (gs_unp (gv 0) (pgNc (i := 3) scLR.nd rfl (pgNc (i := 4) scLR.nd rfl (pgNc (i := 5) scLR.nd rfl pgN0))))
    (grs_one (gr_ret (ge_andT (ge_call F1 hr (by omega) rfl (ga_cons (gv 3) (ga_cons (gv 1) (ga_cons (gv 2) ga_nil))) ⟨r.hits, p, L, rfl, hm.hl, hm.h, h1, h2, rfl⟩)
    (ge_andT (ge_call F2 hr (by omega) rfl (ga_cons (gv 4) (ga_cons ge_int (ga_cons (ge_sub (gv 1) ge_int) ga_nil))) ⟨r.out, 0, p - 1, rfl, hm.o.1, by rw [decide_eq_true (by have := hm.o.2; omega)]⟩)
    (ge_one (ge_call F1 hr (by omega) rfl (ga_cons (gv 5) (ga_cons (gv 1) (ga_cons (gv 2) ga_nil))) ⟨r.comes, p, L, rfl, hm.cl, hm.c, h1, h2, rfl⟩)))))))⟩
theorem ok_rule (F : Fun K "is_rule" "is_rule" sRule f fd) (Gm : Gf mg) (F1 : D P w K mg base T 5 "is_label_row" ["thing", "places", "labels"] preLR) (F2 : D P w K mg base T 1 "is_whole" ["thing", "low", "high"] preWhole) :
    FnOk P w K mg base CX0 6 f fd ["thing"] (spV K T preRule) := by
  refine okV F scRule (fun xs y ⟨_, e, _⟩ => by rw [e]; rfl) fun cdv A outer s H E B xs y hT hr ⟨r, e1, hm, e2⟩ => ?_
  subst e1 e2 hT
  have hp := hm.p
  have hl := hm.l
  refine ⟨_, grs_cons (gs_skip (gt_guard Gm (gv 0) (gv 0) ge_int rfl)) (grs_cons (gs_unp (gv 0) (pgNc (i := 1) scRule.nd rfl (pgNc (i := 2) scRule.nd rfl pgN0)))
    (grs_cons (gs_skip (gw_t (gw_orF (gt_is (gt_not (gt_val (ge_call F2 hr (by omega) rfl (ga_cons (gv 1) (ga_cons ge_int (ga_cons (g_mostP Gm) ga_nil))) ⟨r.places, 1, 4, rfl, hp.1, by rw [decide_eq_true (by omega)]⟩))) rfl) (gw_or1 (gt_is (gt_not (gt_val (g_isiT Gm (gv 2)))) rfl)))))
    (grs_cons (gs_skip (gt_is (gt_not (gt_between ge_int (g_len Gm (gv 2)) (g_mostL Gm) (by rw [List.length_map]; omega))) (by rw [decide_eq_true (by rw [List.length_map]; omega)]; rfl)))
    (grs_one (gr_ret (ge_is (g_allC (as := r.labels) (k := 3) eLR (fun _ => true) Gm rfl scRule.nd (gv 2) (blkOk_by (N := ["thing", "places", "labels", "one"]) (sc := defScope sRule) (by decide +kernel)) rfl rfl (Nat.le_of_ble_eq_true rfl) (fun s H C cl fp a ha => ?_) (by rw [sizeLine_eq]; omega)) ?_)))))) ⟩
  · exact ge_call F1 hr (by omega) rfl (ga_cons (gv 3) (ga_cons (gv 1) (ga_cons (g_len Gm (gv 2)) ga_nil))) ⟨a, r.places, r.labels.length, by rw [List.length_map], hm.a a ha, by omega, by omega, rfl⟩
  · simp
theorem ok_needR (F : Fun K "need_rule" "need_rule" sNeedR f fd) (F1 : D P w K mg base T 6 "is_rule" ["thing"] preRule) :
    FnOk P w K mg base CX0 7 f fd ["rule"] (spV K T preNeedR) := by
  refine okN F scNeedR (fun xs y ⟨_, e, _⟩ => by rw [e]; rfl) (fun xs y ⟨_, _, _, e⟩ => e) fun cdv A outer s H E B xs y hT hr ⟨r, e1, hm, e2⟩ => ?_
  subst e1 e2 hT
  exact ⟨_, gss_cons (gs_skip (gt_is (gt_not (gt_val (ge_call F1 hr (by omega) rfl (ga_cons (gv 0) ga_nil) ⟨r, rfl, hm, rfl⟩))) rfl)) gss_nil⟩
end
end G
set_option maxHeartbeats 4000000
/-! F2: goesout.rules: states and steps. -/
namespace G
open PySem PySem.Spec PyProof.Rows L2 LamX NdefX
abbrev sThing : Stmt := topS 31
theorem scThing : FnScope ["thing"] ["thing"] (defScope sThing) := ⟨rfl, rfl, rfl, by decide +kernel, rfl, by decide +kernel, by decide +kernel⟩
abbrev sFirst : Stmt := topS 32
theorem scFirst : FnScope ["rule"] ["rule"] (defScope sFirst) := ⟨rfl, rfl, rfl, by decide +kernel, rfl, by decide +kernel, by decide +kernel⟩
abbrev sRow : Stmt := topS 33
theorem scRow : FnScope ["thing", "places", "one"] ["thing", "places"] (defScope sRow) := ⟨rfl, rfl, rfl, by decide +kernel, rfl, by decide +kernel, by decide +kernel⟩
abbrev sStateOf : Stmt := topS 34
theorem scStateOf : FnScope ["rule", "thing"] ["rule", "thing"] (defScope sStateOf) := ⟨rfl, rfl, rfl, by decide +kernel, rfl, by decide +kernel, by decide +kernel⟩
abbrev sArr : Stmt := topS 35
theorem scArr : FnScope ["row", "order", "at"] ["row", "order"] (defScope sArr) := ⟨rfl, rfl, rfl, by decide +kernel, rfl, by decide +kernel, by decide +kernel⟩
abbrev sStep : Stmt := topS 36
abbrev nStep : List Str := ["rule", "state", "thing", "row", "label", "hits", "out", "comes", "order", "later", "place", "gone", "filled"]
theorem scStep : FnScope nStep ["rule", "state", "thing"] (defScope sStep) := ⟨rfl, rfl, rfl, by decide +kernel, rfl, by decide +kernel, by decide +kernel⟩

def preThing (xs : List Vl) (y : Vl) : Prop := ∃ i : Int, xs = [.int i] ∧ 0 ≤ i ∧ i ≤ 99 ∧ y = .bl true
def preFirst (xs : List Vl) (y : Vl) : Prop := ∃ r : Mi.Rl, xs = [eRl r] ∧ Mi.okRl r ∧ y = eSt (Mi.first r)
def preRow (xs : List Vl) (y : Vl) : Prop := ∃ (ns : List Int) (p : Int), xs = [.tud (ns.map .int), .int p] ∧ (ns.length : Int) = p ∧ p ≤ 4 ∧ (∀ n ∈ ns, -1 ≤ n ∧ n ≤ 99) ∧ (∀ n ∈ ns, n = -1 ∨ ns.count n = 1) ∧ y = .bl true
def preStateOf (xs : List Vl) (y : Vl) : Prop := ∃ (r : Mi.Rl) (s : Mi.Sta), xs = [eRl r, eSt s] ∧ Mi.okRl r ∧ Mi.okSt r s ∧ y = .bl true
def preArr (xs : List Vl) (y : Vl) : Prop := ∃ row o : List Int, xs = [eI row, eI o] ∧ (∀ i ∈ o, 0 ≤ i ∧ i < row.length) ∧ o.length ≤ 4 ∧ y = .tud ((Mi.arr row o).map .int)
def gonV : Option Int → Vl
  | none => .non
  | some i => .int i
def preStep (xs : List Vl) (y : Vl) : Prop := ∃ (r : Mi.Rl) (s : Mi.Sta) (x : Int), xs = [eRl r, eSt s, .int x] ∧ Mi.okRl r ∧ Mi.okSt r s ∧ y = .tup [.bl (Mi.isHit s x), gonV (Mi.goneOf r s x), eSt (Mi.step r s x)]
theorem countP_int {k : Int} : ∀ ns : List Int, (ns.map V.int).countP (fun z => eqV z (.int k)) = ns.count k
  | [] => rfl
  | n :: ns => by
    rw [List.map_cons, List.countP_cons, countP_int ns, List.count_cons]
    congr 1
section
variable {X : Cx} {B : Bs} {Γ : List Sl} {a b : Expr} {pos : Pos}
theorem g_countI {ns : List Int} {k : Int} {apos : Pos} (ha : GE X B Γ a (.tud (ns.map .int))) (hb : GE X B Γ b (.int k)) (hbase : attributeBase a "count" X.env (eval a X.env) = eval a X.env := by rfl)
    (hfew : ((backTo pos (starEach [b] X.env)).all (fun x => !x.1) && (backToKw pos (keywordEach [] X.env)).all (fun x => x.1.isSome)
      && decide (([b] : List Expr).length + ([] : List Keyword).length + (if ([] : List Keyword).isEmpty then 0 else 1) < 30)) = true := by rfl)
    (hline : (apos.endLine == pos.line) = true := by rfl) (hs : starEach [b] X.env = (false, eval b X.env) :: starEach [] X.env := by rfl) : GE X B Γ (.Call (.Attribute a "count" apos) [b] [] pos) (.int (ns.count k : Nat)) :=
  ge_tcount ha hb (fun S v h => h) (fun S vs h => reps_ints h) rfl (flat_ints ns) (countP_int ns) hbase hfew hline hs
end
theorem mapGet {α : Type} {e : α → Vl} {l : List α} {i : Int} {d : α} (h0 : 0 ≤ i) (h : i < l.length) : atI (l.map e) i = some (e (l.getD i.toNat d)) := by
  have e1 : i = (i.toNat : Int) := by omega
  rw [e1]
  refine atI_nat ?_
  have hl : i.toNat < l.length := by omega
  rw [List.getElem?_map, List.getElem?_eq_getElem hl, Int.toNat_natCast, List.getD_eq_getElem?_getD, List.getElem?_eq_getElem hl]
  rfl
theorem cutX_take {α : Type} (xs : List α) (k : Nat) : cutX xs none (some (k : Int)) = xs.take k := by
  unfold cutX
  rw [HT.sIx_none, HT.sIx_nat, List.drop_zero, Nat.sub_zero]
  by_cases h : k ≤ xs.length
  · rw [Nat.min_eq_left h]
  · rw [Nat.min_eq_right (by omega), List.take_of_length_le (Nat.le_refl _), List.take_of_length_le (by omega)]
theorem cutX_drop {α : Type} (xs : List α) (k : Nat) : cutX xs (some (k : Int)) none = xs.drop k := by
  unfold cutX
  rw [HT.sIx_none, HT.sIx_nat]
  by_cases h : k ≤ xs.length
  · rw [Nat.min_eq_left h, List.take_of_length_le (by rw [List.length_drop]; omega)]
  · rw [Nat.min_eq_right (by omega), Nat.sub_self, List.take_zero, List.drop_eq_nil_of_le (by omega)]
section
variable {P : Program} {w : World} {K : PySem.W.Frag} {mg : Str → Option Value} {base : Heap} {T : List NTab} {f : Addr} {fd : FuncData}
theorem ok_thing (F : Fun K "is_thing" "is_thing" sThing f fd) (Gm : Gf mg) (F2 : D P w K mg base T 1 "is_whole" ["thing", "low", "high"] preWhole) : FnOk P w K mg base CX0 2 f fd ["thing"] (spV K T preThing) := by
  refine okV F scThing (fun xs y ⟨_, e, _⟩ => by rw [e]; rfl) fun cdv A outer s H E B xs y hT hr ⟨i, e1, h0, h1, e2⟩ => ?_
  subst e1 e2 hT
  exact ⟨_, grs_one (gr_ret (ge_call F2 hr (by omega) rfl (ga_cons (gv 0) (ga_cons ge_int (ga_cons (g_mostT Gm) ga_nil))) ⟨i, 0, 99, rfl, h0, by rw [decide_eq_true h1]⟩))⟩
theorem ok_first (F : Fun K "first_state" "first_state" sFirst f fd) (Gm : Gf mg) : FnOk P w K mg base CX0 1 f fd ["rule"] (spV K T preFirst) := by
  refine okV F scFirst (fun xs y ⟨_, e, _⟩ => by rw [e]; rfl) fun cdv A outer s H E B xs y hT hr ⟨r, e1, h, e2⟩ => ?_
  subst e1 e2 hT
  have hp := h.p
  refine ⟨_, grs_one (gr_ret (ge_is (ge_tup (ga_cons (ge_repD (n := r.places) (ge_tupD (ga_cons (g_blank Gm) ga_nil) (by decide)) (ge_ixT (gv 0) ge_int rfl) hp.1 (by omega) (by simp) (by decide)) (ga_cons ge_int ga_nil)) (Nat.le_of_ble_eq_true rfl)) ?_))⟩
  unfold eSt Mi.first
  congr 3
  show _ = List.map Vl.int (List.replicate r.places.toNat (-1))
  rw [List.map_replicate]
  generalize r.places.toNat = n
  induction n with
  | zero => rfl
  | succ n ih => rw [List.replicate_succ, List.flatten_cons, ih]; rfl
theorem ok_row (F : Fun K "is_row" "is_row" sRow f fd) (Gm : Gf mg) (F2 : D P w K mg base T 1 "is_whole" ["thing", "low", "high"] preWhole) : FnOk P w K mg base CX0 2 f fd ["thing", "places"] (spV K T preRow) := by
  refine okV F scRow (fun xs y ⟨_, _, e, _⟩ => by rw [e]; rfl) fun cdv A outer s H E B xs y hT hr ⟨ns, p, e1, hl, hp, hn, hd, e2⟩ => ?_
  subst e1 e2 hT
  refine ⟨_, grs_cons (gs_skip (gt_guard Gm (ge_tud (gv 0)) (ge_tud (gv 0)) (gv 1) (by rw [List.length_map]; exact hl)))
    (grs_cons (gs_skip (gt_is (gt_not (gt_val (g_allC (as := ns) (k := 2) .int (fun _ => true) Gm rfl scRow.nd (ge_tud (gv 0)) (blkOk_by (N := ["thing", "places", "one"]) (sc := defScope sRow) (by decide +kernel)) rfl rfl (Nat.le_of_ble_eq_true rfl) (fun s H C cl fp a ha => ?_) (by rw [sizeLine_eq]; omega)))) (by simp)))
    (grs_one (gr_ret (ge_is (g_allC (as := ns) (k := 2) .int (fun _ => true) Gm rfl scRow.nd (ge_tud (gv 0)) (blkOk_by (N := ["thing", "places", "one"]) (sc := defScope sRow) (by decide +kernel)) rfl rfl (Nat.le_of_ble_eq_true rfl) (fun s H C cl fp a ha => ?_) (by rw [sizeLine_eq]; omega)) (by simp)))))⟩
  · exact ge_call F2 hr (by omega) rfl (ga_cons (gv 2) (ga_cons (g_blank Gm) (ga_cons (g_mostT Gm) ga_nil))) ⟨a, -1, 99, rfl, (hn a ha).1, by rw [decide_eq_true (hn a ha).2]⟩
  · by_cases h : a = -1
    · exact ge_orT (ge_is (ge_eqI (gv 2) (g_blank Gm)) (by rw [decide_eq_true h]))
    · exact ge_orF (ge_is (ge_eqI (gv 2) (g_blank Gm)) (by rw [decide_eq_false h])) (ge_one (ge_is (ge_eqI (g_countI (ns := ns) (gv 0) (gv 2)) ge_int) (by
        have := (hd a ha).resolve_left h
        rw [decide_eq_true (by omega)])))
theorem ok_stateOf (F : Fun K "is_state_of" "is_state_of" sStateOf f fd) (Gm : Gf mg) (F1 : D P w K mg base T 2 "is_row" ["thing", "places"] preRow) (F2 : D P w K mg base T 1 "is_whole" ["thing", "low", "high"] preWhole) : FnOk P w K mg base CX0 3 f fd ["rule", "thing"] (spV K T preStateOf) := by
  refine okV F scStateOf (fun xs y ⟨_, _, e, _⟩ => by rw [e]; rfl) fun cdv A outer s H E B xs y hT hr ⟨r, s0, e1, h, hs, e2⟩ => ?_
  subst e1 e2 hT
  have hp := h.p
  have hl := h.l
  have hb := hs.lab
  exact ⟨_, grs_cons (gs_skip (gt_guard Gm (gv 1) (gv 1) ge_int rfl)) (grs_one (gr_ret (ge_andT (ge_call F1 hr (by omega) rfl (ga_cons (ge_ixT (gv 1) ge_int rfl) (ga_cons (ge_ixT (gv 0) ge_int rfl) ga_nil)) ⟨s0.1, r.places, rfl, hs.len, by omega, hs.rng, hs.dist, rfl⟩)
    (ge_one (ge_call F2 hr (by omega) rfl (ga_cons (ge_ixT (gv 1) ge_int rfl) (ga_cons ge_int (ga_cons (ge_sub (g_len Gm (ge_ixT (gv 0) ge_int rfl)) ge_int) ga_nil))) ⟨s0.2, 0, _, rfl, hb.1, by rw [List.length_map, decide_eq_true (by omega)]⟩)))))⟩
theorem ok_arr (F : Fun K "arranged" "arranged" sArr f fd) (Gm : Gf mg) : FnOk P w K mg base CX0 1 f fd ["row", "order"] (spV K T preArr) := by
  refine okV F scArr (fun xs y ⟨_, _, e, _⟩ => by rw [e]; rfl) fun cdv A outer s H E B xs y hT hr ⟨row, o, e1, h, hl, e2⟩ => ?_
  subst e1 e2 hT
  refine ⟨_, grs_one (gr_ret (ge_is (g_tupC (as := o) (k := 2) .int (fun i => .int (row.getD i.toNat (-1))) Gm rfl scArr.nd (gi_tup (gv 1)) (blkOk_by (N := ["row", "order", "at"]) (sc := defScope sArr) (by decide +kernel)) rfl rfl (Nat.le_of_ble_eq_true rfl) (fun s H C cl fp a ha => ?_) (by rw [sizeLine_eq]; omega)) ?_))⟩
  · exact ge_ixT (gv 0) (gv 2) (mapGet (h a ha).1 (h a ha).2)
  · unfold Mi.arr; rw [List.map_map]; rfl
theorem mapGetN {α : Type} {e : α → Vl} {l : List α} {k : Nat} (d : α) (h : k < l.length) : atI (l.map e) (k : Int) = some (e (l.getD k d)) := by
  refine atI_nat ?_
  rw [List.getElem?_map, List.getElem?_eq_getElem h, List.getD_eq_getElem?_getD, List.getElem?_eq_getElem h]
  rfl
theorem okMv.ord {p L : Int} {m : Mi.Mv} (h : Mi.okMv p L m) : (∀ i ∈ m.1, 0 ≤ i ∧ i < p) ∧ (m.1.length : Int) ≤ max p 0 := by
  have hp := h.1
  refine ⟨fun i hi => ?_, ?_⟩
  · have := (hp.mem_iff (a := i)).mp hi
    unfold Mi.rangeI at this
    obtain ⟨k, h1, h2⟩ := List.mem_map.mp this
    have := List.mem_range.mp h1
    omega
  · have := hp.length_eq
    unfold Mi.rangeI at this
    rw [List.length_map, List.length_range] at this
    omega
theorem getD_mem {α : Type} {l : List α} {k : Nat} {d : α} (h : k < l.length) : l.getD k d ∈ l := by
  rw [List.getD_eq_getElem?_getD, List.getElem?_eq_getElem h]
  exact List.getElem_mem h
theorem filled_len {row : List Int} {p : Nat} {x : Int} (h : p < row.length) : (Mi.filled row p x).length = row.length := by
  unfold Mi.filled
  simp
  omega
theorem placeOf_lt {r : Mi.Rl} {s : Mi.Sta} (h : Mi.okRl r) (hs : Mi.okSt r s) : Mi.placeOf r s < s.1.length := by
  unfold Mi.placeOf
  split
  · exact List.idxOf_lt_length_of_mem ‹_›
  · have hl : (s.2.toNat) < r.labels.length := by have := hs.lab; omega
    have hm : Mi.lrAt r s.2 ∈ r.labels := getD_mem hl
    have := (h.a _ hm).o
    have := hs.len
    omega
theorem ok_step (F : Fun K "step" "step" sStep f fd) (Gm : Gf mg) (F1 : D P w K mg base T 1 "arranged" ["row", "order"] preArr) : FnOk P w K mg base CX0 2 f fd ["rule", "state", "thing"] (spV K T preStep) := by
  refine okV F scStep (fun xs y ⟨_, _, _, e, _⟩ => by rw [e]; rfl) fun cdv A outer s H E B xs y hT hr ⟨r, st, x, e1, h, hs, e2⟩ => ?_
  subst e1 e2 hT
  have hp := h.p
  have hl := h.l
  have hb := hs.lab
  have hlen := hs.len
  have hll : (st.2.toNat) < r.labels.length := by omega
  have hm : Mi.lrAt r st.2 ∈ r.labels := getD_mem hll
  have hL := h.a _ hm
  have hpl := placeOf_lt h hs
  by_cases hx : x ∈ st.1
  · have hi : st.1.idxOf x < (Mi.lrAt r st.2).hits.length := by
      have := List.idxOf_lt_length_of_mem hx
      have := hL.hl
      omega
    have ho := okMv.ord (hL.h _ (getD_mem (d := ([], 0)) hi))
    refine ⟨_, grs_cons (gs_unp (gv 1) (pgNc (i := 3) scStep.nd rfl (pgNc (i := 4) scStep.nd rfl pgN0)))
      (grs_cons (gs_unp (xs := [.tup ((Mi.lrAt r st.2).hits.map eMv), .int (Mi.lrAt r st.2).out, .tup ((Mi.lrAt r st.2).comes.map eMv)]) (ge_ixT (ge_ixT (gv 0) ge_int rfl) (gv 4) (mapGet (d := ⟨[], 0, []⟩) hb.1 hb.2)) (pgNc (i := 5) scStep.nd rfl (pgNc (i := 6) scStep.nd rfl (pgNc (i := 7) scStep.nd rfl pgN0))))
      (grs_one (gr_ifT (gt_is (gt_inT (ns := st.1) (gv 2) (ge_tud (gv 3))) (decide_eq_true hx))
      (grs_cons (gs_unp (xs := [eI ((Mi.lrAt r st.2).hits.getD (st.1.idxOf x) ([], 0)).1, .int ((Mi.lrAt r st.2).hits.getD (st.1.idxOf x) ([], 0)).2]) (ge_ixT (gv 5) (ge_tindex (ns := st.1) (gv 3) (gv 2) hx) (mapGetN ([], 0) hi)) (pgNc (i := 8) scStep.nd rfl (pgNc (i := 9) scStep.nd rfl pgN0)))
      (grs_one (gr_ret (ge_is (ge_tup (ga_cons ge_bl (ga_cons ge_non (ga_cons (ge_tup (ga_cons (ge_call F1 hr (by omega) rfl (ga_cons (ge_tud (gv 3)) (ga_cons (gv 8) ga_nil)) ⟨st.1, _, rfl, fun i hi => by rw [hlen]; exact ho.1 i hi, by omega, rfl⟩) (ga_cons (gv 9) ga_nil)) (Nat.le_of_ble_eq_true rfl)) ga_nil))) (Nat.le_of_ble_eq_true rfl)) ?_)))))))⟩
    unfold Mi.isHit Mi.goneOf Mi.step Mi.stepHit
    rw [decide_eq_true hx, if_pos hx, if_pos hx]
    rfl
  · have hi : Mi.placeOf r st < (Mi.lrAt r st.2).comes.length := by
      have := hL.cl
      omega
    have ho := okMv.ord (hL.c _ (getD_mem (d := ([], 0)) hi))
    have hf := filled_len (x := x) hpl
    have gone : (if st.1.getD (Mi.placeOf r st) (-1) = -1 then (none : Option Int) else some (st.1.getD (Mi.placeOf r st) (-1))) = Mi.goneOf r st x := by
      unfold Mi.goneOf; rw [if_neg hx]
    refine ⟨_, grs_cons (gs_unp (gv 1) (pgNc (i := 3) scStep.nd rfl (pgNc (i := 4) scStep.nd rfl pgN0)))
      (grs_cons (gs_unp (xs := [.tup ((Mi.lrAt r st.2).hits.map eMv), .int (Mi.lrAt r st.2).out, .tup ((Mi.lrAt r st.2).comes.map eMv)]) (ge_ixT (ge_ixT (gv 0) ge_int rfl) (gv 4) (mapGet (d := ⟨[], 0, []⟩) hb.1 hb.2)) (pgNc (i := 5) scStep.nd rfl (pgNc (i := 6) scStep.nd rfl (pgNc (i := 7) scStep.nd rfl pgN0))))
      (grs_cons (gs_skip (gt_is (gt_inT (ns := st.1) (gv 2) (ge_tud (gv 3))) (decide_eq_false hx)))
      (grs_cons (gs_asg (i := 10) (y := .int (Mi.placeOf r st : Nat)) ?place (by simp [Gam0, setVs_length]) scStep.nd rfl (Or.inl rfl))
      (grs_cons (gs_asg (i := 11) (y := gonV (Mi.goneOf r st x)) ?gone (by simp [Gam0, setVs_length]) scStep.nd rfl (Or.inl rfl))
      (grs_cons (gs_unp (xs := [eI ((Mi.lrAt r st.2).comes.getD (Mi.placeOf r st) ([], 0)).1, .int ((Mi.lrAt r st.2).comes.getD (Mi.placeOf r st) ([], 0)).2]) (ge_ixT (gv 7) (gv 10) (mapGetN ([], 0) hi)) (pgNc (i := 8) scStep.nd rfl (pgNc (i := 9) scStep.nd rfl pgN0)))
      (grs_cons (gs_asg (i := 12) (y := eI (Mi.filled st.1 (Mi.placeOf r st) x)) ?filled (by simp [Gam0, setVs_length]) scStep.nd rfl (Or.inl rfl))
      (grs_one (gr_ret (ge_is (ge_tup (ga_cons ge_bl (ga_cons (gv 11) (ga_cons (ge_tup (ga_cons (ge_call F1 hr (by omega) rfl (ga_cons (gv 12) (ga_cons (gv 8) ga_nil)) ⟨_, _, rfl, fun i hi => by rw [hf, hlen]; exact ho.1 i hi, by omega, rfl⟩) (ga_cons (gv 9) ga_nil)) (Nat.le_of_ble_eq_true rfl)) ga_nil))) (Nat.le_of_ble_eq_true rfl)) ?_))))))))) ⟩
    case place =>
      by_cases hk : (-1 : Int) ∈ st.1
      · refine ge_ifT (gt_is (gt_inT (ns := st.1) (g_blank Gm) (ge_tud (gv 3))) (decide_eq_true hk)) (ge_is (ge_tindex (ns := st.1) (gv 3) (g_blank Gm) hk) ?_)
        unfold Mi.placeOf; rw [if_pos hk]
      · refine ge_ifF (gt_is (gt_inT (ns := st.1) (g_blank Gm) (ge_tud (gv 3))) (decide_eq_false hk)) (ge_is (gv 6) ?_)
        unfold Mi.placeOf; rw [if_neg hk]
        have := hL.o
        congr 1
        omega
    case gone =>
      rw [← gone]
      by_cases hk : st.1.getD (Mi.placeOf r st) (-1) = -1
      · rw [if_pos hk]
        exact ge_ifT (gt_is (gt_eqI (ge_ixT (ge_tud (gv 3)) (gv 10) (mapGetN (-1) hpl)) (g_blank Gm)) (decide_eq_true hk)) ge_non
      · rw [if_neg hk]
        exact ge_ifF (gt_is (gt_eqI (ge_ixT (ge_tud (gv 3)) (gv 10) (mapGetN (-1) hpl)) (g_blank Gm)) (decide_eq_false hk)) (ge_ixT (ge_tud (gv 3)) (gv 10) (mapGetN (-1) hpl))
    case filled =>
      refine ge_is (ge_catT (ge_catT (ge_slT (ge_tud (gv 3)) gp_none (gp_some (gv 10))) (ge_tup (ga_cons (gv 2) ga_nil) (Nat.le_of_ble_eq_true rfl)) ?_) (ge_slT (ge_tud (gv 3)) (gp_some (ge_add (gv 10) ge_int)) gp_none) ?_) ?_
      · rw [cutX_take, sizeLine_eq, List.length_take, List.length_map]
        show _ + 1 ≤ _
        omega
      · rw [cutX_take, show ((Mi.placeOf r st : Nat) : Int) + 1 = ((Mi.placeOf r st + 1 : Nat) : Int) by omega, cutX_drop, sizeLine_eq]
        simp
        omega
      · rw [cutX_take, show ((Mi.placeOf r st : Nat) : Int) + 1 = ((Mi.placeOf r st + 1 : Nat) : Int) by omega, cutX_drop]
        unfold eI Mi.filled
        rw [List.map_append, List.map_append, List.map_take, List.map_drop]
        rfl
    unfold Mi.isHit Mi.step Mi.stepMiss
    rw [decide_eq_false hx, if_neg hx]
    rfl
end
end G
set_option maxHeartbeats 4000000
/-! F3: is_order; goesout.pairs. -/
namespace G
open PySem PySem.Spec PyProof.Rows L2 LamX NdefX
abbrev sOrder : Stmt := topS 25
theorem scOrder : FnScope ["thing", "places", "one"] ["thing", "places"] (defScope sOrder) := ⟨rfl, rfl, rfl, by decide +kernel, rfl, by decide +kernel, by decide +kernel⟩
abbrev sNeedRs : Stmt := topS 38
theorem scNeedRs : FnScope ["one", "other"] ["one", "other"] (defScope sNeedRs) := ⟨rfl, rfl, rfl, by decide +kernel, rfl, by decide +kernel, by decide +kernel⟩
abbrev sNamed : Stmt := topS 39
abbrev nNamed : List Str := ["mine", "its", "numbers", "thing", "row", "label"]
theorem scNamed : FnScope nNamed ["mine", "its"] (defScope sNamed) := ⟨rfl, rfl, rfl, by decide +kernel, rfl, by decide +kernel, by decide +kernel⟩
abbrev sFirstP : Stmt := topS 40
theorem scFirstP : FnScope ["one", "other"] ["one", "other"] (defScope sFirstP) := ⟨rfl, rfl, rfl, by decide +kernel, rfl, by decide +kernel, by decide +kernel⟩
abbrev sStart : Stmt := topS 41
theorem scStart : FnScope ["one", "other"] ["one", "other"] (defScope sStart) := ⟨rfl, rfl, rfl, by decide +kernel, rfl, by decide +kernel, by decide +kernel⟩
abbrev sIsPair : Stmt := topS 42
theorem scIsPair : FnScope ["one", "other", "thing"] ["one", "other", "thing"] (defScope sIsPair) := ⟨rfl, rfl, rfl, by decide +kernel, rfl, by decide +kernel, by decide +kernel⟩
abbrev sMany : Stmt := topS 43
theorem scMany : FnScope ["arrangement"] ["arrangement"] (defScope sMany) := ⟨rfl, rfl, rfl, by decide +kernel, rfl, by decide +kernel, by decide +kernel⟩
abbrev sMovedBy : Stmt := topS 44
theorem scMovedBy : FnScope ["one", "other", "arrangement", "number", "mine", "its"] ["one", "other", "arrangement", "number"] (defScope sMovedBy) := ⟨rfl, rfl, rfl, by decide +kernel, rfl, by decide +kernel, by decide +kernel⟩
section
variable {P : Program} {w : World} {K : PySem.W.Frag} {mg : Str → Option Value} {base : Heap} {T : List NTab} {f : Addr} {fd : FuncData}
theorem ok_order (F : Fun K "is_order" "is_order" sOrder f fd) (Gm : Gf mg) (F2 : D P w K mg base T 1 "is_whole" ["thing", "low", "high"] preWhole) : FnOk P w K mg base CX0 2 f fd ["thing", "places"] (spV K T preOrder) := by
  refine okV F scOrder (fun xs y ⟨_, _, e, _⟩ => by rw [e]; rfl) fun cdv A outer s H E B xs y hT hr ⟨o, p, e1, ho, h0, h4, e2⟩ => ?_
  subst e1 e2 hT
  have hor := okMv.ord (m := (o, 0)) (L := 1) ⟨ho, Int.le_refl 0, Int.zero_lt_one⟩
  have hl : (o.length : Int) = p := by
    have := ho.length_eq
    unfold Mi.rangeI at this
    rw [List.length_map, List.length_range] at this
    omega
  have hu := hr.units
  have hp : ((p.toNat : Nat) : Int) = p := by omega
  refine ⟨_, grs_cons (gs_skip (gt_guard Gm (gv 0) (gv 0) (gv 1) (by rw [List.length_map]; exact hl)))
    (grs_one (gr_ret (ge_andT (ge_is (g_allC (as := o) (k := 2) .int (fun _ => true) Gm rfl scOrder.nd (gv 0) (blkOk_by (N := ["thing", "places", "one"]) (sc := defScope sOrder) (by decide +kernel)) rfl rfl (Nat.le_of_ble_eq_true rfl) (fun s H C cl fp a ha => ?_) (by rw [sizeLine_eq]; omega)) (by simp))
      (ge_one (ge_cmp (op_eqD hu) (go_v (go_sorted Gm (gv 0) col_tup (sortOk_ints o (hu4 hr)))) (go_v (g_lstRg (n := p.toNat) Gm rfl (ge_is (gv 1) (by rw [hp])) (by omega))) (ro_eqD ?_ ?_ ?_ ?_ ?_) (nomark _))))))⟩
  · exact ge_call F2 hr (by omega) rfl (ga_cons (gv 2) (ga_cons ge_int (ga_cons (ge_sub (gv 1) ge_int) ga_nil))) ⟨a, 0, p - 1, rfl, (hor.1 a ha).1, by rw [decide_eq_true (by have := (hor.1 a ha).2; omega)]⟩
  · rw [sortX_ints]; exact (Dat.ints _).pl
  · exact (Dat.ints _).pl
  · rw [sortX_ints]; exact shaped_of (x := eI _) (n := 1) (Dat.ints _) (by decide)
  · exact shaped_of (x := eI _) (n := 1) (Dat.ints _) (by decide)
  · have e : sortX (o.map .int) = ((List.range p.toNat).map fun i : Nat => (i : Int)).map .int := by
      rw [sortX_ints, sorted_perm ho (rangeI_sorted _)]; rfl
    rw [e]
    exact SeqAt.eqv_refl (toD (eI _)) (Dat.ints _).lay
def preNeedRs (xs : List Vl) (y : Vl) : Prop := ∃ a b : Mi.Rl, xs = [eRl a, eRl b] ∧ Mi.okRl a ∧ Mi.okRl b ∧ y = .non
theorem ok_needRs (F : Fun K "need_rules" "need_rules" sNeedRs f fd) (F1 : D P w K mg base T 7 "need_rule" ["rule"] preNeedR) : FnOk P w K mg base CX0 8 f fd ["one", "other"] (spV K T preNeedRs) := by
  refine okN F scNeedRs (fun xs y ⟨_, _, e, _⟩ => by rw [e]; rfl) (fun xs y ⟨_, _, _, _, _, e⟩ => e) fun cdv A outer s H E B xs y hT hr ⟨a, b, e1, ha, hb, e2⟩ => ?_
  subst e1 e2 hT
  exact ⟨_, gss_cons (gs_expr (ge_call F1 hr (by omega) rfl (ga_cons (gv 0) ga_nil) ⟨a, rfl, ha, rfl⟩)) (gss_cons (gs_expr (ge_call F1 hr (by omega) rfl (ga_cons (gv 1) ga_nil) ⟨b, rfl, hb, rfl⟩)) gss_nil)⟩
theorem nums_app (ds : List (Int × Int)) : ∀ a b : List Int, Mi.nums ds (a ++ b) = Mi.nums (Mi.nums ds a) b := by
  intro a
  induction a generalizing ds with
  | nil => intro b; rfl
  | cons x a ih => intro b; exact ih _ b
theorem nums_len (ds : List (Int × Int)) (a : List Int) : (Mi.nums ds a).length ≤ ds.length + a.length := by
  induction a generalizing ds with
  | nil => exact Nat.le_refl _
  | cons x a ih =>
    have := ih (if (ds.lookup x).isSome then ds else ds ++ [(x, (ds.length : Int) - 1)])
    rw [Mi.nums]
    have h2 : (if (ds.lookup x).isSome then ds else ds ++ [(x, (ds.length : Int) - 1)]).length ≤ ds.length + 1 := by
      split
      · omega
      · simp
    rw [List.length_cons]
    omega
theorem lookup_app {ds es : List (Int × Int)} {t : Int} (h : (ds.lookup t).isSome = true) : ((ds ++ es).lookup t).isSome = true := by
  induction ds with
  | nil => cases h
  | cons p ds ih =>
    obtain ⟨a, b⟩ := p
    rw [List.cons_append, List.lookup_cons]
    rw [List.lookup_cons] at h
    split
    · rfl
    · rename_i hh
      rw [hh] at h
      exact ih h
theorem lookup_snoc (ds : List (Int × Int)) (t v : Int) : ((ds ++ [(t, v)]).lookup t).isSome = true := by
  induction ds with
  | nil => simp [List.lookup_cons]
  | cons p ds ih =>
    obtain ⟨a, b⟩ := p
    rw [List.cons_append, List.lookup_cons]
    split
    · rfl
    · exact ih
theorem nums_has (ds : List (Int × Int)) (a : List Int) {t : Int} (h : t ∈ a ∨ (ds.lookup t).isSome = true) : ((Mi.nums ds a).lookup t).isSome = true := by
  induction a generalizing ds with
  | nil =>
    rcases h with h | h
    · cases h
    · exact h
  | cons x a ih =>
    rw [Mi.nums]
    refine ih _ ?_
    rcases h with h | h
    · rcases List.mem_cons.mp h with rfl | h
      · right
        split
        · assumption
        · exact lookup_snoc _ _ _
      · exact .inl h
    · right
      split
      · exact h
      · exact lookup_app h
def preNamed (xs : List Vl) (y : Vl) : Prop := ∃ n : Mi.Nd, xs = [eSt n.1, eSt n.2] ∧ n.1.1.length ≤ 4 ∧ n.2.1.length ≤ 4 ∧ y = eNd (Mi.named n)
theorem ok_named (F : Fun K "named" "named" sNamed f fd) (Gm : Gf mg) : FnOk P w K mg base CX0 1 f fd ["mine", "its"] (spV K T preNamed) := by
  refine okV F scNamed (fun xs y ⟨_, e, _⟩ => by rw [e]; rfl) fun cdv A outer s H E B xs y hT hr ⟨n, e1, h1, h2, e2⟩ => ?_
  subst e1 e2 hT
  let ts := n.1.1 ++ n.2.1
  have hts : ts.length ≤ 8 := by show (n.1.1 ++ n.2.1).length ≤ 8; rw [List.length_append]; omega
  let Γf : Nat → List Sl := fun i => [.va (eSt n.1), .va (eSt n.2), .ow none (owI (Mi.nums [(-1, -1)] (ts.take i))), .no, .no, .no]
  have hd : ∀ t ∈ ts, ∃ v, (Mi.numsOf n).lookup t = some v ∧ Mi.numOf (Mi.numsOf n) t = v := fun t ht => by
    have := nums_has [(-1, -1)] ts (t := t) (.inl ht)
    obtain ⟨v, hv⟩ := Option.isSome_iff_exists.mp this
    exact ⟨v, hv, by unfold Mi.numOf; rw [show (Mi.numsOf n).lookup t = some v from hv]; rfl⟩
  refine ⟨[.va (eSt n.1), .va (eSt n.2), .va (diV (Mi.numsOf n)), .no, .no, .no], grs_cons (gs_asgO (i := 2) (o := owI [(-1, -1)]) (go_dictI1 (g_blank Gm) (g_blank Gm)) (Nat.le_of_ble_eq_true rfl) scNamed.nd rfl (Or.inr rfl))
    (grs_cons (gs_for (T := .nm 3) (xs := ts.map .int) Γf PassesOwn.never rfl (gi_tup (xs := ts.map .int) (ge_is (ge_catT (xs := n.1.1.map .int) (ys := n.2.1.map .int) (ge_tud (ge_ixT (gv 0) ge_int rfl)) (ge_tud (ge_ixT (gv 1) ge_int rfl)) (by rw [List.length_map, List.length_map, sizeLine_eq]; omega)) (by rw [List.map_append]))) (pg_name scNamed.nd rfl (Or.inl rfl)) (fun _ _ => trivial) (fun i hi j hj => ?_) (fun S1 i x hx => ?_)) ?ret)⟩
  · have : j = 3 := by simpa [Tg.idx] using hj
    subst this
    exact Nat.le_of_ble_eq_true rfl
  · rw [List.getElem?_map] at hx
    cases ht : ts[i]? with
    | none => rw [ht] at hx; cases hx
    | some t =>
      rw [ht] at hx
      cases hx
      have hil : i < ts.length := (List.getElem?_eq_some_iff.mp ht).1
      have etk : ts.take (i + 1) = ts.take i ++ [t] := by rw [List.take_add_one, ht]; rfl
      have hlen := nums_len [(-1, -1)] (ts.take i)
      have hlt : (ts.take i).length ≤ i := by rw [List.length_take]; omega
      by_cases hk : ((Mi.nums [(-1, -1)] (ts.take i)).lookup t).isSome = true
      · have e : Γf (i + 1) = Γf i := by
          show [_, _, Sl.ow none (owI (Mi.nums [(-1, -1)] (ts.take (i + 1)))), _, _, _] = _
          rw [etk, nums_app, Mi.nums, if_pos hk]; rfl
        rw [e]
        refine gss_weak (gss_cons (gs_skip (gt_is (gt_niI (gv 3) (gdi_own 2) (hu1 hr)) (by rw [hk]; rfl))) gss_nil) ⟨.inr rfl, .inr rfl, .inr rfl, .inl rfl, .inr rfl, .inr rfl, trivial⟩
      · have e : Γf (i + 1) = [.va (eSt n.1), .va (eSt n.2), .ow none (owI (Mi.nums [(-1, -1)] (ts.take i) ++ [(t, ((Mi.nums [(-1, -1)] (ts.take i)).length : Int) - 1)])), .no, .no, .no] := by
          show [_, _, Sl.ow none (owI (Mi.nums [(-1, -1)] (ts.take (i + 1)))), _, _, _] = _
          rw [etk, nums_app, Mi.nums, if_neg hk]; rfl
        rw [e]
        have hn : (Mi.nums [(-1, -1)] (ts.take i)).lookup t = none := by
          cases q : (Mi.nums [(-1, -1)] (ts.take i)).lookup t with
          | none => rfl
          | some v => rw [q] at hk; exact absurd rfl hk
        refine gss_weak (gss_cons (gs_if (b := true) (gt_is (gt_niI (gv 3) (gdi_own 2) (hu1 hr)) (by rw [hn]; rfl)) (fun _ => gss_cons (gs_putI (i := 2) rfl rfl (Or.inr (Or.inl rfl)) (ge_sub (ge_lenI Gm (gdi_own 2)) ge_int) (gv 3) hn (hu1 hr) (by rw [sizeLine_eq]; simp at hlen; omega) (fun l z => by cases z)) gss_nil) (fun z => by cases z)) gss_nil) ⟨.inr rfl, .inr rfl, .inr rfl, .inl rfl, .inr rfl, .inr rfl, trivial⟩
  case ret =>
    have hN : (List.map Vl.int ts).length = ts.length := List.length_map ..
    have eG : Γf (List.map Vl.int ts).length = [.va (eSt n.1), .va (eSt n.2), .ow none (owI (Mi.numsOf n)), .no, .no, .no] := by
      show [_, _, Sl.ow none (owI (Mi.nums [(-1, -1)] (ts.take (List.map Vl.int ts).length))), _, _, _] = _
      rw [hN, List.take_length]; rfl
    rw [eG]
    refine grs_freeze (i := 2) (x := diV (Mi.numsOf n)) rfl owI_diV (Γ' := [.va (eSt n.1), .va (eSt n.2), .va (diV (Mi.numsOf n)), .no, .no, .no]) (grs_one (gr_ret (ge_is (ge_tud (g_tupL Gm (go_v (go_lc (T := .tp [4, 5]) (own := [("row", 4), ("label", 5)]) (as := [n.1, n.2]) eSt (fun s => .tup [.tud ((s.1.map (Mi.numOf (Mi.numsOf n))).map .int), .int s.2]) rfl scNamed.nd
      (gi_tup (ge_tup (ga_cons (gv 0) (ga_cons (gv 1) ga_nil)) (Nat.le_of_ble_eq_true rfl))) (blkOk_by (N := nNamed) (sc := defScope sNamed) (by decide +kernel))
      (fun s H C cl fp => pg_tup rfl (pgNc (i := 4) scNamed.nd rfl (pgNc (i := 5) scNamed.nd rfl pgN0))) (fun s H C cl fp st hst => ?_) (Nat.le_of_ble_eq_true rfl) (fun s hs => ⟨_, rfl, rfl⟩) (fun i hi => ?_))))) rfl)))
    · have hsub : ∀ t ∈ st.1, t ∈ ts := fun t ht => by
        simp only [List.mem_cons, List.not_mem_nil, or_false] at hst
        rcases hst with rfl | rfl
        · exact List.mem_append_left _ ht
        · exact List.mem_append_right _ ht
      have hl4 : st.1.length ≤ 4 := by
        simp only [List.mem_cons, List.not_mem_nil, or_false] at hst
        rcases hst with rfl | rfl
        · exact h1
        · exact h2
      refine ge_tup (ga_cons (ge_is (g_tupC (as := st.1) (k := 3) .int (fun t => .int (Mi.numOf (Mi.numsOf n) t)) Gm rfl scNamed.nd (gi_tup (ge_tud (gv 4))) (blkOk_by (N := nNamed) (by rfl)) rfl rfl (Nat.le_of_ble_eq_true rfl) (fun s H C cl fp t ht => ?_) (by rw [sizeLine_eq]; omega)) (by rw [List.map_map]; rfl)) (ga_cons (gv 5) ga_nil)) (Nat.le_of_ble_eq_true rfl)
      obtain ⟨v, hv1, hv2⟩ := hd t (hsub t ht)
      exact ge_is (ge_ixI (v := v) (gdi_val (gv 2)) (gv 3) (hu1 hr) hv1) (by rw [hv2])
    · simp [Tg.idx] at hi
      rcases hi with rfl | rfl
      · exact ⟨Nat.le_of_ble_eq_true rfl, by simp⟩
      · exact ⟨Nat.le_of_ble_eq_true rfl, by simp⟩
end
end G
set_option maxHeartbeats 4000000
/-! F4: goesout.pairs, on. -/
namespace G
open PySem PySem.Spec PyProof.Rows L2 LamX NdefX
abbrev sMoved : Stmt := topS 46
theorem scMoved : FnScope ["one", "other", "arrangement", "number"] ["one", "other", "arrangement", "number"] (defScope sMoved) := ⟨rfl, rfl, rfl, by decide +kernel, rfl, by decide +kernel, by decide +kernel⟩
theorem maxI_le : ∀ (ns : List Int), (∀ y ∈ ns, y ≤ Mi.maxI ns) ∧ -1 ≤ Mi.maxI ns
  | [] => ⟨fun y h => (by cases h), Int.le_refl _⟩
  | x :: ns => by
    obtain ⟨h1, h2⟩ := maxI_le ns
    rw [Mi.maxI]
    split
    · exact ⟨fun y hy => by
        rcases List.mem_cons.mp hy with rfl | hy
        · exact Int.le_refl _
        · have := h1 y hy; omega, by omega⟩
    · exact ⟨fun y hy => by
        rcases List.mem_cons.mp hy with rfl | hy
        · omega
        · exact h1 y hy, h2⟩
theorem maxI_mem : ∀ (ns : List Int), Mi.maxI ns ∈ ns ∨ Mi.maxI ns = -1
  | [] => .inr rfl
  | x :: ns => by
    rw [Mi.maxI]
    split
    · exact .inl (.head _)
    · rcases maxI_mem ns with h | h
      · exact .inl (.tail _ h)
      · exact .inr h
theorem maxI_in {ns : List Int} (h0 : ns ≠ []) (h : ∀ y ∈ ns, -1 ≤ y) : Mi.maxI ns ∈ ns := by
  rcases maxI_mem ns with h1 | h1
  · exact h1
  · obtain ⟨x, r, rfl⟩ := List.exists_cons_of_ne_nil h0
    have := (maxI_le (x :: r)).1 x (.head _)
    have := h x (.head _)
    have e : Mi.maxI (x :: r) = x := by omega
    rw [e]; exact .head _
def preFirstP (xs : List Vl) (y : Vl) : Prop := ∃ a b : Mi.Rl, xs = [eRl a, eRl b] ∧ Mi.okRl a ∧ Mi.okRl b ∧ y = eNd (Mi.fstNd a b)
def preIsPair (xs : List Vl) (y : Vl) : Prop := ∃ (a b : Mi.Rl) (n : Mi.Nd), xs = [eRl a, eRl b, eNd n] ∧ Mi.okRl a ∧ Mi.okRl b ∧ Mi.okNd a b n ∧ y = .bl true
def preMany (xs : List Vl) (y : Vl) : Prop := ∃ (a b : Mi.Rl) (n : Mi.Nd), xs = [eNd n] ∧ Mi.okRl a ∧ Mi.okRl b ∧ Mi.okNd a b n ∧ y = .int (Mi.howMany n)
def preMovedBy (xs : List Vl) (y : Vl) : Prop := ∃ (a b : Mi.Rl) (n : Mi.Nd) (k : Int), xs = [eRl a, eRl b, eNd n, .int k] ∧ Mi.okRl a ∧ Mi.okRl b ∧ Mi.okNd a b n ∧ y = .tup [.bl (Mi.isHit n.1 k), .bl (Mi.isHit n.2 k), eNd (Mi.movedTo a b n k)]
def preMoved (xs : List Vl) (y : Vl) : Prop := ∃ (a b : Mi.Rl) (n : Mi.Nd) (k : Int), xs = [eRl a, eRl b, eNd n, .int k] ∧ Mi.okRl a ∧ Mi.okRl b ∧ Mi.okNd a b n ∧ 0 ≤ k ∧ k ≤ Mi.howMany n ∧ y = .tup [.bl (Mi.isHit n.1 k), .bl (Mi.isHit n.2 k), eNd (Mi.movedTo a b n k)]
theorem okSt.len4 {r : Mi.Rl} {s : Mi.Sta} (h : Mi.okRl r) (hs : Mi.okSt r s) : s.1.length ≤ 3 ∧ 1 ≤ s.1.length := by
  have := h.p; have := hs.len; omega
theorem arr_len (row o : List Int) : (Mi.arr row o).length = o.length := by unfold Mi.arr; rw [List.length_map]
theorem step_len {r : Mi.Rl} {s : Mi.Sta} {x : Int} (h : Mi.okRl r) (hs : Mi.okSt r s) : ((Mi.step r s x).1.length : Int) = r.places := by
  have hb := hs.lab
  have hll : (s.2.toNat) < r.labels.length := by omega
  have hm : Mi.lrAt r s.2 ∈ r.labels := getD_mem hll
  have hL := h.a _ hm
  have hp := h.p
  have hlen := hs.len
  have ol : ∀ m, Mi.okMv r.places r.labels.length m → (m.1.length : Int) = r.places := fun m hm => by
    have := hm.1.length_eq
    unfold Mi.rangeI at this
    rw [List.length_map, List.length_range] at this
    omega
  unfold Mi.step
  split
  · rename_i hx
    show ((Mi.arr _ _).length : Int) = _
    rw [arr_len]
    have := List.idxOf_lt_length_of_mem hx
    exact ol _ (hL.h _ (getD_mem (by have := hL.hl; omega)))
  · show ((Mi.arr _ _).length : Int) = _
    rw [arr_len]
    have hpl := placeOf_lt h hs
    exact ol _ (hL.c _ (getD_mem (by have := hL.cl; omega)))
section
variable {P : Program} {w : World} {K : PySem.W.Frag} {mg : Str → Option Value} {base : Heap} {T : List NTab} {f : Addr} {fd : FuncData}
theorem ok_firstP (F : Fun K "first_pair" "first_pair" sFirstP f fd) (F1 : D P w K mg base T 1 "first_state" ["rule"] preFirst) : FnOk P w K mg base CX0 2 f fd ["one", "other"] (spV K T preFirstP) := by
  refine okV F scFirstP (fun xs y ⟨_, _, e, _⟩ => by rw [e]; rfl) fun cdv A outer s H E B xs y hT hr ⟨a, b, e1, ha, hb, e2⟩ => ?_
  subst e1 e2 hT
  exact ⟨_, grs_one (gr_ret (ge_tup (ga_cons (ge_call F1 hr (by omega) rfl (ga_cons (gv 0) ga_nil) ⟨a, rfl, ha, rfl⟩) (ga_cons (ge_call F1 hr (by omega) rfl (ga_cons (gv 1) ga_nil) ⟨b, rfl, hb, rfl⟩) ga_nil)) (Nat.le_of_ble_eq_true rfl)))⟩
theorem ok_start (F : Fun K "start" "start" sStart f fd) (F1 : D P w K mg base T 8 "need_rules" ["one", "other"] preNeedRs) (F2 : D P w K mg base T 2 "first_pair" ["one", "other"] preFirstP) : FnOk P w K mg base CX0 9 f fd ["one", "other"] (spV K T preFirstP) := by
  refine okV F scStart (fun xs y ⟨_, _, e, _⟩ => by rw [e]; rfl) fun cdv A outer s H E B xs y hT hr ⟨a, b, e1, ha, hb, e2⟩ => ?_
  subst e1 e2 hT
  exact ⟨_, grs_cons (gs_expr (ge_call F1 hr (by omega) rfl (ga_cons (gv 0) (ga_cons (gv 1) ga_nil)) ⟨a, b, rfl, ha, hb, rfl⟩)) (grs_one (gr_ret (ge_call F2 hr (by omega) rfl (ga_cons (gv 0) (ga_cons (gv 1) ga_nil)) ⟨a, b, rfl, ha, hb, rfl⟩)))⟩
theorem ok_isPair (F : Fun K "is_pair" "is_pair" sIsPair f fd) (Gm : Gf mg) (F1 : D P w K mg base T 3 "is_state_of" ["rule", "thing"] preStateOf) (F2 : D P w K mg base T 1 "named" ["mine", "its"] preNamed) : FnOk P w K mg base CX0 4 f fd ["one", "other", "thing"] (spV K T preIsPair) := by
  refine okV F scIsPair (fun xs y ⟨_, _, _, e, _⟩ => by rw [e]; rfl) fun cdv A outer s H E B xs y hT hr ⟨a, b, n, e1, ha, hb, hn, e2⟩ => ?_
  subst e1 e2 hT
  have l1 := okSt.len4 ha hn.x
  have l2 := okSt.len4 hb hn.y
  exact ⟨_, grs_cons (gs_skip (gt_guard Gm (gv 2) (gv 2) ge_int rfl)) (grs_cons (gs_skip (gw_t (gw_orF (gt_is (gt_not (gt_val (ge_call F1 hr (by omega) rfl (ga_cons (gv 0) (ga_cons (ge_ixT (gv 2) ge_int rfl) ga_nil)) ⟨a, n.1, rfl, ha, hn.x, rfl⟩))) rfl)
    (gw_or1 (gt_is (gt_not (gt_val (ge_call F1 hr (by omega) rfl (ga_cons (gv 1) (ga_cons (ge_ixT (gv 2) ge_int rfl) ga_nil)) ⟨b, n.2, rfl, hb, hn.y, rfl⟩))) rfl)))))
    (grs_one (gr_ret (ge_eqSame (n := 3) (ge_call F2 hr (by omega) rfl (ga_cons (ge_ixT (gv 2) ge_int rfl) (ga_cons (ge_ixT (gv 2) ge_int rfl) ga_nil)) ⟨n, rfl, by omega, by omega, rfl⟩) (gv 2) (Dat.nd _) (Dat.nd _) (by decide) (by rw [hn.nm]) hr.units))))⟩
theorem ok_many (F : Fun K "how_many" "how_many" sMany f fd) (Gm : Gf mg) : FnOk P w K mg base CX0 1 f fd ["arrangement"] (spV K T preMany) := by
  refine okV F scMany (fun xs y ⟨_, _, _, e, _⟩ => by rw [e]; rfl) fun cdv A outer s H E B xs y hT hr ⟨a, b, n, e1, ha, hb, hn, e2⟩ => ?_
  subst e1 e2 hT
  have l1 := okSt.len4 ha hn.x
  have l2 := okSt.len4 hb hn.y
  refine ⟨_, grs_one (gr_ret (ge_add (g_maxT (ns := n.1.1 ++ n.2.1) (m := Mi.maxI (n.1.1 ++ n.2.1)) Gm rfl (ge_is (ge_catT (xs := n.1.1.map .int) (ys := n.2.1.map .int) (ge_tud (ge_ixT (ge_ixT (gv 0) ge_int rfl) ge_int rfl)) (ge_tud (ge_ixT (ge_ixT (gv 0) ge_int rfl) ge_int rfl)) (by rw [List.length_map, List.length_map, sizeLine_eq]; omega)) (by rw [List.map_append])) (maxI_in ?_ ?_) (maxI_le _).1) ge_int))⟩
  · intro z
    have := congrArg List.length z
    rw [List.length_append, List.length_nil] at this
    omega
  · intro y hy
    rcases List.mem_append.mp hy with h | h
    · exact (hn.x.rng y h).1
    · exact (hn.y.rng y h).1
theorem ok_movedBy (F : Fun K "moved_by" "moved_by" sMovedBy f fd) (F1 : D P w K mg base T 2 "step" ["rule", "state", "thing"] preStep) (F2 : D P w K mg base T 1 "named" ["mine", "its"] preNamed) : FnOk P w K mg base CX0 3 f fd ["one", "other", "arrangement", "number"] (spV K T preMovedBy) := by
  refine okV F scMovedBy (fun xs y ⟨_, _, _, _, e, _⟩ => by rw [e]; rfl) fun cdv A outer s H E B xs y hT hr ⟨a, b, n, k, e1, ha, hb, hn, e2⟩ => ?_
  subst e1 e2 hT
  have l1 := step_len (x := k) ha hn.x
  have l2 := step_len (x := k) hb hn.y
  have p1 := ha.p
  have p2 := hb.p
  exact ⟨_, grs_cons (gs_par (gm_v (ge_call F1 hr (by omega) rfl (ga_cons (gv 0) (ga_cons (ge_ixT (gv 2) ge_int rfl) (ga_cons (gv 3) ga_nil))) ⟨a, n.1, k, rfl, ha, hn.x, rfl⟩) (gm_v (ge_call F1 hr (by omega) rfl (ga_cons (gv 1) (ga_cons (ge_ixT (gv 2) ge_int rfl) (ga_cons (gv 3) ga_nil))) ⟨b, n.2, k, rfl, hb, hn.y, rfl⟩) gm_nil)) rfl scMovedBy.nd (i := 4) (j := 5) rfl rfl (by decide) (Nat.le_of_ble_eq_true rfl) (Nat.le_of_ble_eq_true rfl) rfl rfl rfl)
    (grs_one (gr_ret (ge_tup (ga_cons (ge_ixT (gv 4) ge_int rfl) (ga_cons (ge_ixT (gv 5) ge_int rfl) (ga_cons (ge_call F2 hr (by omega) rfl (ga_cons (ge_ixT (gv 4) ge_int rfl) (ga_cons (ge_ixT (gv 5) ge_int rfl) ga_nil)) ⟨(Mi.step a n.1 k, Mi.step b n.2 k), rfl, by show (Mi.step a n.1 k).1.length ≤ 4; omega, by show (Mi.step b n.2 k).1.length ≤ 4; omega, rfl⟩) ga_nil))) (Nat.le_of_ble_eq_true rfl))))⟩
theorem ok_moved (F : Fun K "moved" "moved" sMoved f fd) (Gm : Gf mg) (F1 : D P w K mg base T 8 "need_rules" ["one", "other"] preNeedRs) (F2 : D P w K mg base T 4 "is_pair" ["one", "other", "thing"] preIsPair) (F3 : D P w K mg base T 1 "is_whole" ["thing", "low", "high"] preWhole) (F4 : D P w K mg base T 1 "how_many" ["arrangement"] preMany) (F5 : D P w K mg base T 3 "moved_by" ["one", "other", "arrangement", "number"] preMovedBy) :
    FnOk P w K mg base CX0 9 f fd ["one", "other", "arrangement", "number"] (spV K T preMoved) := by
  refine okV F scMoved (fun xs y ⟨_, _, _, _, e, _⟩ => by rw [e]; rfl) fun cdv A outer s H E B xs y hT hr ⟨a, b, n, k, e1, ha, hb, hn, k0, k1, e2⟩ => ?_
  subst e1 e2 hT
  exact ⟨_, grs_cons (gs_expr (ge_call F1 hr (by omega) rfl (ga_cons (gv 0) (ga_cons (gv 1) ga_nil)) ⟨a, b, rfl, ha, hb, rfl⟩)) (grs_cons (gs_skip (gt_is (gt_not (gt_val (ge_call F2 hr (by omega) rfl (ga_cons (gv 0) (ga_cons (gv 1) (ga_cons (gv 2) ga_nil))) ⟨a, b, n, rfl, ha, hb, hn, rfl⟩))) rfl))
    (grs_cons (gs_skip (gt_is (gt_not (gt_val (ge_call F3 hr (by omega) rfl (ga_cons (gv 3) (ga_cons ge_int (ga_cons (ge_call F4 hr (by omega) rfl (ga_cons (gv 2) ga_nil) ⟨a, b, n, rfl, ha, hb, hn, rfl⟩) ga_nil))) ⟨k, 0, _, rfl, k0, by rw [decide_eq_true k1]⟩))) rfl))
    (grs_one (gr_ret (ge_call F5 hr (by omega) rfl (ga_cons (gv 0) (ga_cons (gv 1) (ga_cons (gv 2) (ga_cons (gv 3) ga_nil)))) ⟨a, b, n, k, rfl, ha, hb, hn, rfl⟩)))))⟩
end
end G
set_option maxHeartbeats 4000000
/-! F5: steps_of. -/
namespace G
open PySem PySem.Spec PyProof.Rows L2 LamX NdefX
abbrev sStepsOf : Stmt := topS 45
abbrev sSteps : Stmt := (defBody sStepsOf).getD 0 (.Pass ⟨0, 0, 0, 0⟩)
theorem scStepsOf : FnScope ["one", "other", "steps"] ["one", "other"] (defScope sStepsOf) := ⟨rfl, rfl, rfl, by decide +kernel, rfl, by decide +kernel, by decide +kernel⟩
abbrev nSteps : List Str := ["arrangement", "one", "other", "found", "number", "mine", "its", "later"]
theorem scSteps : NScope nSteps ["arrangement"] ["one", "other"] (C8.fnScope sSteps) := nscope_by (by decide +kernel)
def eStp (s : Mi.Stp) : Vl := .tup [.int s.name, .int s.mine, .int s.its, eNd s.later]
def preStepsN (ys xs : List Vl) (y : Vl) : Prop := ∃ (a b : Mi.Rl) (n : Mi.Nd), ys = [eRl a, eRl b] ∧ xs = [eNd n] ∧ Mi.okRl a ∧ Mi.okRl b ∧ Mi.okNd a b n ∧ y = .lst ((Mi.steps a b n).map eStp)
def preSteps (a b : Mi.Rl) (xs : List Vl) (y : Vl) : Prop := ∃ n : Mi.Nd, xs = [eNd n] ∧ Mi.okNd a b n ∧ y = .lst ((Mi.steps a b n).map eStp)
theorem b01_not (h : Bool) : (if (!h) = true then (1 : Int) else 0) = Mi.b01 h := by cases h <;> rfl
theorem howMany_bd {a b : Mi.Rl} {n : Mi.Nd} (ha : Mi.okRl a) (hn : Mi.okNd a b n) : 0 ≤ Mi.howMany n ∧ Mi.howMany n ≤ 100 := by
  unfold Mi.howMany
  have h1 := (maxI_le (n.1.1 ++ n.2.1)).2
  have h2 := maxI_mem (n.1.1 ++ n.2.1)
  refine ⟨by omega, ?_⟩
  rcases h2 with h | h
  · rcases List.mem_append.mp h with h | h
    · have := (hn.x.rng _ h).2; omega
    · have := (hn.y.rng _ h).2; omega
  · omega
theorem rangeI_get {n i : Nat} (h : i < n) : (Mi.rangeI n)[i]? = some (i : Int) := by
  unfold Mi.rangeI
  rw [List.getElem?_map, List.getElem?_range h]; rfl
theorem steps_len {a b : Mi.Rl} {n : Mi.Nd} : (Mi.steps a b n).length = (Mi.howMany n + 1).toNat := by
  unfold Mi.steps Mi.rangeI
  rw [List.length_map, List.length_map, List.length_range]
theorem steps_get {a b : Mi.Rl} {n : Mi.Nd} {i : Nat} (h : i < (Mi.howMany n + 1).toNat) : (Mi.steps a b n)[i]? = some (Mi.stpAt a b n i) := by
  unfold Mi.steps
  rw [List.getElem?_map, rangeI_get h]; rfl
section
variable {P : Program} {w : World} {K : PySem.W.Frag} {mg : Str → Option Value} {base : Heap} {T : List NTab} {f : Addr} {fd : FuncData}
theorem nok_steps (Gm : Gf mg) (hrg : mg "range" = none) (F1 : D P w K mg base T 1 "how_many" ["arrangement"] preMany) (F2 : D P w K mg base T 3 "moved_by" ["one", "other", "arrangement", "number"] preMovedBy) (f' c' : Addr) (cl : List (Str × Addr)) :
    NOk P w K mg base CX0 4 f' (NF.of sSteps "steps" (("steps_of" ++ ".<locals>.") ++ "steps") cl c') ["arrangement"] ["one", "other"] (spN K T 1 preStepsN) := by
  refine nokV (N := nSteps) scSteps (fun doc pm ctv us h => match us, h with | [_], _ => rfl) fun A outer s H E B xs ys y hT hr hl ⟨a, b, n, e1, e2, ha, hb, hn, e3⟩ => ?_
  subst e1 e2 e3 hT
  have hbd := howMany_bd ha hn
  let ss := Mi.steps a b n
  let Γf : Nat → List Sl := fun i => [.va (eNd n), .va (eRl a), .va (eRl b), .ow none (owL K ((ss.take i).map eStp)), .no, .no, .no, .no]
  refine ⟨[.va (eNd n), .va (eRl a), .va (eRl b), .va (.lst (ss.map eStp)), .no, .no, .no, .no], grs_cons (gs_asgO (i := 3) (o := owL K []) (go_lst ga_nil (Nat.zero_le _)) (Nat.le_of_ble_eq_true rfl) scSteps.nd rfl (Or.inl rfl))
    (grs_cons (gs_for (T := .nm 4) (xs := rng 0 (Mi.howMany n + 1).toNat) Γf PassesOwn.never rfl (gi_rng1 (j := Mi.howMany n + 1) rfl hrg (ga_cons (ge_add (ge_call F1 hr (by omega) rfl (ga_cons (gv 0) ga_nil) ⟨a, b, n, rfl, ha, hb, hn, rfl⟩) ge_int) ga_nil) (by omega)) (pg_name scSteps.nd rfl (Or.inl rfl)) (fun _ _ => trivial) (fun i hi j hj => ?_) (fun S1 i x hx => ?_)) ?ret)⟩
  · have : j = 4 := by simpa [Tg.idx] using hj
    subst this
    exact Nat.le_of_ble_eq_true rfl
  · obtain ⟨hi, ex⟩ := rng_get hx
    subst ex
    have hs := steps_get (a := a) (b := b) hi
    have etk : ss.take (i + 1) = ss.take i ++ [Mi.stpAt a b n i] := by rw [List.take_add_one, hs]; rfl
    have e : Γf (i + 1) = [.va (eNd n), .va (eRl a), .va (eRl b), .ow none (owL K ((ss.take i).map eStp ++ [eStp (Mi.stpAt a b n i)])), .no, .no, .no, .no] := by
      show [_, _, _, Sl.ow none (owL K ((ss.take (i + 1)).map eStp)), _, _, _, _] = _
      rw [etk, List.map_append]; rfl
    rw [e]
    have hlt : ((ss.take i).map eStp).length ≤ i := by rw [List.length_map, List.length_take]; omega
    refine gss_weak (gss_cons (gs_unp (xs := [.bl (Mi.isHit n.1 i), .bl (Mi.isHit n.2 i), eNd (Mi.movedTo a b n i)]) (ge_call F2 hr (by omega) rfl (ga_cons (gv 1) (ga_cons (gv 2) (ga_cons (gv 0) (ga_cons (gv 4) ga_nil)))) ⟨a, b, n, i, by rw [Int.zero_add], ha, hb, hn, rfl⟩) (pgNc (i := 5) scSteps.nd rfl (pgNc (i := 6) scSteps.nd rfl (pgNc (i := 7) scSteps.nd rfl pgN0))))
      (gss_cons (gs_append (i := 3) (x := eStp (Mi.stpAt a b n i)) rfl rfl (Or.inl rfl) (ge_is (ge_tup (ga_cons (gv 4) (ga_cons (g_intB Gm (ge_not (gv 5))) (ga_cons (g_intB Gm (ge_not (gv 6))) (ga_cons (gv 7) ga_nil)))) (Nat.le_of_ble_eq_true rfl)) (by rw [b01_not, b01_not, Int.zero_add]; rfl)) (by rw [sizeLine_eq]; omega) (fun l z => by cases z)) gss_nil)) ⟨.inr rfl, .inr rfl, .inr rfl, .inr rfl, .inl rfl, .inl rfl, .inl rfl, .inl rfl, trivial⟩
  case ret =>
    have eG : Γf (rng 0 (Mi.howMany n + 1).toNat).length = [.va (eNd n), .va (eRl a), .va (eRl b), .ow none (owL K (ss.map eStp)), .no, .no, .no, .no] := by
      show [_, _, _, Sl.ow none (owL K ((ss.take (rng 0 (Mi.howMany n + 1).toNat).length).map eStp)), _, _, _, _] = _
      rw [rng_length, ← steps_len (a := a) (b := b), List.take_length]
    rw [eG]
    exact grs_freeze (i := 3) rfl owL_lst (grs_one (gr_ret (gv 3)))
theorem callable_imp {k : Nat} {pre pre' : Pre} {f : Addr} {S : Hp} (h : Callable P w K mg base T k pre f S) (hp : ∀ xs y, pre' xs y → pre xs y) : Callable P w K mg base T k pre' f S :=
  fun S1 H1 sm st A outer s us vs xs y Q hr e0 rx rv p q => h S1 H1 sm st A outer s us vs xs y Q hr e0 rx rv (hp xs y p) q
theorem fnV_imp {k : Nat} {pre pre' : Pre} {S : Hp} {v : V} (hp : ∀ xs y, pre' xs y → pre xs y) (h : rep K S (fnV P w K mg base T k pre) v) : rep K S (fnV P w K mg base T k pre') v :=
  let ⟨f, h1, h2, h3⟩ := h; ⟨f, h1, h2, callable_imp h3 hp⟩
theorem fnOk_imp {k : Nat} {f : Addr} {fd : FuncData} {ps : List Str} {sp sp' : Sp} (h : FnOk P w K mg base CX0 k f fd ps sp) (hp : ∀ vs H Q E, sp' vs H Q E → sp vs H Q E) : FnOk P w K mg base CX0 k f fd ps sp' :=
  ⟨fun vs H Q E q => h.len vs H Q E (hp _ _ _ _ q), fun A outer s H args us vs Q E hr e0 hb r q => h.run A outer s H args us vs Q E hr e0 hb r (hp _ _ _ _ q)⟩
def preStepsOf (P : Program) (w : World) (K : PySem.W.Frag) (mg : Str → Option Value) (base : Heap) (T : List NTab) (xs : List Vl) (y : Vl) : Prop := ∃ a b : Mi.Rl, xs = [eRl a, eRl b] ∧ Mi.okRl a ∧ Mi.okRl b ∧ y = fnV P w K mg base T 4 (preSteps a b)
theorem plain_rl (r : Mi.Rl) : plain (eRl r) = true := by
  have hmv : ∀ m : Mi.Mv, plain (eMv m) = true := fun m => by
    show (plain (eI m.1) && (true && true)) = true
    rw [(Dat.ints m.1).pl]; rfl
  refine plains_all fun x hx => ?_
  simp only [List.mem_cons, List.not_mem_nil, or_false] at hx
  rcases hx with rfl | rfl
  · rfl
  · refine plains_all fun x hx => ?_
    obtain ⟨l, _, rfl⟩ := List.mem_map.mp hx
    refine plains_all fun x hx => ?_
    simp only [List.mem_cons, List.not_mem_nil, or_false] at hx
    rcases hx with rfl | rfl | rfl
    · refine plains_all fun x hx => ?_
      obtain ⟨m, _, rfl⟩ := List.mem_map.mp hx
      exact hmv m
    · rfl
    · refine plains_all fun x hx => ?_
      obtain ⟨m, _, rfl⟩ := List.mem_map.mp hx
      exact hmv m
abbrev nmSteps : Nat → Nat → Str := fun _ _ => "steps_of.<locals>.steps"
theorem ok_stepsOf {c P0 : Addr} (F : Fun K "steps_of" "steps_of" sStepsOf f fd) (Gm : Gf mg) (hcd : fd.code = .ref c) (TB : TabB base mg c P0) (hm : (P0, nmSteps) ∈ T) (hu : ∀ p ∈ T, p.1 = P0 → p.2 = nmSteps)
    (F1 : D P w K mg base T 1 "how_many" ["arrangement"] preMany) (F2 : D P w K mg base T 3 "moved_by" ["one", "other", "arrangement", "number"] preMovedBy) :
    FnOk P w K mg base CX0 1 f fd ["one", "other"] (spV K T (preStepsOf P w K mg base T)) := by
  refine fnOk_imp (okClo (nst := sSteps) (nps := ["arrangement"]) (npre := preStepsN) (nname := "steps") (i := 2) (fun xs => ∃ a b : Mi.Rl, xs = [eRl a, eRl b] ∧ Mi.okRl a ∧ Mi.okRl b) F scStepsOf hcd TB hm hu rfl rfl rfl (by decide +kernel) (by decide +kernel) rfl rfl (fun _ => rfl) rfl rfl (by decide) (by decide) (by decide) (by decide) (fun f' c' cl => nok_steps Gm Gm.range F1 F2 f' c' cl)) ?_
  rintro vs H Q E ⟨S, xs, y, st, r, ⟨a, b, e1, ha, hb, e2⟩, q⟩
  subst e1 e2
  refine ⟨S, _, _, st, r, ⟨rfl, ?_, ⟨a, b, rfl, ha, hb⟩, rfl⟩, fun v S1 H1 t1 h1 => q v S1 H1 t1 (fnV_imp ?_ h1)⟩
  · show (plain (eRl a) && (plain (eRl b) && true)) = true
    rw [plain_rl, plain_rl]; rfl
  · rintro zs y ⟨n, e1, hn, e2⟩
    subst e1 e2
    refine ⟨rfl, ?_, a, b, n, rfl, rfl, ha, hb, hn, rfl⟩
    show (plain (eNd n) && true) = true
    rw [(Dat.nd n).pl]; rfl
end
end G
set_option maxHeartbeats 4000000
/-! F6: goesout.longrun: paths; goesout.pairs: walks. -/
namespace G
open PySem PySem.Spec PyProof.Rows L2 LamX NdefX
abbrev sFollowed : Stmt := topS 12
abbrev nFollowed : List Str := ["here", "steps_of", "names", "found", "name", "rows", "row"]
theorem scFollowed : FnScope nFollowed ["here", "steps_of", "names"] (defScope sFollowed) := ⟨rfl, rfl, rfl, by decide +kernel, rfl, by decide +kernel, by decide +kernel⟩
theorem repr_chk : ((List.range 102).all fun i => (List.range 102).all fun k => decide ((Str.ofString (toString (i : Int)) = Str.ofString (toString (k : Int))) ↔ i = k)) = true := by decide +kernel
theorem repr_inj {i k : Int} (h0 : 0 ≤ i) (h1 : i ≤ 101) (h2 : 0 ≤ k) (h3 : k ≤ 101) : decide (Str.ofString (toString i) = Str.ofString (toString k)) = decide (i = k) := by
  have := List.all_eq_true.mp repr_chk i.toNat (List.mem_range.mpr (by omega))
  have := List.all_eq_true.mp this k.toNat (List.mem_range.mpr (by omega))
  have := of_decide_eq_true this
  rw [Int.toNat_of_nonneg h0, Int.toNat_of_nonneg h2] at this
  by_cases e : i = k
  · rw [decide_eq_true e, decide_eq_true (this.mpr (by omega))]
  · rw [decide_eq_false e, decide_eq_false fun z => e (by have := this.mp z; omega)]
theorem lg101 {i : Int} (h0 : 0 ≤ i) (h1 : i ≤ 101) : i.natAbs.log2 < 1920 := by
  by_cases h : i.natAbs = 0
  · rw [h]; decide
  · refine (Nat.log2_lt h).mpr ?_
    have h2 : i.natAbs < 2 ^ 7 := by
      have : (2 : Nat) ^ 7 = 128 := by decide
      omega
    exact Nat.lt_of_lt_of_le h2 (Nat.pow_le_pow_right (by decide) (by decide))
theorem filter_one {α : Type} {l : List α} {p : α → Bool} {i : Nat} {x : α} (h : l[i]? = some x) (hp : ∀ j y, l[j]? = some y → p y = decide (j = i)) : l.filter p = [x] := by
  induction l generalizing i with
  | nil => simp at h
  | cons a l ih =>
    cases i with
    | zero =>
      have e : a = x := by simpa using h
      subst e
      have pa : p a = true := by rw [hp 0 a rfl]; rfl
      rw [List.filter_cons, if_pos pa, List.filter_eq_nil_iff.mpr]
      intro y hy z
      obtain ⟨j, hj⟩ := List.mem_iff_getElem?.mp hy
      have := hp (j + 1) y (by simpa using hj)
      rw [z] at this
      have := of_decide_eq_true this.symm
      omega
    | succ i =>
      have pa : ¬ p a = true := by rw [hp 0 a rfl]; simp
      rw [List.filter_cons, if_neg pa]
      refine ih (i := i) (by simpa using h) fun j y hj => ?_
      rw [hp (j + 1) y (by simpa using hj)]
      by_cases e : j = i
      · rw [decide_eq_true e, decide_eq_true (by omega)]
      · rw [decide_eq_false e, decide_eq_false (by omega)]
section
variable {P : Program} {w : World} {K : PySem.W.Frag} {mg : Str → Option Value} {base : Heap} {T : List NTab} {f : Addr} {fd : FuncData}
def preFollowed (P : Program) (w : World) (K : PySem.W.Frag) (mg : Str → Option Value) (base : Heap) (T : List NTab) (xs : List Vl) (y : Vl) : Prop := ∃ (a b : Mi.Rl) (n : Mi.Nd) (ns : List Int), xs = [eNd n, fnV P w K mg base T 4 (preSteps a b), eI ns] ∧ Mi.okRl a ∧ Mi.okRl b ∧ Mi.okPath a b n ns ∧ ns.length ≤ 100000 ∧ y = .lst ((Mi.pathS a b n ns).map eStp)
theorem ok_followed (F : Fun K "followed" "followed" sFollowed f fd) (Gm : Gf mg) : FnOk P w K mg base CX0 5 f fd ["here", "steps_of", "names"] (spV K T (preFollowed P w K mg base T)) := by
  refine okV F scFollowed (fun xs y ⟨_, _, _, _, e, _⟩ => by rw [e]; rfl) fun cdv A outer s H E B xs y hT hr ⟨a, b, n, ns, e1, ha, hb, hp, hl, e2⟩ => ?_
  subst e1 e2 hT
  let Γf : Nat → List Sl := fun i => [.va (eNd (Mi.pathE a b n (ns.take i))), .va (fnV P w K mg base B.T 4 (preSteps a b)), .va (eI ns), .ow none (owL K (((Mi.pathS a b n ns).take i).map eStp)), .no, .no, .no]
  refine ⟨[.va (eNd (Mi.pathE a b n ns)), .va (fnV P w K mg base B.T 4 (preSteps a b)), .va (eI ns), .va (.lst ((Mi.pathS a b n ns).map eStp)), .no, .no, .no], grs_cons (gs_skip (gt_is (gt_not (gt_val (g_isiT Gm (gv 2)))) rfl)) (grs_cons (gs_asgO (i := 3) (o := owL K []) (go_lst ga_nil (Nat.zero_le _)) (Nat.le_of_ble_eq_true rfl) scFollowed.nd rfl (Or.inl rfl))
    (grs_cons (gs_to (Γ2 := [.va (eNd (Mi.pathE a b n ns)), .va (fnV P w K mg base B.T 4 (preSteps a b)), .va (eI ns), .ow none (owL K ((Mi.pathS a b n ns).map eStp)), .no, .no, .no]) (gs_for (T := .nm 4) (xs := ns.map .int) Γf PassesOwn.never rfl (gi_tup (gv 2)) (pg_name scFollowed.nd rfl (Or.inr rfl)) (fun _ _ => trivial) (fun i hi j hj => ?_) (fun S1 i x hx => ?_)) ?eG) (grs_freeze (i := 3) rfl owL_lst (grs_one (gr_ret (gv 3))))))⟩
  · have : j = 4 := by simpa [Tg.idx] using hj
    subst this
    exact Nat.le_of_ble_eq_true rfl
  · rw [List.getElem?_map] at hx
    cases hk : ns[i]? with
    | none => rw [hk] at hx; cases hx
    | some k =>
      rw [hk] at hx
      cases hx
      obtain ⟨h1, h2, h3, h4, h5⟩ := Mi.okPath_at hp hk
      generalize hm : Mi.pathE a b n (ns.take i) = m at h1 h2 h3 h4 h5
      have hbd := howMany_bd ha h1
      have hil : i < ns.length := (List.getElem?_eq_some_iff.mp hk).1
      have etk : (Mi.pathS a b n ns).take (i + 1) = (Mi.pathS a b n ns).take i ++ [Mi.stpAt a b m k] := by rw [List.take_add_one, h5]; rfl
      have e1 : Γf i = [.va (eNd m), .va (fnV P w K mg base B.T 4 (preSteps a b)), .va (eI ns), .ow none (owL K (((Mi.pathS a b n ns).take i).map eStp)), .no, .no, .no] := by
        show [Sl.va (eNd (Mi.pathE a b n (ns.take i))), _, _, _, _, _, _] = _
        rw [hm]
      have e : Γf (i + 1) = [.va (eNd (Mi.movedTo a b m k)), .va (fnV P w K mg base B.T 4 (preSteps a b)), .va (eI ns), .ow none (owL K (((Mi.pathS a b n ns).take i).map eStp ++ [eStp (Mi.stpAt a b m k)])), .no, .no, .no] := by
        show [Sl.va (eNd (Mi.pathE a b n (ns.take (i + 1)))), _, _, Sl.ow none (owL K (((Mi.pathS a b n ns).take (i + 1)).map eStp)), _, _, _] = _
        rw [etk, List.map_append, h4]; rfl
      rw [e1, e]
      have hlt : (((Mi.pathS a b n ns).take i).map eStp).length ≤ i := by rw [List.length_map, List.length_take]; omega
      have hsl := steps_len (a := a) (b := b) (n := m)
      have hfl : (Mi.steps a b m).filter (fun s => decide (s.name = k)) = [Mi.stpAt a b m k] := by
        refine filter_one (i := k.toNat) ?_ fun j y hj => ?_
        · rw [steps_get (by omega), Int.toNat_of_nonneg h2]
        · have hjl : j < (Mi.howMany m + 1).toNat := by rw [← hsl]; exact (List.getElem?_eq_some_iff.mp hj).1
          rw [steps_get hjl] at hj
          cases hj
          show decide ((j : Int) = k) = decide (j = k.toNat)
          by_cases z : (j : Int) = k
          · rw [decide_eq_true z, decide_eq_true (by omega)]
          · rw [decide_eq_false z, decide_eq_false (by omega)]
      refine gss_weak (Γ1 := [.va (eNd (Mi.movedTo a b m k)), .va (fnV P w K mg base B.T 4 (preSteps a b)), .va (eI ns), .ow none (owL K (((Mi.pathS a b n ns).take i).map eStp ++ [eStp (Mi.stpAt a b m k)])), .va (.int k), .va (.lst [eStp (Mi.stpAt a b m k)]), .no]) ?_ ⟨.inr rfl, .inr rfl, .inr rfl, .inr rfl, .inl rfl, .inl rfl, .inr rfl, trivial⟩
      refine gss_cons (gs_to (Γ2 := [.va (eNd m), .va (fnV P w K mg base B.T 4 (preSteps a b)), .va (eI ns), .ow none (owL K (((Mi.pathS a b n ns).take i).map eStp)), .va (.int k), .va (.lst [eStp (Mi.stpAt a b m k)]), .no])
        (gs_lcIf (i := 5) (T := .nm 6) (own := [("row", 6)]) (as := Mi.steps a b m) eStp eStp (fun s => decide (s.name = k)) rfl scFollowed.nd rfl rfl (sw_true rfl rfl rfl (by decide +kernel)) (gi_lst (ge_callF (k := 4) (pre := preSteps a b) 1 (ga_cons (gv 0) ga_nil) hr (by omega) ⟨m, rfl, h1, rfl⟩)) (blkOk_by (N := nFollowed) (sc := defScope sFollowed) (by decide +kernel)) (fun _ _ _ _ _ => pg_name scFollowed.nd rfl (Or.inl rfl)) (fun s H C cl fp st hst => ?_) (fun s H C cl fp st hst _ => gv 6) (by rw [sizeLine_eq]; omega) (fun _ _ => trivial) (fun j hj => ?_) (Nat.le_of_ble_eq_true rfl)) ?eL) ?rest
      · have hmem : st.name = k ∨ st.name ≠ k := Decidable.em _
        obtain ⟨j, hj⟩ := List.mem_iff_getElem?.mp hst
        have hjl : j < (Mi.howMany m + 1).toNat := by rw [← hsl]; exact (List.getElem?_eq_some_iff.mp hj).1
        rw [steps_get hjl] at hj
        cases hj
        refine gt_is (gt_eqS (g_repr Gm (ge_ixT (gv 6) ge_int rfl) ?_) (g_repr Gm (gv 4) ?_)) (repr_inj (by show (0 : Int) ≤ (j : Int); omega) (by show (j : Int) ≤ 101; omega) h2 (by omega))
        · exact lg101 (by show (0 : Int) ≤ (j : Int); omega) (by show (j : Int) ≤ 101; omega)
        · exact lg101 h2 (by omega)
      · have : j = 6 := by simpa [Tg.idx] using hj
        subst this
        exact ⟨Nat.le_of_ble_eq_true rfl, by simp⟩
      case eL => rw [hfl]; rfl
      case rest =>
        exact gss_cons (gs_skip (gt_is (gt_not (gt_truL (gv 5))) rfl)) (gss_cons (gs_append (i := 3) (x := eStp (Mi.stpAt a b m k)) rfl rfl (Or.inl rfl) (ge_ixL (gv 5) ge_int rfl) (by rw [sizeLine_eq]; omega) (fun l z => by cases z))
          (gss_cons (gs_asg (i := 0) (y := eNd (Mi.movedTo a b m k)) (ge_ixT (xs := [.int k, .int (Mi.b01 (Mi.isHit m.1 k)), .int (Mi.b01 (Mi.isHit m.2 k)), eNd (Mi.movedTo a b m k)]) (ge_ixL (gv 5) ge_int rfl) ge_int rfl) (Nat.le_of_ble_eq_true rfl) scFollowed.nd rfl (Or.inl rfl)) gss_nil))
  case eG =>
    have hN : (List.map Vl.int ns).length = ns.length := List.length_map ..
    show [Sl.va (eNd (Mi.pathE a b n (ns.take (List.map Vl.int ns).length))), _, _, Sl.ow none (owL K (((Mi.pathS a b n ns).take (List.map Vl.int ns).length).map eStp)), _, _, _] = _
    rw [hN, List.take_length, ← Mi.pathS_len a b n ns, List.take_length]
end
end G
set_option maxHeartbeats 4000000
/-! F7: ends of paths; walks; gains. -/
namespace G
open PySem PySem.Spec PyProof.Rows L2 LamX NdefX
abbrev sEndOf : Stmt := topS 13
theorem scEndOf : FnScope ["first", "steps"] ["first", "steps"] (defScope sEndOf) := ⟨rfl, rfl, rfl, by decide +kernel, rfl, by decide +kernel, by decide +kernel⟩
abbrev sAround : Stmt := topS 14
theorem scAround : FnScope ["first", "steps_of", "way", "around", "steps", "here", "found"] ["first", "steps_of", "way", "around"] (defScope sAround) := ⟨rfl, rfl, rfl, by decide +kernel, rfl, by decide +kernel, by decide +kernel⟩
abbrev sWalkOf : Stmt := topS 47
theorem scWalkOf : FnScope ["one", "other", "walk"] ["one", "other", "walk"] (defScope sWalkOf) := ⟨rfl, rfl, rfl, by decide +kernel, rfl, by decide +kernel, by decide +kernel⟩
abbrev sNeedW : Stmt := topS 48
theorem scNeedW : FnScope ["one", "other", "walk", "steps"] ["one", "other", "walk"] (defScope sNeedW) := ⟨rfl, rfl, rfl, by decide +kernel, rfl, by decide +kernel, by decide +kernel⟩
abbrev sWalked : Stmt := topS 49
theorem scWalked : FnScope ["one", "other", "walk", "steps"] ["one", "other", "walk"] (defScope sWalked) := ⟨rfl, rfl, rfl, by decide +kernel, rfl, by decide +kernel, by decide +kernel⟩
abbrev sGain : Stmt := topS 52
theorem scGain : FnScope ["mine", "its"] ["mine", "its"] (defScope sGain) := ⟨rfl, rfl, rfl, by decide +kernel, rfl, by decide +kernel, by decide +kernel⟩
abbrev sExcOf : Stmt := topS 54
theorem scExcOf : FnScope ["steps", "row"] ["steps"] (defScope sExcOf) := ⟨rfl, rfl, rfl, by decide +kernel, rfl, by decide +kernel, by decide +kernel⟩
theorem lst_not {K : PySem.W.Frag} {xs : List Vl} (v : V) (S : Hp) (r : rep K S (.lst xs) v) : decide (v = .non) = false := by
  obtain ⟨a, vs, e, _⟩ := r
  rw [e]
  exact decide_eq_false (fun z => by cases z)
theorem atI_last {α : Type} {xs : List α} {x : α} (h : xs.getLast? = some x) : atI xs (-1) = some x := by
  have hn : 0 < xs.length := by
    cases xs with
    | nil => simp at h
    | cons a l => simp
  unfold atI ixN
  rw [if_neg (show ¬ (0 : Int) ≤ -1 by decide), if_pos (show -(xs.length : Int) ≤ -1 by omega)]
  show xs[((-1 : Int) + (xs.length : Int)).toNat]? = some x
  rw [List.getLast?_eq_getElem?] at h
  rw [show ((-1 : Int) + (xs.length : Int)).toNat = xs.length - 1 by omega]
  exact h
def preEndOf (xs : List Vl) (y : Vl) : Prop := ∃ (a b : Mi.Rl) (n : Mi.Nd) (ns : List Int), xs = [eNd n, .lst ((Mi.pathS a b n ns).map eStp)] ∧ y = eNd (Mi.pathE a b n ns)
theorem last_path {a b : Mi.Rl} {n : Mi.Nd} {ns : List Int} (h : ns ≠ []) : ∃ s, ((Mi.pathS a b n ns).map eStp).getLast? = some (eStp s) ∧ s.later = Mi.pathE a b n ns := by
  have hl := Mi.pathS_len a b n ns
  cases e : (Mi.pathS a b n ns).getLast? with
  | none =>
    rw [List.getLast?_eq_none_iff] at e
    rw [e] at hl
    exact absurd (List.length_eq_zero_iff.mp hl.symm) h
  | some s =>
    refine ⟨s, by rw [List.getLast?_map, e]; rfl, ?_⟩
    rw [Mi.pathE_last, e]
section
variable {P : Program} {w : World} {K : PySem.W.Frag} {mg : Str → Option Value} {base : Heap} {T : List NTab} {f : Addr} {fd : FuncData}
theorem ok_endOf (F : Fun K "end_of" "end_of" sEndOf f fd) : FnOk P w K mg base CX0 1 f fd ["first", "steps"] (spV K T preEndOf) := by
  refine okV F scEndOf (fun xs y ⟨_, _, _, _, e, _⟩ => by rw [e]; rfl) fun cdv A outer s H E B xs y hT hr ⟨a, b, n, ns, e1, e2⟩ => ?_
  subst e1 e2 hT
  by_cases h : ns = []
  · subst h
    exact ⟨_, grs_one (gr_ret (ge_ifF (gt_is (gt_truL (gv 1)) rfl) (gv 0)))⟩
  · obtain ⟨st, h1, h2⟩ := last_path (a := a) (b := b) (n := n) h
    have hne : (!((Mi.pathS a b n ns).map eStp).isEmpty) = true := by
      cases e : (Mi.pathS a b n ns).map eStp with
      | nil => rw [e] at h1; cases h1
      | cons _ _ => rfl
    exact ⟨_, grs_one (gr_ret (ge_ifT (gt_is (gt_truL (gv 1)) hne) (ge_is (ge_ixT (xs := [.int st.name, .int st.mine, .int st.its, eNd st.later]) (ge_ixL (gv 1) (ge_neg ge_int) (atI_last h1)) ge_int rfl) (by rw [h2]))))⟩
def preAround (P : Program) (w : World) (K : PySem.W.Frag) (mg : Str → Option Value) (base : Heap) (T : List NTab) (xs : List Vl) (y : Vl) : Prop := ∃ (a b : Mi.Rl) (n : Mi.Nd) (ns ls : List Int), xs = [eNd n, fnV P w K mg base T 4 (preSteps a b), eI ns, eI ls] ∧ Mi.okRl a ∧ Mi.okRl b ∧ Mi.okPath a b n ns ∧ Mi.okPath a b (Mi.pathE a b n ns) ls ∧ ls ≠ [] ∧ Mi.pathE a b (Mi.pathE a b n ns) ls = Mi.pathE a b n ns ∧ ns.length ≤ 100000 ∧ ls.length ≤ 100000 ∧
  y = .lst ((Mi.pathS a b (Mi.pathE a b n ns) ls).map eStp)
theorem ok_around (F : Fun K "around_of" "around_of" sAround f fd) (F1 : D P w K mg base T 5 "followed" ["here", "steps_of", "names"] (preFollowed P w K mg base T)) (F2 : D P w K mg base T 1 "end_of" ["first", "steps"] preEndOf) : FnOk P w K mg base CX0 6 f fd ["first", "steps_of", "way", "around"] (spV K T (preAround P w K mg base T)) := by
  refine okV F scAround (fun xs y ⟨_, _, _, _, _, e, _⟩ => by rw [e]; rfl) fun cdv A outer s H E B xs y hT hr ⟨a, b, n, ns, ls, e1, ha, hb, hp, hp2, hne, hc, hl, hl2, e2⟩ => ?_
  subst e1 e2 hT
  obtain ⟨st, h1, h2⟩ := last_path (a := a) (b := b) (n := Mi.pathE a b n ns) hne
  have hne2 : (!((Mi.pathS a b (Mi.pathE a b n ns) ls).map eStp).isEmpty) = true := by
    cases e : (Mi.pathS a b (Mi.pathE a b n ns) ls).map eStp with
    | nil => rw [e] at h1; cases h1
    | cons _ _ => rfl
  exact ⟨_, grs_cons (gs_asg (i := 4) (ge_call F1 hr (by omega) rfl (ga_cons (gv 0) (ga_cons (gv 1) (ga_cons (gv 2) ga_nil))) ⟨a, b, n, ns, rfl, ha, hb, hp, hl, rfl⟩) (Nat.le_of_ble_eq_true rfl) scAround.nd rfl (Or.inl rfl))
    (grs_cons (gs_skip (gt_isN (gv 4) lst_not))
    (grs_cons (gs_asg (i := 5) (ge_call F2 hr (by omega) rfl (ga_cons (gv 0) (ga_cons (gv 4) ga_nil)) ⟨a, b, n, ns, rfl, rfl⟩) (Nat.le_of_ble_eq_true rfl) scAround.nd rfl (Or.inl rfl))
    (grs_cons (gs_asg (i := 6) (ge_call F1 hr (by omega) rfl (ga_cons (gv 5) (ga_cons (gv 1) (ga_cons (gv 3) ga_nil))) ⟨a, b, _, ls, rfl, ha, hb, hp2, hl2, rfl⟩) (Nat.le_of_ble_eq_true rfl) scAround.nd rfl (Or.inl rfl))
    (grs_one (gr_ret (ge_ifT (gw_t (gw_andT (gt_is (gt_truL (gv 6)) hne2) (gw_and1 ((gt_eqSame (n := 3) (ge_ixT (xs := [.int st.name, .int st.mine, .int st.its, eNd st.later]) (ge_ixL (gv 6) (ge_neg ge_int) (atI_last h1)) ge_int rfl) (gv 5) (Dat.nd _) (Dat.nd _) (by decide) (by rw [h2, hc]) hr.units))))) (gv 6)))))))⟩
def preWalkOf (xs : List Vl) (y : Vl) : Prop := ∃ (a b : Mi.Rl) (ns : List Int), xs = [eRl a, eRl b, eI ns] ∧ Mi.okRl a ∧ Mi.okRl b ∧ Mi.okPath a b (Mi.fstNd a b) ns ∧ ns.length ≤ 100000 ∧ y = .lst ((Mi.pathS a b (Mi.fstNd a b) ns).map eStp)
theorem ok_walkOf (F : Fun K "walk_of" "walk_of" sWalkOf f fd) (F1 : D P w K mg base T 5 "followed" ["here", "steps_of", "names"] (preFollowed P w K mg base T)) (F2 : D P w K mg base T 2 "first_pair" ["one", "other"] preFirstP) (F3 : D P w K mg base T 1 "steps_of" ["one", "other"] (preStepsOf P w K mg base T)) :
    FnOk P w K mg base CX0 6 f fd ["one", "other", "walk"] (spV K T preWalkOf) := by
  refine okV F scWalkOf (fun xs y ⟨_, _, _, e, _⟩ => by rw [e]; rfl) fun cdv A outer s H E B xs y hT hr ⟨a, b, ns, e1, ha, hb, hp, hl, e2⟩ => ?_
  subst e1 e2 hT
  exact ⟨_, grs_one (gr_ret (ge_call F1 hr (by omega) rfl (ga_cons (ge_call F2 hr (by omega) rfl (ga_cons (gv 0) (ga_cons (gv 1) ga_nil)) ⟨a, b, rfl, ha, hb, rfl⟩) (ga_cons (ge_call F3 hr (by omega) rfl (ga_cons (gv 0) (ga_cons (gv 1) ga_nil)) ⟨a, b, rfl, ha, hb, rfl⟩) (ga_cons (gv 2) ga_nil))) ⟨a, b, _, ns, rfl, ha, hb, hp, hl, rfl⟩))⟩
theorem ok_needW (F : Fun K "need_walk" "need_walk" sNeedW f fd) (F1 : D P w K mg base T 8 "need_rules" ["one", "other"] preNeedRs) (F2 : D P w K mg base T 6 "walk_of" ["one", "other", "walk"] preWalkOf) : FnOk P w K mg base CX0 9 f fd ["one", "other", "walk"] (spV K T preWalkOf) := by
  refine okV F scNeedW (fun xs y ⟨_, _, _, e, _⟩ => by rw [e]; rfl) fun cdv A outer s H E B xs y hT hr ⟨a, b, ns, e1, ha, hb, hp, hl, e2⟩ => ?_
  subst e1 e2 hT
  exact ⟨_, grs_cons (gs_expr (ge_call F1 hr (by omega) rfl (ga_cons (gv 0) (ga_cons (gv 1) ga_nil)) ⟨a, b, rfl, ha, hb, rfl⟩)) (grs_cons (gs_asg (i := 3) (ge_call F2 hr (by omega) rfl (ga_cons (gv 0) (ga_cons (gv 1) (ga_cons (gv 2) ga_nil))) ⟨a, b, ns, rfl, ha, hb, hp, hl, rfl⟩) (Nat.le_of_ble_eq_true rfl) scNeedW.nd rfl (Or.inl rfl))
    (grs_cons (gs_skip (gt_isN (gv 3) lst_not)) (grs_one (gr_ret (gv 3)))))⟩
def preWalked (xs : List Vl) (y : Vl) : Prop := ∃ (a b : Mi.Rl) (ns : List Int), xs = [eRl a, eRl b, eI ns] ∧ Mi.okRl a ∧ Mi.okRl b ∧ Mi.okPath a b (Mi.fstNd a b) ns ∧ ns.length ≤ 100000 ∧ y = eNd (Mi.pathE a b (Mi.fstNd a b) ns)
theorem ok_walked (F : Fun K "walked" "walked" sWalked f fd) (F1 : D P w K mg base T 9 "need_walk" ["one", "other", "walk"] preWalkOf) (F2 : D P w K mg base T 2 "first_pair" ["one", "other"] preFirstP) (F3 : D P w K mg base T 1 "end_of" ["first", "steps"] preEndOf) : FnOk P w K mg base CX0 10 f fd ["one", "other", "walk"] (spV K T preWalked) := by
  refine okV F scWalked (fun xs y ⟨_, _, _, e, _⟩ => by rw [e]; rfl) fun cdv A outer s H E B xs y hT hr ⟨a, b, ns, e1, ha, hb, hp, hl, e2⟩ => ?_
  subst e1 e2 hT
  exact ⟨_, grs_cons (gs_asg (i := 3) (ge_call F1 hr (by omega) rfl (ga_cons (gv 0) (ga_cons (gv 1) (ga_cons (gv 2) ga_nil))) ⟨a, b, ns, rfl, ha, hb, hp, hl, rfl⟩) (Nat.le_of_ble_eq_true rfl) scWalked.nd rfl (Or.inl rfl))
    (grs_one (gr_ret (ge_call F3 hr (by omega) rfl (ga_cons (ge_call F2 hr (by omega) rfl (ga_cons (gv 0) (ga_cons (gv 1) ga_nil)) ⟨a, b, rfl, ha, hb, rfl⟩) (ga_cons (gv 3) ga_nil)) ⟨a, b, _, ns, rfl, rfl⟩)))⟩
def preGain (xs : List Vl) (y : Vl) : Prop := ∃ i j : Int, xs = [.int i, .int j] ∧ y = .int (j - i)
theorem ok_gain (F : Fun K "gain" "gain" sGain f fd) : FnOk P w K mg base CX0 1 f fd ["mine", "its"] (spV K T preGain) := by
  refine okV F scGain (fun xs y ⟨_, _, e, _⟩ => by rw [e]; rfl) fun cdv A outer s H E B xs y hT hr ⟨i, j, e1, e2⟩ => ?_
  subst e1 e2 hT
  exact ⟨_, grs_one (gr_ret (ge_sub (gv 1) (gv 0)))⟩
def gainsOf (ss : List Mi.Stp) : Int := (ss.map fun s => s.its - s.mine).sum
def preExcOf (xs : List Vl) (y : Vl) : Prop := ∃ ss : List Mi.Stp, xs = [.lst (ss.map eStp)] ∧ ss.length ≤ 200000 ∧ y = .int (gainsOf ss)
theorem ok_excOf (F : Fun K "excess_of" "excess_of" sExcOf f fd) (Gm : Gf mg) (F1 : D P w K mg base T 1 "gain" ["mine", "its"] preGain) : FnOk P w K mg base CX0 2 f fd ["steps"] (spV K T preExcOf) := by
  refine okV F scExcOf (fun xs y ⟨_, e, _⟩ => by rw [e]; rfl) fun cdv A outer s H E B xs y hT hr ⟨ss, e1, hl, e2⟩ => ?_
  subst e1 e2 hT
  refine ⟨_, grs_one (gr_ret (g_sum (ns := ss.map fun s => s.its - s.mine) Gm rfl (go_v (xs := (ss.map fun s => s.its - s.mine).map .int) ?_)))⟩
  rw [List.map_map]
  exact go_lc (T := .nm 1) (own := [("row", 1)]) (as := ss) eStp (fun s => .int (s.its - s.mine)) rfl scExcOf.nd (gi_lst (gv 0)) (blkOk_by (N := ["steps", "row"]) (sc := defScope sExcOf) (by decide +kernel)) (fun _ _ _ _ _ => pg_name scExcOf.nd rfl (Or.inl rfl)) (fun s H C cl fp st hst => ge_call F1 hr (by omega) rfl (ga_cons (ge_ixT (xs := [.int st.name, .int st.mine, .int st.its, eNd st.later]) (gv 1) ge_int rfl) (ga_cons (ge_ixT (xs := [.int st.name, .int st.mine, .int st.its, eNd st.later]) (gv 1) ge_int rfl) ga_nil)) ⟨_, _, rfl, rfl⟩) (by rw [sizeLine_eq]; omega) (fun _ _ => trivial) (fun j hj => by
    have : j = 1 := by simpa [Tg.idx] using hj
    subst this
    exact ⟨Nat.le_of_ble_eq_true rfl, by simp⟩)
end
end G
set_option maxHeartbeats 4000000
/-! F8: graph_of. -/
namespace G
open PySem PySem.Spec PyProof.Rows L2 LamX NdefX
abbrev sGraph : Stmt := topS 11
abbrev nGraph : List Str := ["first", "steps_of", "graph", "walks", "line", "at", "here", "name", "mine", "its", "later"]
theorem scGraph : FnScope nGraph ["first", "steps_of"] (defScope sGraph) := ⟨rfl, rfl, rfl, by decide +kernel, rfl, by decide +kernel, by decide +kernel⟩
def eSs (ss : List Mi.Stp) : Vl := .lst (ss.map eStp)
section
variable {P : Program} {w : World} {K : PySem.W.Frag} {mg : Str → Option Value} {base : Heap} {T : List NTab} {f : Addr} {fd : FuncData}
def preGraph (P : Program) (w : World) (K : PySem.W.Frag) (mg : Str → Option Value) (base : Heap) (T : List NTab) (xs : List Vl) (y : Vl) : Prop := ∃ (a b : Mi.Rl) (N : Nat), xs = [eNd (Mi.fstNd a b), fnV P w K mg base T 4 (preSteps a b)] ∧ Mi.okRl a ∧ Mi.okRl b ∧ Mi.GOk a b N ∧
  y = .tup [dkV P w K (eD eSs (Mi.gG a b N)), dlV P w K (eD eI (Mi.gW a b N))]
theorem ok_graph (F : Fun K "graph_of" "graph_of" sGraph f fd) (Gm : Gf mg) : FnOk P w K mg base CX0 5 f fd ["first", "steps_of"] (spV K T (preGraph P w K mg base T)) := by
  refine okV F scGraph (fun xs y ⟨_, _, _, e, _⟩ => by rw [e]; rfl) fun cdv A outer s H E B xs y hT hr ⟨a, b, N, e1, ha, hb, g, e2⟩ => ?_
  subst e1 e2 hT
  let nd0 := Mi.fstNd a b
  let fv : Vl := fnV P w K mg base B.T 4 (preSteps a b)
  let Γf : Nat → List Sl := fun i => [.va (eNd nd0), .va fv, .ow none (owK P w K (eD eSs (Mi.gG a b i))), .ow none (owK P w K (eD eI (Mi.gW a b i))), .ow none (owL K ((Mi.gW a b i).map fun p => eNd p.1)), .va (.int i), .no, .no, .no, .no, .no]
  have hu := hu9 hr
  refine ⟨[.va (eNd nd0), .va fv, .va (dkV P w K (eD eSs (Mi.gG a b N))), .va (dlV P w K (eD eI (Mi.gW a b N))), .ow none (owL K ((Mi.gW a b N).map fun p => eNd p.1)), .va (.int N), .no, .no, .no, .no, .no],
    grs_cons (gs_asgM (is := [2, 3, 4, 5]) (gm_o go_dict0 (gm_o (go_dict1 (gv 0) (ge_tup ga_nil (Nat.zero_le _)) (keyOk_nd _) (isTu_nd _) hu) (gm_o (go_lst (ga_cons (gv 0) ga_nil) (Nat.le_of_ble_eq_true rfl)) (gm_v ge_int gm_nil)))) (Nat.le_of_ble_eq_true rfl) (pgNc scGraph.nd rfl (pgNc scGraph.nd rfl (pgNc scGraph.nd rfl (pgNc scGraph.nd rfl pgN0)))) rfl (allLt rfl) rfl)
    (grs_cons (gs_while Γf N PassesOwn.never (fun i hi => ?_) ?_ (fun i hi => ?_)) (grs_freeze (i := 2) rfl owK_dkV (grs_lock (i := 3) rfl (grs_one (gr_ret (ge_tup (ga_cons (gv 2) (ga_cons (gv 3) ga_nil)) (Nat.le_of_ble_eq_true rfl)))))))⟩
  · refine gt_is (gt_lt (gv 5) (ge_lenO (i := 4) rfl rfl (Or.inl rfl) rfl Gm.len)) ?_
    rw [List.length_map]
    exact decide_eq_true (by have := g.lt i hi; omega)
  · refine gt_is (gt_lt (gv 5) (ge_lenO (i := 4) rfl rfl (Or.inl rfl) rfl Gm.len)) ?_
    rw [List.length_map, g.len]
    exact decide_eq_false (by omega)
  · have hil := g.lt i hi
    have hmem := Mi.gN_mem (a := a) (b := b) hil
    obtain ⟨hok, hlen⟩ := g.sub (Nat.le_of_lt hi)
    obtain ⟨hok1, hlen1⟩ := g.sub hi
    generalize hn : Mi.gN a b i = n at hmem
    have hnd : Mi.okNd a b n := by
      obtain ⟨p, h1, h2⟩ := List.mem_map.mp hmem
      rw [← h2]; exact hok p h1
    have hw := Mi.look_walkOf hmem
    have hwl : (Mi.walkOf (Mi.gW a b i) n).length ≤ i := by
      unfold Mi.walkOf
      cases e : (Mi.gW a b i).find? fun p => decide (p.1 = n) with
      | none => simp
      | some q => exact Mi.walk_len i q (List.mem_of_find?_eq_some e)
    generalize hwv : Mi.walkOf (Mi.gW a b i) n = wk at hw hwl
    have hN : i < 1999 := by have := g.sm; omega
    let ss := Mi.steps a b n
    have eW : Mi.gW a b (i + 1) = Mi.gIn wk (Mi.gW a b i) ss := by
      rw [Mi.gW]
      show Mi.gIn (Mi.walkOf (Mi.gW a b i) (Mi.gN a b i)) (Mi.gW a b i) (Mi.steps a b (Mi.gN a b i)) = _
      rw [hn, hwv]
    have eG : Mi.gG a b (i + 1) = Mi.put (Mi.gG a b i) n ss := by rw [Mi.gG, hn]
    have hgl : (Mi.gG a b i).length ≤ i := by
      have : ∀ j, (Mi.gG a b j).length ≤ j := by
        intro j
        induction j with
        | zero => exact Nat.le_refl _
        | succ j ih =>
          rw [Mi.gG]
          unfold Mi.put
          split
          · rw [List.length_map]; omega
          · rw [List.length_append, List.length_singleton]; omega
      exact this i
    have hsl := steps_len (a := a) (b := b) (n := n)
    have hbd := howMany_bd ha hnd
    let Γg : Nat → List Sl := fun j => [.va (eNd nd0), .va fv, .ow none (owK P w K (eD eSs (Mi.gG a b (i + 1)))), .ow none (owK P w K (eD eI (Mi.gIn wk (Mi.gW a b i) (ss.take j)))), .ow none (owL K ((Mi.gIn wk (Mi.gW a b i) (ss.take j)).map fun p => eNd p.1)), .va (.int i), .va (eNd n), .no, .no, .no, .no]
    have hat : atI ((Mi.gW a b i).map fun p => eNd p.1) (i : Int) = some (eNd n) := by
      refine atI_nat ?_
      rw [List.getElem?_map, List.getElem?_eq_getElem hil, ← hn]
      unfold Mi.gN
      rw [List.getD_eq_getElem?_getD, List.getElem?_map, List.getElem?_eq_getElem hil]; rfl
    refine gss_weak (Γ1 := [.va (eNd nd0), .va fv, .ow none (owK P w K (eD eSs (Mi.gG a b (i + 1)))), .ow none (owK P w K (eD eI (Mi.gW a b (i + 1)))), .ow none (owL K ((Mi.gW a b (i + 1)).map fun p => eNd p.1)), .va (.int (i + 1 : Nat)), .va (eNd n), .no, .no, .no, .no]) ?_ ⟨.inr rfl, .inr rfl, .inr rfl, .inr rfl, .inr rfl, .inr rfl, .inl rfl, .inr rfl, .inr rfl, .inr rfl, .inr rfl, trivial⟩
    refine gss_cons (gs_asg (i := 6) (y := eNd n) (ge_ixO (i := 4) rfl rfl (Or.inl rfl) (gv 5) hat) (Nat.le_of_ble_eq_true rfl) scGraph.nd rfl (Or.inl rfl)) (gss_cons (gs_to (Γ2 := Γg 0) (gs_putD (i := 2) (y := eSs ss) rfl rfl (Or.inl rfl) (ge_callF (k := 4) (pre := preSteps a b) 1 (ga_cons (gv 6) ga_nil) hr (by omega) ⟨n, rfl, hnd, rfl⟩) (gv 6) (keyOk_nd n) (isTu_nd n) hu (by unfold eD; rw [List.length_map, sizeLine_eq]; omega) (fun l z => by cases z)) ?eP)
      (gss_cons (gs_to (Γ2 := Γg ss.length) (gs_for (T := .tp [7, 8, 9, 10]) (xs := ss.map eStp) Γg PassesOwn.never rfl (gi_lst (ge_ixD (y := .lst (ss.map eStp)) (gd_own 2) (gv 6) (keyOk_nd n) (isTu_nd n) hu ?lk)) (pg_tup rfl (pgNc scGraph.nd rfl (pgNc scGraph.nd rfl (pgNc scGraph.nd rfl (pgNc scGraph.nd rfl pgN0))))) (fun x hx => ?okT) (fun j hj k hk => ?idx) (fun S1 j x hx => ?body)) ?eE)
      (gss_cons (gs_to (gs_asg (i := 5) (ge_add (gv 5) ge_int) (Nat.le_of_ble_eq_true rfl) scGraph.nd rfl (Or.inl rfl)) ?eA) gss_nil)))
    case eP =>
      show [_, _, Sl.ow none (owK P w K (putK2 (eD eSs (Mi.gG a b i)) (eNd n) (eSs ss))), _, _, _, _, _, _, _, _] = _
      rw [put_eD, ← eG]
      rfl
    case lk =>
      rw [lk_eD, eG, Mi.look_put, if_pos rfl]; rfl
    case okT =>
      obtain ⟨st, _, rfl⟩ := List.mem_map.mp hx
      exact ⟨_, rfl, rfl⟩
    case idx =>
      simp [Tg.idx] at hk
      rcases hk with rfl | rfl | rfl | rfl <;> exact Nat.le_of_ble_eq_true rfl
    case eE =>
      rw [List.length_map]
    case eA =>
      show [_, _, _, Sl.ow none (owK P w K (eD eI (Mi.gIn wk (Mi.gW a b i) (ss.take ss.length)))), Sl.ow none (owL K ((Mi.gIn wk (Mi.gW a b i) (ss.take ss.length)).map fun p => eNd p.1)), _, _, _, _, _, _] = _
      rw [List.take_length, eW]
      rfl
    case body =>
      rw [List.getElem?_map] at hx
      cases hs : ss[j]? with
      | none => rw [hs] at hx; cases hx
      | some st =>
        rw [hs] at hx
        cases hx
        have etk : ss.take (j + 1) = ss.take j ++ [st] := by rw [List.take_add_one, hs]; rfl
        have eIn : Mi.gIn wk (Mi.gW a b i) (ss.take (j + 1)) = if st.later ∈ (Mi.gIn wk (Mi.gW a b i) (ss.take j)).map (·.1) then Mi.gIn wk (Mi.gW a b i) (ss.take j) else Mi.gIn wk (Mi.gW a b i) (ss.take j) ++ [(st.later, wk ++ [st.name])] := by
          rw [etk, Mi.gIn_app]; rfl
        have hpre : (Mi.gIn wk (Mi.gW a b i) (ss.take j)).length ≤ (Mi.gIn wk (Mi.gW a b i) (ss.take (j + 1))).length ∧ (Mi.gIn wk (Mi.gW a b i) (ss.take (j + 1))).length ≤ 1999 := by
          constructor
          · rw [eIn]; split
            · exact Nat.le_refl _
            · rw [List.length_append]; omega
          · obtain ⟨m, e⟩ := Mi.gIn_pre wk (ss.drop (j + 1)) (Mi.gIn wk (Mi.gW a b i) (ss.take (j + 1)))
            rw [← Mi.gIn_app, List.take_append_drop, ← eW] at e
            rw [e, List.length_append] at hlen1
            omega
        have hlk := Mi.look_gIn (w := wk) (ss := ss.take j) hw
        generalize hws : Mi.gIn wk (Mi.gW a b i) (ss.take j) = ws at eIn hpre hlk
        have e0 : Γg j = [.va (eNd nd0), .va fv, .ow none (owK P w K (eD eSs (Mi.gG a b (i + 1)))), .ow none (owK P w K (eD eI ws)), .ow none (owL K (ws.map fun p => eNd p.1)), .va (.int i), .va (eNd n), .no, .no, .no, .no] := by
          show [_, _, _, Sl.ow none (owK P w K (eD eI (Mi.gIn wk (Mi.gW a b i) (ss.take j)))), Sl.ow none (owL K ((Mi.gIn wk (Mi.gW a b i) (ss.take j)).map fun p => eNd p.1)), _, _, _, _, _, _] = _
          rw [hws]
        by_cases hin : st.later ∈ ws.map (·.1)
        · rw [if_pos hin] at eIn
          have e1 : Γg (j + 1) = Γg j := by
            rw [e0]
            show [_, _, _, Sl.ow none (owK P w K (eD eI (Mi.gIn wk (Mi.gW a b i) (ss.take (j + 1))))), Sl.ow none (owL K ((Mi.gIn wk (Mi.gW a b i) (ss.take (j + 1))).map fun p => eNd p.1)), _, _, _, _, _, _] = _
            rw [eIn]
          rw [e1, e0]
          refine gss_weak (gss_cons (gs_skip (gt_is (gt_niD (x := eNd st.later) (gv 10) (gd_own 3) (keyOk_nd _) (isTu_nd _) hu) ?_)) gss_nil) ⟨.inr rfl, .inr rfl, .inr rfl, .inr rfl, .inr rfl, .inr rfl, .inr rfl, .inl rfl, .inl rfl, .inl rfl, .inl rfl, trivial⟩
          rw [lk_eD, Option.isSome_map, (Mi.look_some_iff ws st.later).mpr hin]; rfl
        · rw [if_neg hin] at eIn
          have e1 : Γg (j + 1) = [.va (eNd nd0), .va fv, .ow none (owK P w K (eD eSs (Mi.gG a b (i + 1)))), .ow none (owK P w K (putK2 (eD eI ws) (eNd st.later) (eI (wk ++ [st.name])))), .ow none (owL K ((ws.map fun p => eNd p.1) ++ [eNd st.later])), .va (.int i), .va (eNd n), .no, .no, .no, .no] := by
            show [_, _, _, Sl.ow none (owK P w K (eD eI (Mi.gIn wk (Mi.gW a b i) (ss.take (j + 1))))), Sl.ow none (owL K ((Mi.gIn wk (Mi.gW a b i) (ss.take (j + 1))).map fun p => eNd p.1)), _, _, _, _, _, _] = _
            rw [eIn, put_eD, Mi.put_new hin, List.map_append]; rfl
          have hlt : ws.length < 1999 := by
            rw [eIn, List.length_append, List.length_singleton] at hpre
            omega
          rw [e1, e0]
          refine gss_weak (gss_cons (gs_if (b := true) (gt_is (gt_niD (x := eNd st.later) (gv 10) (gd_own 3) (keyOk_nd _) (isTu_nd _) hu) ?_) (fun _ => gss_cons (gs_skip (gt_is (gt_eqI (ge_lenO (i := 4) rfl rfl (Or.inl rfl) rfl Gm.len) (g_mostN Gm)) ?_))
            (gss_cons (gs_putD (i := 3) (x := eNd st.later) (y := eI (wk ++ [st.name])) rfl rfl (Or.inl rfl) (ge_is (ge_catT (xs := wk.map .int) (ys := [.int st.name]) (ge_ixD (y := eI wk) (gd_own 3) (gv 6) (keyOk_nd n) (isTu_nd n) hu ?_) (ge_tup (ga_cons (gv 7) ga_nil) (Nat.le_of_ble_eq_true rfl)) ?_) ?_) (gv 10) (keyOk_nd _) (isTu_nd _) hu ?_ (fun l z => by cases z))
            (gss_cons (gs_append (i := 4) rfl rfl (Or.inl rfl) (gv 10) ?_ (fun l z => by cases z)) gss_nil))) (fun z => by cases z)) gss_nil) ⟨.inr rfl, .inr rfl, .inr rfl, .inr rfl, .inr rfl, .inr rfl, .inr rfl, .inl rfl, .inl rfl, .inl rfl, .inl rfl, trivial⟩
          · rw [lk_eD, Option.isSome_map]
            cases q : (Mi.look ws st.later).isSome with
            | false => rfl
            | true => exact absurd ((Mi.look_some_iff ws st.later).mp q) hin
          · rw [List.length_map]
            exact decide_eq_false (by omega)
          · rw [lk_eD, hlk]; rfl
          · rw [List.length_map, sizeLine_eq]
            show wk.length + 1 ≤ _
            omega
          · unfold eI; rw [List.map_append]; rfl
          · unfold eD; rw [List.length_map, sizeLine_eq]; omega
          · rw [List.length_map, sizeLine_eq]; omega
end
end G
set_option maxHeartbeats 4000000
/-! F9: Record. -/
namespace G
open PySem PySem.Spec PyProof.Rows L2 LamX NdefX
theorem scInit : FnScope ["self", "node", "value", "name", "before"] ["self", "node", "value", "name", "before"] (defScope sInit) := ⟨rfl, rfl, rfl, by decide +kernel, rfl, by decide +kernel, by decide +kernel⟩
theorem scSince : FnScope ["self", "record"] ["self"] (defScope sSince) := ⟨rfl, rfl, rfl, by decide +kernel, rfl, by decide +kernel, by decide +kernel⟩
def rcF (K : PySem.W.Frag) (C : Addr) : Mi.Rc → List (Str × Vl)
  | .root n => [("node", eNd n), ("value", .int 0), ("before", .non), ("walk", .tup [])]
  | .ext n v k b => [("node", eNd n), ("value", .int v), ("before", .ob (insO K C (rcF K C b))), ("walk", eI (b.walk ++ [k]))]
abbrev rcV (K : PySem.W.Frag) (C : Addr) (r : Mi.Rc) : Vl := .ob (insO K C (rcF K C r))
def rcO (K : PySem.W.Frag) (C : Addr) : Option Mi.Rc → Vl
  | none => .non
  | some r => rcV K C r
structure RecC (K : PySem.W.Frag) (C : Addr) : Prop where
  cls : Cls K C
  n1 : NoAttr K C "node"
  n2 : NoAttr K C "value"
  n3 : NoAttr K C "before"
  n4 : NoAttr K C "walk"
section
variable {K : PySem.W.Frag} {C : Addr}
theorem rc_node (r : Mi.Rc) : (rcF K C r).lookup ("node" : Str) = some (eNd r.node) := by cases r <;> rfl
theorem rc_value (r : Mi.Rc) : (rcF K C r).lookup ("value" : Str) = some (.int r.value) := by cases r <;> rfl
theorem rc_before (r : Mi.Rc) : (rcF K C r).lookup ("before" : Str) = some (rcO K C r.before) := by cases r <;> rfl
theorem rc_walk (r : Mi.Rc) : (rcF K C r).lookup ("walk" : Str) = some (eI r.walk) := by cases r <;> rfl
theorem rc_since (r : Mi.Rc) : (("since" : Str)) ∉ (rcF K C r).map (·.1) := by
  have h : (rcF K C r).map (·.1) = [("node" : Str), "value", "before", "walk"] := by cases r <;> rfl
  rw [h]; decide
theorem ob_not {fs : List (Str × Vl)} (v : V) (S : Hp) (r : rep K S (.ob (insO K C fs)) v) : decide (v = .non) = false := by
  obtain ⟨l, o, e, _⟩ := r
  rw [e]
  exact decide_eq_false (fun z => by cases z)
theorem non_is {v : V} {S : Hp} (r : rep K S .non v) : decide (v = .non) = true := decide_eq_true r
end
/-! how far back -/
def Mi.anc : Mi.Rc → Nat → Option Mi.Rc
  | r, 0 => some r
  | .root _, _ + 1 => none
  | .ext _ _ _ b, i + 1 => Mi.anc b i
def Mi.toT (t : Mi.Nd) : Mi.Rc → Nat
  | .root m => if m = t then 0 else 1
  | .ext m _ _ b => if m = t then 0 else Mi.toT t b + 1
theorem anc_run (t : Mi.Nd) : ∀ (r : Mi.Rc), (∀ i < Mi.toT t r, ∃ q, Mi.anc r i = some q ∧ q.node ≠ t ∧ Mi.anc r (i + 1) = q.before) ∧ Mi.anc r (Mi.toT t r) = Mi.sinceN t r ∧ ∀ q, Mi.sinceN t r = some q → q.node = t
  | .root m => by
    by_cases h : m = t
    · have e : Mi.toT t (.root m) = 0 := by rw [Mi.toT, if_pos h]
      have e2 : Mi.sinceN t (.root m) = some (.root m) := by rw [Mi.sinceN, if_pos h]
      rw [e, e2]
      exact ⟨fun i hi => absurd hi (Nat.not_lt_zero _), rfl, fun q hq => by cases hq; exact h⟩
    · have e : Mi.toT t (.root m) = 1 := by rw [Mi.toT, if_neg h]
      have e2 : Mi.sinceN t (.root m) = none := by rw [Mi.sinceN, if_neg h]
      rw [e, e2]
      exact ⟨fun i hi => by
        have : i = 0 := by omega
        subst this
        exact ⟨.root m, rfl, h, rfl⟩, rfl, fun q hq => by cases hq⟩
  | .ext m v k b => by
    obtain ⟨h1, h2, h3⟩ := anc_run t b
    by_cases h : m = t
    · have e : Mi.toT t (.ext m v k b) = 0 := by rw [Mi.toT, if_pos h]
      have e2 : Mi.sinceN t (.ext m v k b) = some (.ext m v k b) := by rw [Mi.sinceN, if_pos h]
      rw [e, e2]
      exact ⟨fun i hi => absurd hi (Nat.not_lt_zero _), rfl, fun q hq => by cases hq; exact h⟩
    · have e : Mi.toT t (.ext m v k b) = Mi.toT t b + 1 := by rw [Mi.toT, if_neg h]
      have e2 : Mi.sinceN t (.ext m v k b) = Mi.sinceN t b := by rw [Mi.sinceN, if_neg h]
      rw [e, e2]
      refine ⟨fun i hi => ?_, h2, h3⟩
      cases i with
      | zero => exact ⟨.ext m v k b, rfl, h, by cases b <;> rfl⟩
      | succ i =>
        obtain ⟨q, q1, q2, q3⟩ := h1 i (by omega)
        exact ⟨q, q1, q2, q3⟩
theorem eqvAll_ints : ∀ a b : List Int, PyData.eqvAll (toDs (a.map .int)) (toDs (b.map .int)) = decide (a = b)
  | [], [] => rfl
  | [], _ :: _ => rfl
  | _ :: _, [] => rfl
  | x :: a, y :: b => by
    show (PyData.eqv (.int x) (.int y) && PyData.eqvAll (toDs (a.map .int)) (toDs (b.map .int))) = _
    rw [eqvAll_ints a b]
    show ((x == y) && decide (a = b)) = _
    by_cases h1 : x = y
    · by_cases h2 : a = b
      · rw [decide_eq_true h2, decide_eq_true (by rw [h1, h2]), h1]; simp
      · rw [decide_eq_false h2, decide_eq_false (fun z => h2 (List.cons.inj z).2), Bool.and_false]
    · rw [decide_eq_false (fun z => h1 (List.cons.inj z).1), show (x == y) = false from by simpa using h1, Bool.false_and]
theorem eqv_st (s t : Mi.Sta) : PyData.eqv (toD (eSt s)) (toD (eSt t)) = decide (s = t) := by
  show (PyData.eqvAll (toDs (s.1.map .int)) (toDs (t.1.map .int)) && ((s.2 == t.2) && true)) = _
  rw [eqvAll_ints]
  obtain ⟨a, b⟩ := s
  obtain ⟨c, d⟩ := t
  show (decide (a = c) && ((b == d) && true)) = _
  by_cases h1 : a = c
  · by_cases h2 : b = d
    · rw [decide_eq_true h1, decide_eq_true (by rw [h1, h2]), h2]; simp
    · rw [decide_eq_false (show ¬ (a, b) = (c, d) from fun z => h2 (Prod.mk.inj z).2), show (b == d) = false from by simpa using h2]; simp
  · rw [decide_eq_false h1, decide_eq_false (fun z => h1 (Prod.mk.inj z).1), Bool.false_and]
theorem eqv_nd (m n : Mi.Nd) : PyData.eqv (toD (eNd m)) (toD (eNd n)) = decide (m = n) := by
  show (PyData.eqv (toD (eSt m.1)) (toD (eSt n.1)) && (PyData.eqv (toD (eSt m.2)) (toD (eSt n.2)) && true)) = _
  rw [eqv_st, eqv_st]
  obtain ⟨a, b⟩ := m
  obtain ⟨c, d⟩ := n
  show (decide (a = c) && (decide (b = d) && true)) = _
  by_cases h1 : a = c
  · by_cases h2 : b = d
    · rw [decide_eq_true h1, decide_eq_true h2, decide_eq_true (by rw [h1, h2])]; rfl
    · rw [decide_eq_false h2, decide_eq_false (show ¬ (a, b) = (c, d) from fun z => h2 (Prod.mk.inj z).2)]; simp
  · rw [decide_eq_false h1, decide_eq_false (fun z => h1 (Prod.mk.inj z).1), Bool.false_and]
section
variable {X : Cx} {B : Bs} {Γ : List Sl} {a b : Expr} {pos : Pos} {m n : Mi.Nd}
theorem gt_neNd (ha : GE X B Γ a (eNd m)) (hb : GE X B Γ b (eNd n)) (hu : X.A.units + 64 < cLine) (hm : behindInMarks .NotEq b = false := by first | exact nomark _ | rfl) : GT X B Γ (.Compare a [.NotEq] [b] pos) (!decide (m = n)) :=
  gt_cmp (op_neD hu) ha hb (ro_neD (Dat.nd m).pl (Dat.nd n).pl (shaped_of (Dat.nd m) (by decide)) (shaped_of (Dat.nd n) (by decide)) (by rw [eqv_nd])) hm
end
section
variable {P : Program} {w : World} {K : PySem.W.Frag} {mg : Str → Option Value} {base : Heap} {T : List NTab} {f C : Addr} {fd : FuncData}
def preInit (K : PySem.W.Frag) (C : Addr) (xs : List Vl) (fs : List (Str × Vl)) : Prop := (∃ n, xs = [eNd n, .int 0, .non, .non] ∧ fs = rcF K C (.root n)) ∨ ∃ n v k b, xs = [eNd n, .int v, .int k, rcV K C b] ∧ b.walk.length ≤ 100000 ∧ fs = rcF K C (.ext n v k b)
theorem ok_init (F : Fun K "__init__" "Record.__init__" sInit f fd) (RC : RecC K C) : FnOk P w K mg base CX0 1 f fd ["self", "node", "value", "name", "before"] (spI K T C (preInit K C)) := by
  refine okI F scInit (fun xs fs h => by rcases h with ⟨_, e, _⟩ | ⟨_, _, _, _, e, _⟩ <;> rw [e] <;> rfl) fun cdv A outer s H E B l xs fs hT hL hr h => ?_
  rcases h with ⟨n, e1, e2⟩ | ⟨n, v, k, b, e1, hl, e2⟩
  · subst e1 e2 hT
    refine ⟨[], [.va (eNd n), .va (.int 0), .va .non, .va .non], gss_cons (gs_fld (i := 0) (l := l) rfl rfl (Or.inl rfl) (gv 1) RC.cls RC.n1 (by show ("node" : Str) ∉ ([] : List Str); decide) (Nat.le_of_ble_eq_true rfl) hL) (gss_cons (gs_fld (i := 0) (l := l) rfl rfl (Or.inl rfl) (gv 2) RC.cls RC.n2 (by show ("value" : Str) ∉ ([("node" : Str)] : List Str); decide) (Nat.le_of_ble_eq_true rfl) hL)
      (gss_cons (gs_fld (i := 0) (l := l) rfl rfl (Or.inl rfl) (gv 4) RC.cls RC.n3 (by show ("before" : Str) ∉ ([("node" : Str), "value"] : List Str); decide) (Nat.le_of_ble_eq_true rfl) hL) (gss_cons (gs_fld (i := 0) (l := l) rfl rfl (Or.inl rfl) (ge_ifT (gt_isN (gv 4) fun v S r => non_is (K := K) r) (ge_tup ga_nil (Nat.zero_le _))) RC.cls RC.n4 (by show ("walk" : Str) ∉ ([("node" : Str), "value", "before"] : List Str); decide) (Nat.le_of_ble_eq_true rfl) hL) gss_nil)))⟩
  · subst e1 e2 hT
    refine ⟨[], [.va (eNd n), .va (.int v), .va (.int k), .va (rcV K C b)], gss_cons (gs_fld (i := 0) (l := l) rfl rfl (Or.inl rfl) (gv 1) RC.cls RC.n1 (by show ("node" : Str) ∉ ([] : List Str); decide) (Nat.le_of_ble_eq_true rfl) hL) (gss_cons (gs_fld (i := 0) (l := l) rfl rfl (Or.inl rfl) (gv 2) RC.cls RC.n2 (by show ("value" : Str) ∉ ([("node" : Str)] : List Str); decide) (Nat.le_of_ble_eq_true rfl) hL)
      (gss_cons (gs_fld (i := 0) (l := l) rfl rfl (Or.inl rfl) (gv 4) RC.cls RC.n3 (by show ("before" : Str) ∉ ([("node" : Str), "value"] : List Str); decide) (Nat.le_of_ble_eq_true rfl) hL) (gss_cons (gs_fld (i := 0) (l := l) rfl rfl (Or.inl rfl) (ge_ifF (gt_isN (gv 4) ob_not) (ge_is (ge_catT (xs := b.walk.map .int) (ys := [.int k]) (ge_fld (gv 4) RC.cls RC.n4 (rc_walk b)) (ge_tup (ga_cons (gv 3) ga_nil) (Nat.le_of_ble_eq_true rfl)) ?_) ?_)) RC.cls RC.n4 (by show ("walk" : Str) ∉ ([("node" : Str), "value", "before"] : List Str); decide) (Nat.le_of_ble_eq_true rfl) hL) gss_nil)))⟩
    · rw [List.length_map, sizeLine_eq]; show b.walk.length + 1 ≤ _; omega
    · show _ = eI (b.walk ++ [k])
      unfold eI; rw [List.map_append]; rfl
def preSince (K : PySem.W.Frag) (C : Addr) (xs : List Vl) (y : Vl) : Prop := ∃ r : Mi.Rc, xs = [rcV K C r] ∧ y = rcO K C r.since
theorem ok_since (F : Fun K "since" "Record.since" sSince f fd) (RC : RecC K C) : FnOk P w K mg base CX0 1 f fd ["self"] (spV K T (preSince K C)) := by
  refine okV F scSince (fun xs y ⟨_, e, _⟩ => by rw [e]; rfl) fun cdv A outer s H E B xs y hT hr ⟨r, e1, e2⟩ => ?_
  subst e1 e2 hT
  have hu := hr.units
  cases r with
  | root n =>
    refine ⟨_, grs_cons (gs_asg (i := 1) (y := .non) (ge_fld (gv 0) RC.cls RC.n3 rfl) (Nat.le_of_ble_eq_true rfl) scSince.nd rfl (Or.inl rfl)) (grs_cons (gs_while (fun _ => [.va (rcV K C (.root n)), .va .non]) 0 PassesOwn.never (fun i hi => absurd hi (Nat.not_lt_zero _)) (gw_t (gw_andF (gt_is (gt_notN (gv 1) fun v S r => (congrArg not (non_is (K := K) r))) rfl))) (fun i hi => absurd hi (Nat.not_lt_zero _))) (grs_one (gr_ret (gv 1))))⟩
  | ext n v k b =>
    obtain ⟨h1, h2, h3⟩ := anc_run n b
    let Γf : Nat → List Sl := fun i => [.va (rcV K C (.ext n v k b)), .va (rcO K C (Mi.anc b i))]
    refine ⟨Γf (Mi.toT n b), grs_cons (gs_to (Γ2 := Γf 0) (gs_asg (i := 1) (y := rcV K C b) (ge_fld (gv 0) RC.cls RC.n3 rfl) (Nat.le_of_ble_eq_true rfl) scSince.nd rfl (Or.inl rfl)) ?e0) (grs_cons (gs_while Γf (Mi.toT n b) PassesOwn.never (fun i hi => ?_) ?_ (fun i hi => ?_)) (grs_one (gr_ret (gv 1 (y := rcO K C (Mi.sinceN n b)) (by rw [← h2]; rfl)))))⟩
    · have : Mi.anc b 0 = some b := by cases b <;> rfl
      show _ = [Sl.va (rcV K C (.ext n v k b)), .va (rcO K C (Mi.anc b 0))]
      rw [this]; rfl
    · obtain ⟨q, q1, q2, q3⟩ := h1 i hi
      have e : Γf i = [.va (rcV K C (.ext n v k b)), .va (rcV K C q)] := by
        show [_, Sl.va (rcO K C (Mi.anc b i))] = _
        rw [q1]; rfl
      rw [e]
      exact gw_t (gw_andT (gt_is (gt_notN (gv 1) fun v S r => congrArg not (ob_not v S r)) rfl) (gw_and1 (gt_is (gt_neNd (m := q.node) (n := n) (ge_fld (gv 1) RC.cls RC.n1 (rc_node q)) (ge_fld (gv 0) RC.cls RC.n1 rfl) hu) (by rw [decide_eq_false q2]; rfl))))
    · show GT _ _ [Sl.va (rcV K C (.ext n v k b)), .va (rcO K C (Mi.anc b (Mi.toT n b)))] _ _
      rw [h2]
      cases hs : Mi.sinceN n b with
      | none => exact gw_t (gw_andF (gt_is (gt_notN (x := .non) (gv 1) fun v S r => (congrArg not (non_is (K := K) r))) rfl))
      | some q =>
        exact gw_t (gw_andT (gt_is (gt_notN (gv 1) fun v S r => congrArg not (ob_not (C := C) (fs := rcF K C q) v S r)) rfl) (gw_and1 (gt_is (gt_neNd (m := q.node) (n := n) (ge_fld (gv 1) RC.cls RC.n1 (rc_node q)) (ge_fld (gv 0) RC.cls RC.n1 rfl) hu) (by rw [decide_eq_true (h3 q hs)]; rfl))))
    · obtain ⟨q, q1, q2, q3⟩ := h1 i hi
      have e : Γf i = [.va (rcV K C (.ext n v k b)), .va (rcV K C q)] := by
        show [_, Sl.va (rcO K C (Mi.anc b i))] = _
        rw [q1]; rfl
      have e2 : Γf (i + 1) = [.va (rcV K C (.ext n v k b)), .va (rcO K C q.before)] := by
        show [_, Sl.va (rcO K C (Mi.anc b (i + 1)))] = _
        rw [q3]
      rw [e, e2]
      exact gss_cons (gs_asg (i := 1) (ge_fld (gv 1) RC.cls RC.n3 (rc_before q)) (Nat.le_of_ble_eq_true rfl) scSince.nd rfl (Or.inl rfl)) gss_nil
end
end G
set_option maxHeartbeats 4000000
/-! F10: improved. -/
namespace G
open PySem PySem.Spec PyProof.Rows L2 LamX NdefX
abbrev sImp : Stmt := topS 16
abbrev nImp : List Str := ["graph", "layer", "best", "worth", "found", "record", "name", "mine", "its", "later", "value"]
theorem scImp : FnScope nImp ["graph", "layer", "best", "worth"] (defScope sImp) := ⟨rfl, rfl, rfl, by decide +kernel, rfl, by decide +kernel, by decide +kernel⟩
/-- what stands behind the class -/
structure RecF (P : Program) (w : World) (K : PySem.W.Frag) (mg : Str → Option Value) (base : Heap) (T : List NTab) (C : Addr) : Prop where
  rc : RecC K C
  mgR : mg "Record" = some (.ref C)
  mak : ∃ g fd, Mk K C g ∧ FnOk P w K mg base CX0 1 g fd ["self", "node", "value", "name", "before"] (spI K T C (preInit K C)) ∧ Binds K fd ["self", "node", "value", "name", "before"] []
  si : ∃ g fd, Meth K C "since" g ∧ FnOk P w K mg base CX0 1 g fd ["self"] (spV K T (preSince K C)) ∧ Binds K fd ["self"] []
def sortR (rs : List Mi.Rc) : List Mi.Rc := rs.mergeSort (PySem.W.dataLe false fun r => toD (eI r.walk))
abbrev nmImp : Nat → Nat → Str := fun _ _ => "improved.<locals>.<lambda>"
theorem alike_walks (rs : List Mi.Rc) : PySem.W.AllAlike (rs.map fun r => toD (eI r.walk)) := fun d hd d' hd' => by
  obtain ⟨r, _, rfl⟩ := List.mem_map.mp hd
  obtain ⟨r', _, rfl⟩ := List.mem_map.mp hd'
  show PySem.W.alikeAll (toDs (r.walk.map .int)) (toDs (r'.walk.map .int)) = true
  rw [toDs_map, toDs_map, List.map_map, List.map_map]
  exact PySem.W.alike_ints _ _
section
variable {P : Program} {w : World} {K : PySem.W.Frag} {mg : Str → Option Value} {base : Heap} {T : List NTab} {f : Addr} {fd : FuncData}
def preImp (P : Program) (w : World) (K : PySem.W.Frag) (mg : Str → Option Value) (base : Heap) (T : List NTab) (C : Addr) (a b : Mi.Rl) (best : List (Mi.Nd × Int)) (xs : List Vl) (y : Vl) : Prop := ∃ (G : List (Mi.Nd × List Mi.Stp)) (rs : List Mi.Rc) (z : Vl), xs = [dkV P w K (eD eSs G), .lst (rs.map (rcV K C)), z, fnV P w K mg base T 1 preGain] ∧ Mi.okRl a ∧
  (∀ r ∈ rs, Mi.look G r.node = some (Mi.steps a b r.node) ∧ Mi.okNd a b r.node ∧ r.walk.length ≤ 90000) ∧ rs.length ≤ 2000 ∧ y = .lst ((sortR ((Mi.impF a b best rs).map (·.2))).map (rcV K C))
theorem ok_imp {C c P1 : Addr} {a b : Mi.Rl} {best : List (Mi.Nd × Int)} (F : Fun K "improved" "improved" sImp f fd) (Gm : Gf mg) (hcd : fd.code = .ref c) (TB : TabB base mg c P1) (hm : (P1, nmImp) ∈ T) (hu : ∀ p ∈ T, p.1 = P1 → p.2 = nmImp) (RF : RecF P w K mg base T C) :
    FnOk P w K mg base CX0 4 f fd ["graph", "layer", "best", "worth"] (spB K T 2 (owK P w K (eD .int best)) (preImp P w K mg base T C a b best)) := by
  refine okB F hcd scImp (by decide) (fun xs y ⟨_, _, _, e, _⟩ => by rw [e]; rfl) fun A outer s H E B l xs y hT hr ⟨G, rs, z, e1, ha, hrs, hrl, e2⟩ => ?_
  subst e1 e2 hT
  obtain ⟨g, gd, hmk, hF, hbi⟩ := RF.mak
  have h9 := hu9 hr
  let gv0 : Vl := dkV P w K (eD eSs G)
  let fv : Vl := fnV P w K mg base B.T 1 preGain
  let ob : Sl := .ow (some l) (owK P w K (eD .int best))
  let fA : Nat → List (Mi.Nd × Mi.Rc) := fun i => (rs.take i).foldl (Mi.impR a b best) []
  let Γf : Nat → List Sl := fun i => [.va gv0, .va (.lst (rs.map (rcV K C))), ob, .va fv, .ow none (owK P w K (eD (rcV K C) (fA i))), .no, .no, .no, .no, .no, .no]
  have hfl : ∀ i, (fA i).length ≤ i * 101 := by
    intro i
    induction i with
    | zero => exact Nat.le_refl _
    | succ i ih =>
      show ((rs.take (i + 1)).foldl (Mi.impR a b best) []).length ≤ _
      rw [List.take_add_one]
      cases hri : rs[i]? with
      | none =>
        show ((rs.take i ++ []).foldl (Mi.impR a b best) []).length ≤ _
        rw [List.append_nil]
        exact Nat.le_trans ih (Nat.mul_le_mul_right _ (Nat.le_succ _))
      | some r =>
        show ((rs.take i ++ [r]).foldl (Mi.impR a b best) []).length ≤ _
        rw [List.foldl_append]
        have h1 := Mi.fold1_len best r (Mi.steps a b r.node) (fA i)
        have h2 := (hrs r (List.mem_of_getElem? hri)).2.1
        have h3 := howMany_bd ha h2
        have h4 := steps_len (a := a) (b := b) (n := r.node)
        show ((Mi.steps a b r.node).foldl (Mi.imp1 best r) (fA i)).length ≤ _
        have : (i + 1) * 101 = i * 101 + 101 := by omega
        omega
  refine ⟨[.va gv0, .va (.lst (rs.map (rcV K C))), ob, .va fv, .va (dkV P w K (eD (rcV K C) (Mi.impF a b best rs))), .no, .no, .no, .no, .no, .no],
    grs_cons (gs_asgO (i := 4) (o := owK P w K []) go_dict0 (Nat.le_of_ble_eq_true rfl) scImp.nd rfl (Or.inl rfl))
    (grs_cons (gs_to (Γ2 := [.va gv0, .va (.lst (rs.map (rcV K C))), ob, .va fv, .ow none (owK P w K (eD (rcV K C) (Mi.impF a b best rs))), .no, .no, .no, .no, .no, .no]) (gs_for (T := .nm 5) (xs := rs.map (rcV K C)) Γf PassesOwn.never rfl (gi_lst (gv 1)) (pg_name scImp.nd rfl (Or.inl rfl)) (fun _ _ => trivial) (fun i hi j hj => ?_) (fun S1 i x hx => ?_)) ?eF)
    (grs_freeze (i := 4) rfl owK_dkV (grs_one (gr_ret (go_v (go_sortedLam (as := (Mi.impF a b best rs).map (·.2)) (fsOf := rcF K C) (key := fun r => eI r.walk) Gm rfl hr TB rfl hm rfl hu (ge_values (gv 4)) ?col RF.rc.cls RF.rc.n4 (fun r _ => ⟨rc_walk r, (Dat.ints _).ky⟩) (alike_walks _) ?so (fun r _ => Nat.le_trans (Dat.ints _).dep (by decide)) (fun _ _ _ _ _ => rfl) rfl rfl rfl (by decide) (by decide) rfl (by decide) (fun _ => rfl) rfl))))))⟩
  · have : j = 5 := by simpa [Tg.idx] using hj
    subst this
    exact Nat.le_of_ble_eq_true rfl
  · rw [List.getElem?_map] at hx
    cases hri : rs[i]? with
    | none => rw [hri] at hx; cases hx
    | some r =>
      rw [hri] at hx
      cases hx
      obtain ⟨hlk, hnd, hwl⟩ := hrs r (List.mem_of_getElem? hri)
      have hil : i < rs.length := (List.getElem?_eq_some_iff.mp hri).1
      have hfi := hfl i
      have eA : fA (i + 1) = (Mi.steps a b r.node).foldl (Mi.imp1 best r) (fA i) := by
        show ((rs.take (i + 1)).foldl (Mi.impR a b best) []) = _
        rw [List.take_add_one, hri]
        show ((rs.take i ++ [r]).foldl (Mi.impR a b best) []) = _
        rw [List.foldl_append]; rfl
      let ss := Mi.steps a b r.node
      have hsl := steps_len (a := a) (b := b) (n := r.node)
      have hbd := howMany_bd ha hnd
      let fB : Nat → List (Mi.Nd × Mi.Rc) := fun j => (ss.take j).foldl (Mi.imp1 best r) (fA i)
      let Γg : Nat → List Sl := fun j => [.va gv0, .va (.lst (rs.map (rcV K C))), ob, .va fv, .ow none (owK P w K (eD (rcV K C) (fB j))), .va (rcV K C r), .no, .no, .no, .no, .no]
      refine gss_weak (Γ1 := Γg ss.length) ?_ ⟨.inr rfl, .inr rfl, .inr rfl, .inr rfl, .inr ?_, .inl rfl, .inr rfl, .inr rfl, .inr rfl, .inr rfl, .inr rfl, trivial⟩
      · refine gss_cons (gs_to (gs_for (T := .tp [6, 7, 8, 9]) (xs := ss.map eStp) Γg PassesOwn.never rfl (gi_lst (ge_ixD (y := .lst (ss.map eStp)) (gd_v 0) (ge_fld (gv 5) RF.rc.cls RF.rc.n1 (rc_node r)) (keyOk_nd _) (isTu_nd _) h9 (by rw [lk_eD, hlk]; rfl))) (pg_tup rfl (pgNc scImp.nd rfl (pgNc scImp.nd rfl (pgNc scImp.nd rfl (pgNc scImp.nd rfl pgN0))))) (fun x hx => ?okT) (fun j hj k hk => ?idx) (fun S2 j x hx => ?body)) (by rw [List.length_map])) gss_nil
        case okT =>
          obtain ⟨st, _, rfl⟩ := List.mem_map.mp hx
          exact ⟨_, rfl, rfl⟩
        case idx =>
          simp [Tg.idx] at hk
          rcases hk with rfl | rfl | rfl | rfl <;> exact Nat.le_of_ble_eq_true rfl
        case body =>
          rw [List.getElem?_map] at hx
          cases hs : ss[j]? with
          | none => rw [hs] at hx; cases hx
          | some st =>
            rw [hs] at hx
            cases hx
            have hjl : j < (Mi.steps a b r.node).length := (List.getElem?_eq_some_iff.mp hs).1
            have eB : fB (j + 1) = Mi.imp1 best r (fB j) st := by
              show (ss.take (j + 1)).foldl (Mi.imp1 best r) (fA i) = _
              rw [List.take_add_one, hs]
              show (ss.take j ++ [st]).foldl (Mi.imp1 best r) (fA i) = _
              rw [List.foldl_append]; rfl
            have hbl : (fB j).length ≤ (fA i).length + j := by
              have := Mi.fold1_len best r (ss.take j) (fA i)
              have h2 : (ss.take j).length ≤ j := by rw [List.length_take]; omega
              show ((ss.take j).foldl (Mi.imp1 best r) (fA i)).length ≤ _
              omega
            have hbl2 : (fB j).length < 16777216 := by
              have : i * 101 ≤ 2000 * 101 := Nat.mul_le_mul_right _ (by omega)
              omega
            generalize hfj : fB j = fj at eB hbl hbl2
            have e0 : Γg j = [.va gv0, .va (.lst (rs.map (rcV K C))), ob, .va fv, .ow none (owK P w K (eD (rcV K C) fj)), .va (rcV K C r), .no, .no, .no, .no, .no] := by
              show [_, _, _, _, Sl.ow none (owK P w K (eD (rcV K C) (fB j))), _, _, _, _, _, _] = _
              rw [hfj]
            have e1 : Γg (j + 1) = [.va gv0, .va (.lst (rs.map (rcV K C))), ob, .va fv, .ow none (owK P w K (eD (rcV K C) (Mi.imp1 best r fj st))), .va (rcV K C r), .no, .no, .no, .no, .no] := by
              show [_, _, _, _, Sl.ow none (owK P w K (eD (rcV K C) (fB (j + 1)))), _, _, _, _, _, _] = _
              rw [eB]
            rw [e0, e1]
            generalize hV : r.value + (st.its - st.mine) = V
            have eI1 : Mi.imp1 best r fj st = if Mi.better best st.later V && Mi.betterR fj st.later V then Mi.put fj st.later (.ext st.later V st.name r) else fj := by
              unfold Mi.imp1; rw [hV]
            refine gss_weak (Γ1 := [.va gv0, .va (.lst (rs.map (rcV K C))), ob, .va fv, .ow none (owK P w K (eD (rcV K C) (Mi.imp1 best r fj st))), .va (rcV K C r), .va (.int st.name), .va (.int st.mine), .va (.int st.its), .va (eNd st.later), .va (.int V)]) ?_ ⟨.inr rfl, .inr rfl, .inr rfl, .inr rfl, .inr rfl, .inr rfl, .inl rfl, .inl rfl, .inl rfl, .inl rfl, .inl rfl, trivial⟩
            refine gss_cons (gs_asg (i := 10) (y := .int V) (ge_is (ge_add (ge_fld (gv 5) RF.rc.cls RF.rc.n2 (rc_value r)) (ge_callF (k := 1) (pre := preGain) 3 (ga_cons (gv 7) (ga_cons (gv 8) ga_nil)) hr (by omega) ⟨_, _, rfl, rfl⟩)) (by rw [hV])) (Nat.le_of_ble_eq_true rfl) scImp.nd rfl (Or.inl rfl))
              (gss_cons (gs_if (b := Mi.better best st.later V) ?t1 (fun hb => gss_cons (gs_if (b := Mi.betterR fj st.later V) ?t2 (fun hb2 => gss_cons (gs_to (gs_putD (i := 4) (x := eNd st.later) (y := rcV K C (.ext st.later V st.name r)) rfl rfl (Or.inl rfl)
                (go_as (go_make hmk hF hr (by omega) RF.mgR hbi (ga_cons (gv 9) (ga_cons (gv 10) (ga_cons (gv 6) (ga_cons (gv 5) ga_nil)))) (.inr ⟨st.later, V, st.name, r, rfl, by omega, rfl⟩)) owF_val) (gv 9) (keyOk_nd _) (isTu_nd _) h9 (by unfold eD; rw [List.length_map, sizeLine_eq]; exact hbl2) (fun l z => by cases z)) ?p1) gss_nil) (fun hb2 => gss_to gss_nil ?p2)) gss_nil) (fun hb => gss_to gss_nil ?p3)) gss_nil)
            case t1 =>
              cases hlb : Mi.look best st.later with
              | none =>
                rw [show Mi.better best st.later V = true from by unfold Mi.better; rw [hlb]]
                exact gw_t (gw_orT (gt_is (gt_niD (x := eNd st.later) (gv 9) (gd_own 2) (keyOk_nd _) (isTu_nd _) h9) (by rw [lk_eD, hlb]; rfl)))
              | some u =>
                rw [show Mi.better best st.later V = decide (V > u) from by unfold Mi.better; rw [hlb]]
                exact gw_t (gw_orF (gt_is (gt_niD (x := eNd st.later) (gv 9) (gd_own 2) (keyOk_nd _) (isTu_nd _) h9) (by rw [lk_eD, hlb]; rfl)) (gw_or1 (gt_gt (gv 10) (ge_ixD (y := .int u) (gd_own 2) (gv 9) (keyOk_nd _) (isTu_nd _) h9 (by rw [lk_eD, hlb]; rfl)))))
            case t2 =>
              cases hlb : Mi.look fj st.later with
              | none =>
                rw [show Mi.betterR fj st.later V = true from by unfold Mi.betterR; rw [hlb]]
                exact gw_t (gw_orT (gt_is (gt_niD (x := eNd st.later) (gv 9) (gd_own 4) (keyOk_nd _) (isTu_nd _) h9) (by rw [lk_eD, hlb]; rfl)))
              | some u =>
                rw [show Mi.betterR fj st.later V = decide (V > u.value) from by unfold Mi.betterR; rw [hlb]]
                exact gw_t (gw_orF (gt_is (gt_niD (x := eNd st.later) (gv 9) (gd_own 4) (keyOk_nd _) (isTu_nd _) h9) (by rw [lk_eD, hlb]; rfl)) (gw_or1 (gt_gt (gv 10) (ge_fld (ge_ixD (y := rcV K C u) (gd_own 4) (gv 9) (keyOk_nd _) (isTu_nd _) h9 (by rw [lk_eD, hlb]; rfl)) RF.rc.cls RF.rc.n2 (rc_value u)))))
            case p1 =>
              rw [eI1, hb, hb2, put_eD]; rfl
            case p2 =>
              rw [eI1, hb, hb2]; rfl
            case p3 =>
              rw [eI1, hb]; rfl
      · show Sl.ow none (owK P w K (eD (rcV K C) (fA (i + 1)))) = Sl.ow none (owK P w K (eD (rcV K C) ((ss.take ss.length).foldl (Mi.imp1 best r) (fA i))))
        rw [eA, List.take_length]
  case eF =>
    show [_, _, _, _, Sl.ow none (owK P w K (eD (rcV K C) ((rs.take (rs.map (rcV K C)).length).foldl (Mi.impR a b best) []))), _, _, _, _, _, _] = _
    rw [List.length_map, List.take_length]; rfl
  case col =>
    have := col_vals (X := (bX P w K mg base nImp "improved" sImp f (.ref c) A outer s H E)) (T := B.T) (A := (bX P w K mg base nImp "improved" sImp f (.ref c) A outer s H E).A.in1) (kvs := eD (rcV K C) (Mi.impF a b best rs)) hr.hd
    unfold eD at this
    rw [List.map_map] at this
    rw [List.map_map]
    exact this
  case so =>
    refine .inl fun d hd => ?_
    rw [List.map_map] at hd
    obtain ⟨p, hp, rfl⟩ := List.mem_map.mp hd
    rcases Mi.impF_mem hp with h | ⟨r, hr, st, hst, e, _⟩
    · cases h
    · show ∃ x q, toD (eI p.2.walk) = .tuple (x :: q)
      rw [e]
      show ∃ x q, PyData.tuple (toDs ((r.walk ++ [st.name]).map .int)) = .tuple (x :: q)
      cases hw : r.walk with
      | nil => exact ⟨_, _, rfl⟩
      | cons q0 qs => exact ⟨_, _, rfl⟩
end
end G
set_option maxHeartbeats 4000000
/-! F11: climbed. -/
namespace G
open PySem PySem.Spec PyProof.Rows L2 LamX NdefX
abbrev sClimb : Stmt := topS 17
abbrev nClimb : List Str := ["graph", "first", "worth", "layer", "best", "top", "record", "before"]
theorem scClimb : FnScope nClimb ["graph", "first", "worth"] (defScope sClimb) := ⟨rfl, rfl, rfl, by decide +kernel, rfl, by decide +kernel, by decide +kernel⟩
abbrev clG (a b : Mi.Rl) (i : Nat) : Mi.Cl := Mi.cl sortR a b i
structure ClOk (G : List (Mi.Nd × List Mi.Stp)) (a b : Mi.Rl) (i : Nat) : Prop where
  lay : ∀ r ∈ (clG a b i).layer, Mi.look G r.node = some (Mi.steps a b r.node) ∧ Mi.okNd a b r.node ∧ r.walk.length ≤ 90000
  len : (clG a b i).layer.length ≤ 2000
  blen : (clG a b i).best.length ≤ 1000000
theorem setB_len (d : List (Mi.Nd × Int)) (rs : List Mi.Rc) : (Mi.setB d rs).length ≤ d.length + rs.length := by
  induction rs generalizing d with
  | nil => exact Nat.le_refl _
  | cons r rs ih =>
    have := ih (Mi.put d r.node r.value)
    have h2 : (Mi.put d r.node r.value).length ≤ d.length + 1 := by
      unfold Mi.put
      split
      · rw [List.length_map]; omega
      · rw [List.length_append, List.length_singleton]; exact Nat.le_refl _
    show (Mi.setB (Mi.put d r.node r.value) rs).length ≤ _
    rw [List.length_cons]; omega
abbrev wBody : List Stmt := match (defBody sClimb).getD 2 (.Pass ⟨0, 0, 0, 0⟩) with
  | .While _ bo _ _ => bo
  | _ => []
abbrev cBody : List Stmt := match wBody.getD 1 (.Pass ⟨0, 0, 0, 0⟩) with
  | .For _ _ fb _ _ => fb
  | _ => []
section
variable {P : Program} {w : World} {K : PySem.W.Frag} {mg : Str → Option Value} {base : Heap} {T : List NTab} {f : Addr} {fd : FuncData}
def ClA (G : List (Mi.Nd × List Mi.Stp)) (a b : Mi.Rl) (N : Nat) : Prop := (∀ i < N, (clG a b i).layer ≠ []) ∧ (clG a b N).layer = [] ∧ (∀ i < N, ∀ r ∈ (clG a b (i + 1)).layer, r.since = none) ∧ ∀ i ≤ N, ClOk G a b i
def ClB (G : List (Mi.Nd × List Mi.Stp)) (a b : Mi.Rl) (N j : Nat) (r bf : Mi.Rc) : Prop := (∀ i ≤ N, (clG a b i).layer ≠ []) ∧ (∀ i < N, ∀ r ∈ (clG a b (i + 1)).layer, r.since = none) ∧ (∀ i ≤ N + 1, ClOk G a b i) ∧ (clG a b (N + 1)).layer[j]? = some r ∧ r.since = some bf ∧ ∀ j' < j, ∀ q, (clG a b (N + 1)).layer[j']? = some q → q.since = none
def preClimb (P : Program) (w : World) (K : PySem.W.Frag) (mg : Str → Option Value) (base : Heap) (T : List NTab) (xs : List Vl) (y : Vl) : Prop := ∃ (a b : Mi.Rl) (G : List (Mi.Nd × List Mi.Stp)), xs = [dkV P w K (eD eSs G), eNd (Mi.fstNd a b), fnV P w K mg base T 1 preGain] ∧ Mi.okRl a ∧
  ((∃ N, ClA G a b N ∧ y = .tup [dkV P w K (eD .int (clG a b N).best), eI (clG a b N).top.walk, .tup []]) ∨ ∃ N j r bf, ClB G a b N j r bf ∧ y = .tup [.non, eI bf.walk, eI (r.walk.drop bf.walk.length)])
theorem ok_climb {C : Addr} (F : Fun K "climbed" "climbed" sClimb f fd) (Gm : Gf mg) (RF : RecF P w K mg base T C)
    (FI : ∀ (a b : Mi.Rl) (best : List (Mi.Nd × Int)), ∃ f fd, FnOk P w K mg base CX0 4 f fd ["graph", "layer", "best", "worth"] (spB K T 2 (owK P w K (eD .int best)) (preImp P w K mg base T C a b best)) ∧ mg "improved" = some (.ref f) ∧ PySem.W.keepIn K (.ref f) = true ∧ Binds K fd ["graph", "layer", "best", "worth"] []) :
    FnOk P w K mg base CX0 5 f fd ["graph", "first", "worth"] (spV K T (preClimb P w K mg base T)) := by
  refine okV F scClimb (fun xs y ⟨_, _, _, e, _⟩ => by rw [e]; rfl) fun cdv A outer s H E B xs y hT hr ⟨a, b, G, e1, ha, hy⟩ => ?_
  subst e1 hT
  obtain ⟨g, gd, hmk, hF, hbi⟩ := RF.mak
  obtain ⟨sg, sgd, hms, hFs, hbs⟩ := RF.si
  have h9 := hu9 hr
  let nd0 := Mi.fstNd a b
  let gv0 : Vl := dkV P w K (eD eSs G)
  let fv : Vl := fnV P w K mg base B.T 1 preGain
  let Γf : Nat → List Sl := fun i => [.va gv0, .va (eNd nd0), .va fv, .va (.lst ((clG a b i).layer.map (rcV K C))), .ow none (owK P w K (eD .int (clG a b i).best)), .va (rcV K C (clG a b i).top), .no, .no]
  -- the turn's inner loop
  let Γg : Nat → Nat → List Sl := fun i j => [.va gv0, .va (eNd nd0), .va fv, .va (.lst ((clG a b (i + 1)).layer.map (rcV K C))), .ow none (owK P w K (eD .int (Mi.setB (clG a b i).best ((clG a b (i + 1)).layer.take j)))), .va (rcV K C (Mi.setT (clG a b i).top ((clG a b (i + 1)).layer.take j))), .no, .no]
  have step : ∀ (S1 : Hp) (i j : Nat) (r : Mi.Rc), ClOk G a b i → ClOk G a b (i + 1) → (clG a b (i + 1)).layer[j]? = some r → r.since = none → GSs (bX P w K mg base nClimb "climbed" sClimb f cdv A outer s H E) (B.up S1) ((Γg i j).set 6 (.va (rcV K C r))) cBody (Γg i (j + 1)) := by
    intro S1 i j r hc hc1 hj hs
    have etk : (clG a b (i + 1)).layer.take (j + 1) = (clG a b (i + 1)).layer.take j ++ [r] := by rw [List.take_add_one, hj]; rfl
    have hjl : j < (clG a b (i + 1)).layer.length := (List.getElem?_eq_some_iff.mp hj).1
    have hB := setB_len (clG a b i).best ((clG a b (i + 1)).layer.take j)
    have hB2 : ((clG a b (i + 1)).layer.take j).length ≤ j := by rw [List.length_take]; omega
    have h1 := hc.blen
    have h2 := hc1.len
    have eB : Mi.setB (clG a b i).best ((clG a b (i + 1)).layer.take (j + 1)) = Mi.put (Mi.setB (clG a b i).best ((clG a b (i + 1)).layer.take j)) r.node r.value := by
      rw [etk]; unfold Mi.setB; rw [List.foldl_append]; rfl
    have eT : Mi.setT (clG a b i).top ((clG a b (i + 1)).layer.take (j + 1)) = if r.value > (Mi.setT (clG a b i).top ((clG a b (i + 1)).layer.take j)).value then r else Mi.setT (clG a b i).top ((clG a b (i + 1)).layer.take j) := by
      rw [etk]; unfold Mi.setT; rw [List.foldl_append]; rfl
    have e1 : Γg i (j + 1) = [.va gv0, .va (eNd nd0), .va fv, .va (.lst ((clG a b (i + 1)).layer.map (rcV K C))), .ow none (owK P w K (eD .int (Mi.put (Mi.setB (clG a b i).best ((clG a b (i + 1)).layer.take j)) r.node r.value))), .va (rcV K C (if r.value > (Mi.setT (clG a b i).top ((clG a b (i + 1)).layer.take j)).value then r else Mi.setT (clG a b i).top ((clG a b (i + 1)).layer.take j))), .no, .no] := by
      show [_, _, _, _, Sl.ow none (owK P w K (eD .int (Mi.setB (clG a b i).best ((clG a b (i + 1)).layer.take (j + 1))))), Sl.va (rcV K C (Mi.setT (clG a b i).top ((clG a b (i + 1)).layer.take (j + 1)))), _, _] = _
      rw [eB, eT]
    rw [e1]
    generalize hbb : Mi.setB (clG a b i).best ((clG a b (i + 1)).layer.take j) = bb at hB
    generalize htt : Mi.setT (clG a b i).top ((clG a b (i + 1)).layer.take j) = tt
    have e0 : Γg i j = [.va gv0, .va (eNd nd0), .va fv, .va (.lst ((clG a b (i + 1)).layer.map (rcV K C))), .ow none (owK P w K (eD .int bb)), .va (rcV K C tt), .no, .no] := by
      show [_, _, _, _, Sl.ow none (owK P w K (eD .int (Mi.setB (clG a b i).best ((clG a b (i + 1)).layer.take j)))), Sl.va (rcV K C (Mi.setT (clG a b i).top ((clG a b (i + 1)).layer.take j))), _, _] = _
      rw [hbb, htt]
    rw [e0]
    refine gss_weak (Γ1 := [.va gv0, .va (eNd nd0), .va fv, .va (.lst ((clG a b (i + 1)).layer.map (rcV K C))), .ow none (owK P w K (eD .int (Mi.put bb r.node r.value))), .va (rcV K C (if r.value > tt.value then r else tt)), .va (rcV K C r), .va .non]) ?_ ⟨.inr rfl, .inr rfl, .inr rfl, .inr rfl, .inr rfl, .inr rfl, .inl rfl, .inl rfl, trivial⟩
    refine gss_cons (gs_asg (i := 7) (y := .non) (ge_meth0 (gv 6) RF.rc.cls hms (rc_since r) hFs hr (by omega) hbs ⟨r, rfl, by rw [hs]; rfl⟩) (Nat.le_of_ble_eq_true rfl) scClimb.nd rfl (Or.inl rfl))
      (gss_cons (gs_skip (gt_is (gt_notN (gv 7) fun v S q => congrArg not (non_is (K := K) q)) rfl))
      (gss_cons (gs_to (Γ2 := [.va gv0, .va (eNd nd0), .va fv, .va (.lst ((clG a b (i + 1)).layer.map (rcV K C))), .ow none (owK P w K (eD .int (Mi.put bb r.node r.value))), .va (rcV K C tt), .va (rcV K C r), .va .non]) (gs_putD (i := 4) (x := eNd r.node) (y := .int r.value) rfl rfl (Or.inl rfl) (ge_fld (gv 6) RF.rc.cls RF.rc.n2 (rc_value r)) (ge_fld (gv 6) RF.rc.cls RF.rc.n1 (rc_node r)) (keyOk_nd _) (isTu_nd _) h9 (by unfold eD; rw [List.length_map, sizeLine_eq]; omega) (fun l z => by cases z)) ?ep)
      (gss_cons (gs_if (b := decide (tt.value < r.value)) (gt_gt (ge_fld (gv 6) RF.rc.cls RF.rc.n2 (rc_value r)) (ge_fld (gv 5) RF.rc.cls RF.rc.n2 (rc_value tt))) (fun hq => gss_cons (gs_to (gs_asg (i := 5) (gv 6) (Nat.le_of_ble_eq_true rfl) scClimb.nd rfl (Or.inl rfl)) ?et) gss_nil) (fun hq => gss_to gss_nil ?en)) gss_nil)))
    case ep =>
      rw [put_eD]; rfl
    case et =>
      rw [if_pos (of_decide_eq_true hq)]; rfl
    case en =>
      rw [if_neg (of_decide_eq_false hq)]
  have hcyc : ∀ (i : Nat), Γg i 0 = [.va gv0, .va (eNd nd0), .va fv, .va (.lst ((clG a b (i + 1)).layer.map (rcV K C))), .ow none (owK P w K (eD .int (clG a b i).best)), .va (rcV K C (clG a b i).top), .no, .no] := fun i => rfl
  have gend : ∀ i, Γg i ((clG a b (i + 1)).layer.map (rcV K C)).length = Γf (i + 1) := fun i => by
    show [_, _, _, _, Sl.ow none (owK P w K (eD .int (Mi.setB (clG a b i).best ((clG a b (i + 1)).layer.take ((clG a b (i + 1)).layer.map (rcV K C)).length)))), Sl.va (rcV K C (Mi.setT (clG a b i).top ((clG a b (i + 1)).layer.take ((clG a b (i + 1)).layer.map (rcV K C)).length))), _, _] = _
    rw [List.length_map, List.take_length]; rfl
  have turn : ∀ (i : Nat), ClOk G a b i → ClOk G a b (i + 1) → (∀ r ∈ (clG a b (i + 1)).layer, r.since = none) → GSs (bX P w K mg base nClimb "climbed" sClimb f cdv A outer s H E) B (Γf i) wBody (Γf (i + 1)) := by
    intro i hc hc1 hs
    refine gss_cons (gs_to (Γ2 := Γg i 0) (gs_asg (i := 3) (y := .lst ((clG a b (i + 1)).layer.map (rcV K C))) (ge_lend 4 (FI a b (clG a b i).best) hr (by omega) rfl (gv 0) (gv 3) (gv 2) ⟨G, (clG a b i).layer, anyV, rfl, ha, hc.lay, hc.len, rfl⟩) (Nat.le_of_ble_eq_true rfl) scClimb.nd rfl (Or.inl rfl)) rfl)
      (gss_cons (gs_to (gs_for (T := .nm 6) (xs := (clG a b (i + 1)).layer.map (rcV K C)) (Γg i) PassesOwn.never rfl (gi_lst (gv 3)) (pg_name scClimb.nd rfl (Or.inl rfl)) (fun _ _ => trivial) (fun j hj k hk => ?_) (fun S1 j x hx => ?_)) (gend i)) gss_nil)
    · have : k = 6 := by simpa [Tg.idx] using hk
      subst this
      exact Nat.le_of_ble_eq_true rfl
    · rw [List.getElem?_map] at hx
      cases hj : (clG a b (i + 1)).layer[j]? with
      | none => rw [hj] at hx; cases hx
      | some r =>
        rw [hj] at hx
        cases hx
        exact step S1 i j r hc hc1 hj (hs r (List.mem_of_getElem? hj))
  have hne : ∀ i, (clG a b i).layer ≠ [] → (!((clG a b i).layer.map (rcV K C)).isEmpty) = true := fun i h => by
    cases e : (clG a b i).layer with
    | nil => exact absurd e h
    | cons _ _ => rfl
  have start : ∀ {Γ' : List Sl} {y : Vl} {rest : List Stmt}, GRs (bX P w K mg base nClimb "climbed" sClimb f cdv A outer s H E) B (Γf 0) ((defBody sClimb).drop 2) Γ' y → GRs (bX P w K mg base nClimb "climbed" sClimb f cdv A outer s H E) B (Gam0 nClimb [gv0, eNd nd0, fv]) (defBody sClimb) Γ' y := by
    intro Γ' y rest h
    exact grs_cons (gs_asg (i := 3) (y := .lst [rcV K C (.root nd0)]) (go_v (go_lst (ga_cons (go_as (go_make hmk hF hr (by omega) RF.mgR hbi (ga_cons (gv 1) (ga_cons ge_int (ga_cons ge_non (ga_cons ge_non ga_nil)))) (.inl ⟨nd0, rfl, rfl⟩)) owF_val) ga_nil) (Nat.le_of_ble_eq_true rfl))) (Nat.le_of_ble_eq_true rfl) scClimb.nd rfl (Or.inl rfl))
      (grs_cons (gs_par (i := 4) (j := 5) (gm_o (go_dict1 (gv 1) ge_int (keyOk_nd _) (isTu_nd _) h9) (gm_v (ge_ixL (gv 3) ge_int rfl) gm_nil)) rfl scClimb.nd rfl rfl (by decide) (Nat.le_of_ble_eq_true rfl) (Nat.le_of_ble_eq_true rfl) rfl rfl rfl) h)
  rcases hy with ⟨N, ⟨hA1, hA2, hA3, hA4⟩, hy⟩ | ⟨N, j, r, bf, ⟨hB1, hB2, hB3, hB4, hB5, hB6⟩, hy⟩
  · subst hy
    refine ⟨[.va gv0, .va (eNd nd0), .va fv, .va (.lst ((clG a b N).layer.map (rcV K C))), .va (dkV P w K (eD .int (clG a b N).best)), .va (rcV K C (clG a b N).top), .no, .no], start (rest := []) (grs_cons (gs_while Γf N PassesOwn.never (fun i hi => gt_is (gt_truL (gv 3)) (hne i (hA1 i hi))) (gt_is (gt_truL (gv 3)) (by rw [hA2]; rfl)) (fun i hi => turn i (hA4 i (Nat.le_of_lt hi)) (hA4 (i + 1) hi) (hA3 i hi))) (grs_freeze (i := 4) rfl owK_dkV (grs_one (gr_ret (ge_tup (ga_cons (gv 4) (ga_cons (ge_fld (gv 5) RF.rc.cls RF.rc.n4 (rc_walk _)) (ga_cons (ge_tup ga_nil (Nat.zero_le _)) ga_nil))) (Nat.le_of_ble_eq_true rfl))))))⟩
  · subst hy
    have hjl : j < (clG a b (N + 1)).layer.length := (List.getElem?_eq_some_iff.mp hB4).1
    refine ⟨((Γg N j).set 6 (.va (rcV K C r))).set 7 (.va (rcV K C bf)), start (rest := []) (grs_one (gr_while Γf N PassesOwn.never (fun i hi => gt_is (gt_truL (gv 3)) (hne i (hB1 i hi))) (fun i hi => turn i (hB3 i (by omega)) (hB3 (i + 1) (by omega)) (hB2 i hi))
      (grs_cons (gs_to (Γ2 := Γg N 0) (gs_asg (i := 3) (y := .lst ((clG a b (N + 1)).layer.map (rcV K C))) (ge_lend 4 (FI a b (clG a b N).best) hr (by omega) rfl (gv 0) (gv 3) (gv 2) ⟨G, (clG a b N).layer, anyV, rfl, ha, (hB3 N (by omega)).lay, (hB3 N (by omega)).len, rfl⟩) (Nat.le_of_ble_eq_true rfl) scClimb.nd rfl (Or.inl rfl)) rfl)
        (grs_one (gr_for (T := .nm 6) (xs := (clG a b (N + 1)).layer.map (rcV K C)) (Γg N) j PassesOwn.never rfl (gi_lst (gv 3)) (pg_name scClimb.nd rfl (Or.inl rfl)) (fun _ _ => trivial) (by rw [List.length_map]; exact hjl) (fun i hi k hk => ?_) (fun S1 i x hi hx => ?_) (fun S1 x hx => ?_))))))⟩
    · have : k = 6 := by simpa [Tg.idx] using hk
      subst this
      exact Nat.le_of_ble_eq_true rfl
    · rw [List.getElem?_map] at hx
      cases hj : (clG a b (N + 1)).layer[i]? with
      | none => rw [hj] at hx; cases hx
      | some q =>
        rw [hj] at hx
        cases hx
        exact step S1 N i q (hB3 N (by omega)) (hB3 (N + 1) (by omega)) hj (hB6 i hi q hj)
    · rw [List.getElem?_map, hB4] at hx
      cases hx
      refine grs_cons (gs_asg (i := 7) (y := rcV K C bf) (ge_meth0 (gv 6) RF.rc.cls hms (rc_since r) hFs hr (by omega) hbs ⟨r, rfl, by rw [hB5]; rfl⟩) (Nat.le_of_ble_eq_true rfl) scClimb.nd rfl (Or.inl rfl))
        (grs_one (gr_ifT (gt_is (gt_notN (gv 7) fun v S q => congrArg not (ob_not (C := C) (fs := rcF K C bf) v S q)) rfl) (grs_one (gr_ret (ge_is (ge_tup (ga_cons ge_non (ga_cons (ge_fld (gv 7) RF.rc.cls RF.rc.n4 (rc_walk bf)) (ga_cons (ge_slT (xs := r.walk.map .int) (ge_fld (gv 6) RF.rc.cls RF.rc.n4 (rc_walk r)) (gp_some (g_len (xs := bf.walk.map .int) Gm (ge_fld (gv 7) RF.rc.cls RF.rc.n4 (rc_walk bf)))) gp_none) ga_nil))) (Nat.le_of_ble_eq_true rfl)) ?_)))))
      rw [List.length_map, cutX_drop]
      unfold eI
      rw [List.map_drop]
end
end G
set_option maxHeartbeats 4000000
/-! F12: are_prices. -/
namespace G
open PySem PySem.Spec PyProof.Rows L2 LamX NdefX
abbrev sPrices : Stmt := topS 18
abbrev nPrices : List Str := ["first", "steps_of", "is_node", "thing", "worth", "row", "prices", "node", "price", "name", "mine", "its", "later"]
theorem scPrices : FnScope nPrices ["first", "steps_of", "is_node", "thing", "worth"] (defScope sPrices) := ⟨rfl, rfl, rfl, by decide +kernel, rfl, by decide +kernel, by decide +kernel⟩
def preIsN (a b : Mi.Rl) (xs : List Vl) (y : Vl) : Prop := ∃ n : Mi.Nd, xs = [eNd n] ∧ Mi.okNd a b n ∧ y = .bl true
def ePr (p : Mi.Nd × Int) : Vl := .tup [eNd p.1, .int p.2]
structure PrOk (a b : Mi.Rl) (ps : List (Mi.Nd × Int)) : Prop where
  ok : ∀ p ∈ ps, Mi.okNd a b p.1
  nd : (ps.map (·.1)).Nodup
  first : Mi.look ps (Mi.fstNd a b) = some 0
  clo : ∀ p ∈ ps, ∀ s ∈ Mi.steps a b p.1, ∃ u, Mi.look ps s.later = some u ∧ p.2 + (s.its - s.mine) ≤ u
  len : ps.length ≤ 100000
section
variable {P : Program} {w : World} {K : PySem.W.Frag} {mg : Str → Option Value} {base : Heap} {T : List NTab} {f : Addr} {fd : FuncData}
def prePrices (P : Program) (w : World) (K : PySem.W.Frag) (mg : Str → Option Value) (base : Heap) (T : List NTab) (xs : List Vl) (y : Vl) : Prop := ∃ (a b : Mi.Rl) (ps : List (Mi.Nd × Int)), xs = [eNd (Mi.fstNd a b), fnV P w K mg base T 4 (preSteps a b), fnV P w K mg base T 5 (preIsN a b), .tud (ps.map ePr), fnV P w K mg base T 1 preGain] ∧ Mi.okRl a ∧ Mi.okRl b ∧ PrOk a b ps ∧ y = .bl true
theorem ok_prices (F : Fun K "are_prices" "are_prices" sPrices f fd) (Gm : Gf mg) : FnOk P w K mg base CX0 6 f fd ["first", "steps_of", "is_node", "thing", "worth"] (spV K T (prePrices P w K mg base T)) := by
  refine okV F scPrices (fun xs y ⟨_, _, _, e, _⟩ => by rw [e]; rfl) fun cdv A outer s H E B xs y hT hr ⟨a, b, ps, e1, ha, hb, hp, e2⟩ => ?_
  subst e1 e2 hT
  have h9 := hu9 hr
  have h12 := hu12 hr
  let nd0 := Mi.fstNd a b
  let f1 : Vl := fnV P w K mg base B.T 4 (preSteps a b)
  let f2 : Vl := fnV P w K mg base B.T 5 (preIsN a b)
  let f3 : Vl := fnV P w K mg base B.T 1 preGain
  let th : Vl := .tud (ps.map ePr)
  let kvs := eD Vl.int ps
  have ekv : (kvs.map fun p => Vl.tup [p.1, p.2]) = ps.map ePr := by
    show ((ps.map fun p => (eNd p.1, Vl.int p.2)).map fun p => Vl.tup [p.1, p.2]) = _
    rw [List.map_map]; rfl
  let Γa : List Sl := [.va (eNd nd0), .va f1, .va f2, .va th, .va f3, .no, .no, .no, .no, .no, .no, .no, .no]
  let Γb : List Sl := [.va (eNd nd0), .va f1, .va f2, .va th, .va f3, .no, .ow none (owK P w K kvs), .no, .no, .no, .no, .no, .no]
  have hnd : (kvs.map fun p => toK p.1).Nodup := by
    show ((ps.map fun p => (eNd p.1, Vl.int p.2)).map fun p => toK p.1).Nodup
    rw [List.map_map]
    have e : (ps.map ((fun p : Vl × Vl => toK p.1) ∘ fun p : Mi.Nd × Int => (eNd p.1, Vl.int p.2))) = (ps.map (·.1)).map (fun n => toK (eNd n)) := by rw [List.map_map]; rfl
    rw [e]
    exact (List.Pairwise.map _ (fun x y h z => h (toK_nd z)) hp.nd)
  refine ⟨Γb, grs_cons (gs_skip (gt_is (gt_not (gt_val (g_isiT Gm (ge_tud (gv 3))))) rfl))
    (grs_cons (gs_for (T := .nm 5) (xs := ps.map ePr) (fun _ => Γa) PassesOwn.never rfl (gi_tup (ge_tud (gv 3))) (pg_name scPrices.nd rfl (Or.inl rfl)) (fun _ _ => trivial) (fun i hi j hj => ?i1) (fun S1 i x hx => ?b1))
    (grs_cons (gs_asgO (i := 6) (o := owK P w K kvs) (go_dictP (kvs := kvs) Gm rfl h12 (ge_is (gv 3) (by rw [ekv])) ?kk hnd) (Nat.le_of_ble_eq_true rfl) scPrices.nd rfl (Or.inl rfl))
    (grs_cons (gs_skip (gw_t (gw_orF (gt_is (gt_neI (ge_lenD Gm (gd_own 6)) (g_len Gm (ge_tud (gv 3)))) ?ln) (gw_or1 (gt_is (gt_neI (ge_getD (y := .int 0) (gd_own 6) (gv 0) (keyOk_nd _) (isTu_nd _) h9 ?gt ⟨rfl, rfl, rfl, rfl⟩) ge_int) rfl)))))
    (grs_cons (gs_for (T := .tp [7, 8]) (xs := ps.map ePr) (fun _ => Γb) PassesOwn.never rfl (gi_tup (ge_tud (gv 3))) (pg_tup rfl (pgNc scPrices.nd rfl (pgNc scPrices.nd rfl pgN0))) (fun x hx => ?o2) (fun i hi j hj => ?i2) (fun S1 i x hx => ?b2))
    (grs_one (gr_ret ge_bl))))))⟩
  case i1 =>
    have : j = 5 := by simpa [Tg.idx] using hj
    subst this
    exact Nat.le_of_ble_eq_true rfl
  case b1 =>
    rw [List.getElem?_map] at hx
    cases hj : ps[i]? with
    | none => rw [hj] at hx; cases hx
    | some p =>
      rw [hj] at hx
      cases hx
      have hok := hp.ok p (List.mem_of_getElem? hj)
      refine gss_weak (gss_cons (gs_skip (gw_t (gw_orF (gt_is (gt_not (gt_val (g_isiT (xs := [eNd p.1, .int p.2]) Gm (gv 5)))) rfl) (gw_orF (gt_lenNe (xs := [eNd p.1, .int p.2]) Gm (gv 5) ge_int rfl) (gw_or1 (gt_is (gt_not (gt_val (ge_callF (k := 5) (pre := preIsN a b) 2 (ga_cons (ge_ixT (xs := [eNd p.1, .int p.2]) (gv 5) ge_int rfl) ga_nil) hr (by omega) ⟨p.1, rfl, hok, rfl⟩))) rfl))))))
        (gss_cons (gs_skip (gw_t (gw_orF (gt_is (gt_not (gt_val (g_isiI (i := p.2) Gm (ge_ixT (xs := [eNd p.1, .int p.2]) (gv 5) ge_int rfl)))) rfl) (gw_or1 (gt_val (g_isiB (i := p.2) Gm (ge_ixT (xs := [eNd p.1, .int p.2]) (gv 5) ge_int rfl))))))) gss_nil)) ⟨.inr rfl, .inr rfl, .inr rfl, .inr rfl, .inr rfl, .inl rfl, .inr rfl, .inr rfl, .inr rfl, .inr rfl, .inr rfl, .inr rfl, .inr rfl, trivial⟩
  case kk =>
    intro q hq
    obtain ⟨p, _, rfl⟩ := List.mem_map.mp hq
    exact ⟨keyOk_nd _, isTu_nd _⟩
  case ln =>
    show (!decide ((kvs.length : Int) = ((ps.map ePr).length : Int))) = false
    rw [List.length_map, show kvs.length = ps.length from List.length_map ..]
    rw [decide_eq_true rfl]; rfl
  case gt =>
    rw [lk_eD, hp.first]; rfl
  case o2 =>
    obtain ⟨p, _, rfl⟩ := List.mem_map.mp hx
    exact ⟨_, rfl, rfl⟩
  case i2 =>
    simp [Tg.idx] at hj
    rcases hj with rfl | rfl <;> exact Nat.le_of_ble_eq_true rfl
  case b2 =>
    rw [List.getElem?_map] at hx
    cases hj : ps[i]? with
    | none => rw [hj] at hx; cases hx
    | some p =>
      rw [hj] at hx
      cases hx
      have hpm := List.mem_of_getElem? hj
      have hok := hp.ok p hpm
      let ss := Mi.steps a b p.1
      let Γc : List Sl := [.va (eNd nd0), .va f1, .va f2, .va th, .va f3, .no, .ow none (owK P w K kvs), .va (eNd p.1), .va (.int p.2), .no, .no, .no, .no]
      refine gss_weak (gss_cons (gs_for (T := .tp [9, 10, 11, 12]) (xs := ss.map eStp) (fun _ => Γc) PassesOwn.never rfl (gi_lst (ge_callF (k := 4) (pre := preSteps a b) 1 (ga_cons (gv 7) ga_nil) hr (by omega) ⟨p.1, rfl, hok, rfl⟩)) (pg_tup rfl (pgNc scPrices.nd rfl (pgNc scPrices.nd rfl (pgNc scPrices.nd rfl (pgNc scPrices.nd rfl pgN0))))) (fun x hx => ?o3) (fun i hi j hj => ?i3) (fun S2 i x hx => ?b3)) gss_nil) ⟨.inr rfl, .inr rfl, .inr rfl, .inr rfl, .inr rfl, .inr rfl, .inr rfl, .inl rfl, .inl rfl, .inr rfl, .inr rfl, .inr rfl, .inr rfl, trivial⟩
      case o3 =>
        obtain ⟨st, _, rfl⟩ := List.mem_map.mp hx
        exact ⟨_, rfl, rfl⟩
      case i3 =>
        simp [Tg.idx] at hj
        rcases hj with rfl | rfl | rfl | rfl <;> exact Nat.le_of_ble_eq_true rfl
      case b3 =>
        rw [List.getElem?_map] at hx
        cases hs : ss[i]? with
        | none => rw [hs] at hx; cases hx
        | some st =>
          rw [hs] at hx
          cases hx
          obtain ⟨u, hu1, hu2⟩ := hp.clo p hpm st (List.mem_of_getElem? hs)
          refine gss_weak (gss_cons (gs_skip (gw_t (gw_orF (gt_is (gt_niD (x := eNd st.later) (gv 12) (gd_own 6) (keyOk_nd _) (isTu_nd _) h9) (by rw [lk_eD, hu1]; rfl)) (gw_or1 (gt_is (gt_lt (ge_ixD (y := .int u) (gd_own 6) (gv 12) (keyOk_nd _) (isTu_nd _) h9 (by rw [lk_eD, hu1]; rfl)) (ge_add (gv 8) (ge_callF (k := 1) (pre := preGain) 4 (ga_cons (gv 10) (ga_cons (gv 11) ga_nil)) hr (by omega) ⟨_, _, rfl, rfl⟩))) (decide_eq_false (by omega))))))) gss_nil) ⟨.inr rfl, .inr rfl, .inr rfl, .inr rfl, .inr rfl, .inr rfl, .inr rfl, .inr rfl, .inr rfl, .inl rfl, .inl rfl, .inl rfl, .inl rfl, trivial⟩
end
end G
set_option maxHeartbeats 4000000
/-! F13: excess. -/
namespace G
open PySem PySem.Spec PyProof.Rows L2 LamX NdefX
/-! ### pairs in order -/
def sortP (ps : List (Mi.Nd × Int)) : List (Mi.Nd × Int) := ps.mergeSort (PySem.W.dataLe false fun p => toD (ePr p))
theorem sortP_perm (ps : List (Mi.Nd × Int)) : (sortP ps).Perm ps := List.mergeSort_perm ..
theorem sortX_pr (ps : List (Mi.Nd × Int)) : sortX (ps.map ePr) = (sortP ps).map ePr := by
  unfold sortX sortP
  exact (List.map_mergeSort (r := PySem.W.dataLe false fun p => toD (ePr p)) (s := PySem.W.dataLe false toD) (f := ePr) (l := ps) (fun a _ b _ => rfl)).symm
theorem Dat.pr (p : Mi.Nd × Int) : Dat 4 (ePr p) := Dat.tup fun x hx => by
  simp only [List.mem_cons, List.not_mem_nil, or_false] at hx
  rcases hx with rfl | rfl
  · exact Dat.nd _
  · exact .int _
theorem alikeAll_cons {x y : PyData} {xs ys : List PyData} (h : PySem.W.alike x y = true) (h2 : PySem.W.alikeAll xs ys = true) : PySem.W.alikeAll (x :: xs) (y :: ys) = true := by
  rw [PySem.W.alikeAll, h, h2]; rfl
theorem alike_st (s t : Mi.Sta) : PySem.W.alike (toD (eSt s)) (toD (eSt t)) = true := by
  show PySem.W.alikeAll [PyData.tuple (toDs (s.1.map .int)), .int s.2] [PyData.tuple (toDs (t.1.map .int)), .int t.2] = true
  refine alikeAll_cons ?_ (alikeAll_cons rfl rfl)
  show PySem.W.alikeAll (toDs (s.1.map .int)) (toDs (t.1.map .int)) = true
  rw [toDs_map, toDs_map, List.map_map, List.map_map]
  exact PySem.W.alike_ints _ _
theorem alike_nd (s t : Mi.Nd) : PySem.W.alike (toD (eNd s)) (toD (eNd t)) = true :=
  alikeAll_cons (alike_st s.1 t.1) (alikeAll_cons (alike_st s.2 t.2) rfl)
theorem sortOk_pr {A : Around} (ps : List (Mi.Nd × Int)) (hu : A.units + 12 < cLine) : SortOk A (ps.map ePr) where
  key := fun x hx => by obtain ⟨i, _, rfl⟩ := List.mem_map.mp hx; exact (Dat.pr i).ky
  alike := fun d hd d' hd' => by
    obtain ⟨x, h1, rfl⟩ := List.mem_map.mp hd
    obtain ⟨i, _, rfl⟩ := List.mem_map.mp h1
    obtain ⟨y, h2, rfl⟩ := List.mem_map.mp hd'
    obtain ⟨j, _, rfl⟩ := List.mem_map.mp h2
    exact alikeAll_cons (alike_nd i.1 j.1) (alikeAll_cons rfl rfl)
  sortable := .inl fun d hd => by
    obtain ⟨x, h1, rfl⟩ := List.mem_map.mp hd
    obtain ⟨i, _, rfl⟩ := List.mem_map.mp h1
    exact ⟨_, _, rfl⟩
  room := fun x hx => by
    obtain ⟨i, _, rfl⟩ := List.mem_map.mp hx
    have := (Dat.pr i).dep
    omega
theorem sortOk_nd {A : Around} (ps : List Mi.Nd) (hu : A.units + 12 < cLine) : SortOk A (ps.map eNd) where
  key := fun x hx => by obtain ⟨i, _, rfl⟩ := List.mem_map.mp hx; exact (Dat.nd i).ky
  alike := fun d hd d' hd' => by
    obtain ⟨x, h1, rfl⟩ := List.mem_map.mp hd
    obtain ⟨i, _, rfl⟩ := List.mem_map.mp h1
    obtain ⟨y, h2, rfl⟩ := List.mem_map.mp hd'
    obtain ⟨j, _, rfl⟩ := List.mem_map.mp h2
    exact alike_nd i j
  sortable := .inl fun d hd => by
    obtain ⟨x, h1, rfl⟩ := List.mem_map.mp hd
    obtain ⟨i, _, rfl⟩ := List.mem_map.mp h1
    exact ⟨_, _, rfl⟩
  room := fun x hx => by
    obtain ⟨i, _, rfl⟩ := List.mem_map.mp hx
    have := (Dat.nd i).dep
    omega
/-! ### defs as values -/
def DL (P : Program) (w : World) (K : PySem.W.Frag) (mg : Str → Option Value) (base : Heap) (T : List NTab) (k : Nat) (name : Str) (ps : List Str) (pre : List Vl → Vl → Prop) : Prop :=
  ∃ f fd, FnOk P w K mg base CX0 k f fd ps (spV K T pre) ∧ mg name = some (.ref f) ∧ PySem.W.keepIn K (.ref f) = true ∧ Binds K fd ps [] ∧ ∃ oc od sl, K.lookup f = some (⟨oc, od, .func fd, sl⟩ : Obj)
theorem DL.d {P : Program} {w : World} {K : PySem.W.Frag} {mg : Str → Option Value} {base : Heap} {T : List NTab} {k : Nat} {name : Str} {ps : List Str} {pre : List Vl → Vl → Prop} (h : DL P w K mg base T k name ps pre) : D P w K mg base T k name ps pre :=
  let ⟨f, fd, h1, h2, h3, h4, _⟩ := h; ⟨f, fd, h1, h2, h3, h4⟩
section
variable {X : Cx} {B : Bs} {Γ : List Sl} {p : Pos} {k : Nat} {pre : Pre}
theorem ge_fnL {n : Str} {ps : List Str} (Gf : DL X.prog X.w X.K X.mg X.base B.T k n ps pre) (hg : Gl X n := by rfl) (hd : (n == ("__debug__" : Str)) = false := by decide) :
    GE X B Γ (.Name n p) (fnV X.prog X.w X.K X.mg X.base B.T k pre) := by
  obtain ⟨f, fd, F, hm, hkp, hb, oc, od, sl, lk⟩ := Gf
  refine ge_c (v := V.ref f) (pe_glob hg hm rfl hd) fun S => ⟨f, rfl, .inl ⟨oc, od, fd, sl, lk⟩, fun S1 H1 _ st A outer s us vs xs y Q hr e0 r rv hp q => ?_⟩
  have hl : us.length = ps.length := by rw [← rv.length]; exact F.len vs H1 Q E0 ⟨S1, xs, y, st, r, hp, q⟩
  have KX : X.K.In s.heap := e0.mod.kin.keeps fun b o e => (e0.bs b o e).1
  have hb2 := hb s us KX (by rw [List.append_nil]; exact hl)
  rw [List.append_nil] at hb2
  exact F.run A outer s H1 ⟨us, []⟩ us vs Q E0 hr e0 hb2 rv ⟨S1, xs, y, st, r, hp, q⟩
end
theorem dk_not {P : Program} {w : World} {K : PySem.W.Frag} {kvs : List (Vl × Vl)} (v : V) (S : Hp) (r : rep K S (dkV P w K kvs) v) : decide (v = .non) = false := by
  obtain ⟨l, es, e, _⟩ := r
  rw [e]
  exact decide_eq_false (fun z => by cases z)
theorem isNon {K : PySem.W.Frag} (v : V) (S : Hp) (r : rep K S .non v) : decide (v = .non) = true := by
  have r : v = .non := r
  rw [r]; rfl
abbrev sAllSteps : Stmt := topS 50
theorem scAllSteps : FnScope ["one", "other"] ["one", "other"] (defScope sAllSteps) := ⟨rfl, rfl, rfl, by decide +kernel, rfl, by decide +kernel, by decide +kernel⟩
abbrev sExcess : Stmt := topS 53
abbrev nExcess : List Str := ["one", "other", "graph", "prices", "way", "around"]
theorem scExcess : FnScope nExcess ["one", "other"] (defScope sExcess) := ⟨rfl, rfl, rfl, by decide +kernel, rfl, by decide +kernel, by decide +kernel⟩
section
variable {P : Program} {w : World} {K : PySem.W.Frag} {mg : Str → Option Value} {base : Heap} {T : List NTab} {f : Addr} {fd : FuncData}
def preAllS (P : Program) (w : World) (K : PySem.W.Frag) (mg : Str → Option Value) (base : Heap) (T : List NTab) (xs : List Vl) (y : Vl) : Prop := ∃ (a b : Mi.Rl) (N : Nat), xs = [eRl a, eRl b] ∧ Mi.okRl a ∧ Mi.okRl b ∧ Mi.GOk a b N ∧
  y = .tup [dkV P w K (eD eSs (Mi.gG a b N)), dlV P w K (eD eI (Mi.gW a b N))]
theorem ok_allSteps (F : Fun K "all_steps" "all_steps" sAllSteps f fd) (F1 : D P w K mg base T 5 "graph_of" ["first", "steps_of"] (preGraph P w K mg base T)) (F2 : D P w K mg base T 2 "first_pair" ["one", "other"] preFirstP) (F3 : D P w K mg base T 1 "steps_of" ["one", "other"] (preStepsOf P w K mg base T)) :
    FnOk P w K mg base CX0 6 f fd ["one", "other"] (spV K T (preAllS P w K mg base T)) := by
  refine okV F scAllSteps (fun xs y ⟨_, _, _, e, _⟩ => by rw [e]; rfl) fun cdv A outer s H E B xs y hT hr ⟨a, b, N, e1, ha, hb, g, e2⟩ => ?_
  subst e1 e2 hT
  exact ⟨_, grs_one (gr_ret (ge_call F1 hr (by omega) rfl (ga_cons (ge_call F2 hr (by omega) rfl (ga_cons (gv 0) (ga_cons (gv 1) ga_nil)) ⟨a, b, rfl, ha, hb, rfl⟩) (ga_cons (ge_call F3 hr (by omega) rfl (ga_cons (gv 0) (ga_cons (gv 1) ga_nil)) ⟨a, b, rfl, ha, hb, rfl⟩) ga_nil)) ⟨a, b, N, rfl, ha, hb, g, rfl⟩))⟩
def mostV (m : Int) (ns : List Int) (ps : List (Mi.Nd × Int)) : Vl := .tup [.str "most", .int m, eI ns, .tud (ps.map ePr)]
def everV (ns ls : List Int) : Vl := .tup [.str "ever", eI ns, eI ls]
def preExcess (xs : List Vl) (y : Vl) : Prop := ∃ (a b : Mi.Rl) (N : Nat), xs = [eRl a, eRl b] ∧ Mi.okRl a ∧ Mi.okRl b ∧ Mi.GOk a b N ∧
  ((∃ (M : Nat) (m : Int), ClA (Mi.gG a b N) a b M ∧ m ∈ (clG a b M).best.map (·.2) ∧ (∀ v ∈ (clG a b M).best.map (·.2), v ≤ m) ∧ y = mostV m (clG a b M).top.walk (sortP (clG a b M).best)) ∨
   ∃ (M j : Nat) (r bf : Mi.Rc), ClB (Mi.gG a b N) a b M j r bf ∧ y = everV bf.walk (r.walk.drop bf.walk.length))
theorem ok_excess (F : Fun K "excess" "excess" sExcess f fd) (Gm : Gf mg) (F0 : D P w K mg base T 8 "need_rules" ["one", "other"] preNeedRs) (F1 : D P w K mg base T 6 "all_steps" ["one", "other"] (preAllS P w K mg base T)) (F2 : D P w K mg base T 2 "first_pair" ["one", "other"] preFirstP)
    (F3 : D P w K mg base T 5 "climbed" ["graph", "first", "worth"] (preClimb P w K mg base T)) (F4 : DL P w K mg base T 1 "gain" ["mine", "its"] preGain) :
    FnOk P w K mg base CX0 9 f fd ["one", "other"] (spV K T preExcess) := by
  refine okV F scExcess (fun xs y ⟨_, _, _, e, _⟩ => by rw [e]; rfl) fun cdv A outer s H E B xs y hT hr ⟨a, b, N, e1, ha, hb, g, hy⟩ => ?_
  subst e1 hT
  let gr := Mi.gG a b N
  have start : ∀ {Γ' : List Sl} {y pv wy ar : Vl}, preClimb P w K mg base B.T [dkV P w K (eD eSs gr), eNd (Mi.fstNd a b), fnV P w K mg base B.T 1 preGain] (.tup [pv, wy, ar]) → GRs (bX P w K mg base nExcess "excess" sExcess f cdv A outer s H E) B [.va (eRl a), .va (eRl b), .va (dkV P w K (eD eSs gr)), .va pv, .va wy, .va ar] ((defBody sExcess).drop 3) Γ' y →
      GRs (bX P w K mg base nExcess "excess" sExcess f cdv A outer s H E) B (Gam0 nExcess [eRl a, eRl b]) (defBody sExcess) Γ' y := by
    intro Γ' y pv wy ar hc h
    exact grs_cons (gs_expr (ge_call F0 hr (by omega) rfl (ga_cons (gv 0) (ga_cons (gv 1) ga_nil)) ⟨a, b, rfl, ha, hb, rfl⟩))
      (grs_cons (gs_asg (i := 2) (ge_ixT (xs := [dkV P w K (eD eSs gr), dlV P w K (eD eI (Mi.gW a b N))]) (ge_call F1 hr (by omega) rfl (ga_cons (gv 0) (ga_cons (gv 1) ga_nil)) ⟨a, b, N, rfl, ha, hb, g, rfl⟩) ge_int rfl) (Nat.le_of_ble_eq_true rfl) scExcess.nd rfl (Or.inl rfl))
      (grs_cons (gs_unp (xs := [pv, wy, ar]) (ge_call F3 hr (by omega) rfl (ga_cons (gv 2) (ga_cons (ge_call F2 hr (by omega) rfl (ga_cons (gv 0) (ga_cons (gv 1) ga_nil)) ⟨a, b, rfl, ha, hb, rfl⟩) (ga_cons (ge_fnL F4) ga_nil))) hc) (pgNc (i := 3) scExcess.nd rfl (pgNc (i := 4) scExcess.nd rfl (pgNc (i := 5) scExcess.nd rfl pgN0)))) h))
  have hu := hr.units
  rcases hy with ⟨M, m, hA, hm, hx, e2⟩ | ⟨M, j, r, bf, hB, e2⟩
  · subst e2
    let best := (clG a b M).best
    have ekv : ((eD Vl.int best).map fun x => Vl.tup [x.1, x.2]) = best.map ePr := by
      show ((best.map fun p => (eNd p.1, Vl.int p.2)).map fun p => Vl.tup [p.1, p.2]) = _
      rw [List.map_map]; rfl
    have col := col_items (X := bX P w K mg base nExcess "excess" sExcess f cdv A outer s H E) (T := B.T) (A := (bX P w K mg base nExcess "excess" sExcess f cdv A outer s H E).A.in1) (kvs := eD Vl.int best) hr.hd
    rw [ekv] at col
    refine ⟨_, start (pv := dkV P w K (eD .int best)) (wy := eI (clG a b M).top.walk) (ar := .tup []) ⟨a, b, gr, rfl, ha, .inl ⟨M, hA, rfl⟩⟩ (grs_cons (gs_skip (gt_isN (gv 3) dk_not)) (grs_one (gr_ret (ge_is (ge_tup (ga_cons ge_str (ga_cons (g_maxV (ns := best.map (·.2)) Gm rfl (ge_values (gv 3)) ?mv hm hx) (ga_cons (gv 4) (ga_cons (g_tupL Gm (go_v (go_sorted (xs := best.map ePr) Gm (ge_items (gv 3)) col (sortOk_pr best ?un)))) ga_nil)))) (Nat.le_of_ble_eq_true rfl)) ?fin))))⟩
    case mv =>
      show ((best.map fun p => (eNd p.1, Vl.int p.2)).map (·.2)) = _
      rw [List.map_map, List.map_map]; rfl
    case un =>
      exact Nat.lt_of_le_of_lt (Nat.add_le_add_left (by decide) _) hu
    case fin => rw [sortX_pr]; rfl
  · subst e2
    exact ⟨_, start (pv := .non) (wy := eI bf.walk) (ar := eI (r.walk.drop bf.walk.length)) ⟨a, b, gr, rfl, ha, .inr ⟨M, j, r, bf, hB, rfl⟩⟩ (grs_one (gr_ifT (gt_isN (gv 3) isNon) (grs_one (gr_ret (ge_tup (ga_cons ge_str (ga_cons (gv 4) (ga_cons (gv 5) ga_nil))) (Nat.le_of_ble_eq_true rfl))))))⟩
end
end G
set_option maxHeartbeats 4000000
/-! F14: shows_most, shows_excess. -/
namespace G
open PySem PySem.Spec PyProof.Rows L2 LamX NdefX
abbrev sShowsM : Stmt := topS 55
abbrev nShowsM : List Str := ["one", "other", "k", "walk", "prices", "steps", "first", "is_node", "arrangement", "price"]
theorem scShowsM : FnScope nShowsM ["one", "other", "k", "walk", "prices"] (defScope sShowsM) := ⟨rfl, rfl, rfl, by decide +kernel, rfl, by decide +kernel, by decide +kernel⟩
abbrev scLam : Scope := match (defBody sShowsM).getD 3 (.Pass ⟨0, 0, 0, 0⟩) with
  | .Assign _ (.Tuple [_, .Lambda _ _ sc _] _ _) _ => sc
  | _ => defScope sShowsM
theorem nsLam : NScope ["thing", "one", "other"] ["thing"] ["one", "other"] scLam := nscope_by (by decide +kernel)
abbrev sShowsE : Stmt := topS 56
abbrev nShowsE : List Str := ["one", "other", "thing", "steps"]
theorem scShowsE : FnScope nShowsE ["one", "other", "thing"] (defScope sShowsE) := ⟨rfl, rfl, rfl, by decide +kernel, rfl, by decide +kernel, by decide +kernel⟩
abbrev nmShows : Nat → Nat → Str := fun _ _ => "shows_most.<locals>.<lambda>"
section
variable {P : Program} {w : World} {K : PySem.W.Frag} {mg : Str → Option Value} {base : Heap} {T : List NTab} {f c : Addr} {fd : FuncData}
theorem okVC {x qual : Str} {st : Stmt} {N ps : List Str} {k : Nat} {pre : Pre} (F : Fun K x qual st f fd) (hc : fd.code = .ref c) (Sc : FnScope N ps (defScope st)) (len : ∀ xs y, pre xs y → xs.length = ps.length)
    (body : ∀ (A : Around) (outer : List PySem.Env) (s : Shared) (H : Hp) (E : XK) (B : Bs) (xs : List Vl) (y : Vl), B.T = T → Room k (A.deeper (envOfC qual (defScope st) s.heap.objs.size f (.ref c))) → pre xs y →
      ∃ Γ', GRs (bX P w K mg base N qual st f (.ref c) A outer s H E) B (Gam0 N xs) (defBody st) Γ' y) :
    FnOk P w K mg base CX0 (k + 1) f fd ps (spV K T pre) := by
  refine okC F hc Sc (fun vs H Q E ⟨S, xs, y, st, r, hp, _⟩ => by rw [← reps_length r]; exact len xs y hp) fun A outer s H vs Q E hr h => ?_
  obtain ⟨S, xs, y, st0, r, hp, q⟩ := h
  obtain ⟨Γ', hb⟩ := body A outer s H E ⟨T, H, S, []⟩ xs y rfl hr hp
  exact ⟨_, hb, S, env0 st0 r, fun v σ' S' H' en rv => q v S' H' en.toStp rv⟩
def preShowsM (xs : List Vl) (y : Vl) : Prop := ∃ (a b : Mi.Rl) (m : Int) (ns : List Int) (ps : List (Mi.Nd × Int)), xs = [eRl a, eRl b, .int m, eI ns, .tud (ps.map ePr)] ∧ Mi.okRl a ∧ Mi.okRl b ∧ Mi.okPath a b (Mi.fstNd a b) ns ∧ ns.length ≤ 100000 ∧ gainsOf (Mi.pathS a b (Mi.fstNd a b) ns) = m ∧ PrOk a b ps ∧ (∀ p ∈ ps, p.2 ≤ m) ∧ y = .bl true
def preLam (a b : Mi.Rl) (ys xs : List Vl) (y : Vl) : Prop := ys = [eRl a, eRl b] ∧ preIsN a b xs y
theorem ok_showsM {P0 : Addr} (F : Fun K "shows_most" "shows_most" sShowsM f fd) (Gm : Gf mg) (hcd : fd.code = .ref c) (TB : TabB base mg c P0) (hm : (P0, nmShows) ∈ T) (hu : ∀ p ∈ T, p.1 = P0 → p.2 = nmShows)
    (F1 : D P w K mg base T 6 "walk_of" ["one", "other", "walk"] preWalkOf) (F2 : D P w K mg base T 2 "excess_of" ["steps"] preExcOf) (F3 : D P w K mg base T 2 "first_pair" ["one", "other"] preFirstP) (F4 : D P w K mg base T 1 "steps_of" ["one", "other"] (preStepsOf P w K mg base T))
    (F5 : D P w K mg base T 4 "is_pair" ["one", "other", "thing"] preIsPair) (F6 : D P w K mg base T 6 "are_prices" ["first", "steps_of", "is_node", "thing", "worth"] (prePrices P w K mg base T)) (F7 : DL P w K mg base T 1 "gain" ["mine", "its"] preGain) :
    FnOk P w K mg base CX0 7 f fd ["one", "other", "k", "walk", "prices"] (spV K T preShowsM) := by
  refine okVC F hcd scShowsM (fun xs y ⟨_, _, _, _, _, e, _⟩ => by rw [e]; rfl) fun A outer s H E B xs y hT hr ⟨a, b, m, ns, ps, e1, ha, hb, hp, hl, hg, hps, hle, e2⟩ => ?_
  subst e1 e2 hT
  let nd0 := Mi.fstNd a b
  have hpl : (Mi.pathS a b (Mi.fstNd a b) ns).length = ns.length := Mi.pathS_len a b _ ns
  refine ⟨_, grs_cons (gs_skip (gw_t (gw_orF (gt_is (gt_not (gt_val (g_isiI (i := m) Gm (gv 2)))) rfl) (gw_or1 (gt_val (g_isiB (i := m) Gm (gv 2)))))))
    (grs_cons (gs_asg (i := 5) (ge_call F1 hr (by omega) rfl (ga_cons (gv 0) (ga_cons (gv 1) (ga_cons (gv 3) ga_nil))) ⟨a, b, ns, rfl, ha, hb, hp, hl, rfl⟩) (Nat.le_of_ble_eq_true rfl) scShowsM.nd rfl (Or.inl rfl))
    (grs_cons (gs_skip (gw_t (gw_orF (gt_isN (gv 5) lst_not) (gw_or1 (gt_is (gt_neI (ge_call F2 hr (by omega) rfl (ga_cons (gv 5) ga_nil) ⟨_, rfl, by omega, rfl⟩) (gv 2)) (by rw [hg, decide_eq_true rfl]; rfl))))))
    (grs_cons (gs_par (i := 6) (j := 7) (gm_v (ge_call F3 hr (by omega) rfl (ga_cons (gv 0) (ga_cons (gv 1) ga_nil)) ⟨a, b, rfl, ha, hb, rfl⟩) (gm_v (ge_lam TB rfl hm rfl hu rfl (ndef_free (fr := ["one", "other"]) (sc := defScope sShowsM) (by decide +kernel))) gm_nil)) rfl scShowsM.nd rfl rfl (by decide) (Nat.le_of_ble_eq_true rfl) (Nat.le_of_ble_eq_true rfl) rfl rfl rfl)
    (grs_cons (gs_skip (gt_is (gt_not (gt_val (ge_callLam (i0 := 0) (i1 := 1) (ps := ["thing"]) (fr := ["one", "other"]) (k2 := 5) (lpre := preIsN a b) (npre := preLam a b) rfl F6 hr (by omega) rfl
        (ga_cons (gv 6) (ga_cons (ge_call F4 hr (by omega) rfl (ga_cons (gv 0) (ga_cons (gv 1) ga_nil)) ⟨a, b, rfl, ha, hb, rfl⟩) (ga_cons (gv 7) (ga_cons (gv 4) (ga_cons (ge_fnL F7) ga_nil))))) rfl rfl ?pl
        (ndef_free (fr := ["one", "other"]) (sc := defScope sShowsM) (by decide +kernel)) (by decide +kernel) (by decide +kernel) (by decide) rfl ?lam ?lp ⟨a, b, ps, rfl, ha, hb, hps, rfl⟩ rfl))) rfl))
    (grs_one (gr_ret (ge_is (g_all (bs := ps.map fun p => decide (p.2 ≤ m)) Gm rfl (go_v (xs := (ps.map fun p => decide (p.2 ≤ m)).map .bl) ?lc)) ?fin))))))) ⟩
  case pl =>
    show (plain (eRl a) && (plain (eRl b) && true)) = true
    rw [plain_rl, plain_rl]; rfl
  case lp =>
    rintro xs y ⟨n, e1, hn, e2⟩
    subst e1 e2
    refine ⟨rfl, ?_, rfl, n, rfl, hn, rfl⟩
    show (plain (eNd n) && true) = true
    rw [(Dat.nd n).pl]; rfl
  case lam =>
    intro f' c'
    refine lamok_of (N := ["thing", "one", "other"]) nsLam (fun pm ctv us h => match us, h with | [_], _ => rfl) fun A outer s H B' xs ys y hT hr hl ⟨e1, n, e2, hn, e3⟩ => ?_
    subst e1 e2 e3
    rw [← hT] at F5
    exact ge_call F5 hr (by omega) rfl (ga_cons (gv 1) (ga_cons (gv 2) (ga_cons (gv 0) ga_nil))) ⟨a, b, n, rfl, ha, hb, hn, rfl⟩
  case lc =>
    rw [List.map_map]
    exact go_lc (T := .tp [8, 9]) (own := [("arrangement", 8), ("price", 9)]) (as := ps) ePr (fun p => .bl (decide (p.2 ≤ m))) rfl scShowsM.nd (gi_tup (ge_tud (gv 4))) (blkOk_by (N := nShowsM) (sc := defScope sShowsM) (by decide +kernel)) (fun _ _ _ _ _ => pg_tup rfl (pgNc scShowsM.nd rfl (pgNc scShowsM.nd rfl pgN0))) (fun s H C cl fp p hp => ge_le (gv 9) (gv 2)) (by rw [sizeLine_eq]; have := hps.len; omega) (fun p hp => ⟨_, rfl, rfl⟩) (fun j hj => by
      simp [Tg.idx] at hj
      rcases hj with rfl | rfl
      · exact ⟨Nat.le_of_ble_eq_true rfl, by simp⟩
      · exact ⟨Nat.le_of_ble_eq_true rfl, by simp⟩)
  case fin =>
    rw [List.all_map]
    refine congrArg Vl.bl (List.all_eq_true.mpr fun p hp => ?_)
    exact decide_eq_true (hle p hp)
def preShowsE (xs : List Vl) (y : Vl) : Prop := ∃ (a b : Mi.Rl), Mi.okRl a ∧ Mi.okRl b ∧ y = .bl true ∧
  ((∃ (m : Int) (ns : List Int) (ps : List (Mi.Nd × Int)), xs = [eRl a, eRl b, mostV m ns ps] ∧ Mi.okPath a b (Mi.fstNd a b) ns ∧ ns.length ≤ 100000 ∧ gainsOf (Mi.pathS a b (Mi.fstNd a b) ns) = m ∧ PrOk a b ps ∧ ∀ p ∈ ps, p.2 ≤ m) ∨
   ∃ ns ls : List Int, xs = [eRl a, eRl b, everV ns ls] ∧ Mi.okPath a b (Mi.fstNd a b) ns ∧ Mi.okPath a b (Mi.pathE a b (Mi.fstNd a b) ns) ls ∧ ls ≠ [] ∧ Mi.pathE a b (Mi.pathE a b (Mi.fstNd a b) ns) ls = Mi.pathE a b (Mi.fstNd a b) ns ∧ ns.length ≤ 100000 ∧ ls.length ≤ 100000 ∧
     0 < gainsOf (Mi.pathS a b (Mi.pathE a b (Mi.fstNd a b) ns) ls))
theorem lst_notB {xs : List Vl} (v : V) (S : Hp) (r : rep K S (.lst xs) v) : (!decide (v = .non)) = true := by rw [lst_not v S r]; rfl
theorem ok_showsE (F : Fun K "shows_excess" "shows_excess" sShowsE f fd) (Gm : Gf mg) (F0 : D P w K mg base T 8 "need_rules" ["one", "other"] preNeedRs) (F1 : D P w K mg base T 7 "shows_most" ["one", "other", "k", "walk", "prices"] preShowsM)
    (F2 : D P w K mg base T 2 "excess_of" ["steps"] preExcOf) (F3 : D P w K mg base T 2 "first_pair" ["one", "other"] preFirstP) (F4 : D P w K mg base T 1 "steps_of" ["one", "other"] (preStepsOf P w K mg base T)) (F5 : D P w K mg base T 6 "around_of" ["first", "steps_of", "way", "around"] (preAround P w K mg base T)) :
    FnOk P w K mg base CX0 9 f fd ["one", "other", "thing"] (spV K T preShowsE) := by
  refine okV F scShowsE (fun xs y ⟨_, _, _, _, _, h⟩ => by rcases h with ⟨_, _, _, e, _⟩ | ⟨_, _, e, _⟩ <;> rw [e] <;> rfl) fun cdv A outer s H E B xs y hT hr ⟨a, b, ha, hb, e2, h⟩ => ?_
  subst e2 hT
  rcases h with ⟨m, ns, ps, e1, hp, hl, hg, hps, hle⟩ | ⟨ns, ls, e1, hp, hp2, hne, hc, hl, hl2, hg⟩
  · subst e1
    refine ⟨[.va (eRl a), .va (eRl b), .va (mostV m ns ps), .no], grs_cons (gs_expr (ge_call F0 hr (by omega) rfl (ga_cons (gv 0) (ga_cons (gv 1) ga_nil)) ⟨a, b, rfl, ha, hb, rfl⟩))
      (grs_cons (gs_skip (gw_t (gw_orF (gt_is (gt_not (gt_val (g_isiT (xs := [.str "most", .int m, eI ns, .tud (ps.map ePr)]) Gm (gv 2)))) rfl) (gw_or1 (gt_is (gt_niT (ns := [3, 4]) (g_len (xs := [.str "most", .int m, eI ns, .tud (ps.map ePr)]) Gm (gv 2)) (ge_tup (ga_cons ge_int (ga_cons ge_int ga_nil)) (Nat.le_of_ble_eq_true rfl))) rfl)))))
      (grs_one (gr_ifT (gt_lenEq (xs := [.str "most", .int m, eI ns, .tud (ps.map ePr)]) Gm (gv 2) ge_int rfl) (grs_one (gr_ret (ge_andT (ge_is (ge_eqS (ge_ixT (y := .str "most") (xs := [.str "most", .int m, eI ns, .tud (ps.map ePr)]) (gv 2) ge_int rfl) ge_str) (by rw [decide_eq_true rfl]))
        (ge_one (ge_call F1 hr (by omega) rfl (ga_cons (gv 0) (ga_cons (gv 1) (ga_cons (ge_ixT (xs := [.str "most", .int m, eI ns, .tud (ps.map ePr)]) (gv 2) ge_int rfl) (ga_cons (ge_ixT (xs := [.str "most", .int m, eI ns, .tud (ps.map ePr)]) (gv 2) ge_int rfl) (ga_cons (ge_ixT (xs := [.str "most", .int m, eI ns, .tud (ps.map ePr)]) (gv 2) ge_int rfl) ga_nil))))) ⟨a, b, m, ns, ps, rfl, ha, hb, hp, hl, hg, hps, hle, rfl⟩))))))))⟩
  · subst e1
    have hpl : (Mi.pathS a b (Mi.pathE a b (Mi.fstNd a b) ns) ls).length = ls.length := Mi.pathS_len a b _ ls
    refine ⟨[.va (eRl a), .va (eRl b), .va (everV ns ls), .va (.lst ((Mi.pathS a b (Mi.pathE a b (Mi.fstNd a b) ns) ls).map eStp))], grs_cons (gs_expr (ge_call F0 hr (by omega) rfl (ga_cons (gv 0) (ga_cons (gv 1) ga_nil)) ⟨a, b, rfl, ha, hb, rfl⟩))
      (grs_cons (gs_skip (gw_t (gw_orF (gt_is (gt_not (gt_val (g_isiT (xs := [.str "ever", eI ns, eI ls]) Gm (gv 2)))) rfl) (gw_or1 (gt_is (gt_niT (ns := [3, 4]) (g_len (xs := [.str "ever", eI ns, eI ls]) Gm (gv 2)) (ge_tup (ga_cons ge_int (ga_cons ge_int ga_nil)) (Nat.le_of_ble_eq_true rfl))) rfl)))))
      (grs_cons (gs_skip (gt_is (gt_eqI (g_len (xs := [.str "ever", eI ns, eI ls]) Gm (gv 2)) ge_int) rfl))
      (grs_cons (gs_skip (gt_is (gt_neS (ge_ixT (y := .str "ever") (xs := [.str "ever", eI ns, eI ls]) (gv 2) ge_int rfl) ge_str) (by rw [decide_eq_true rfl]; rfl)))
      (grs_cons (gs_asg (i := 3) (ge_call F5 hr (by omega) rfl (ga_cons (ge_call F3 hr (by omega) rfl (ga_cons (gv 0) (ga_cons (gv 1) ga_nil)) ⟨a, b, rfl, ha, hb, rfl⟩) (ga_cons (ge_call F4 hr (by omega) rfl (ga_cons (gv 0) (ga_cons (gv 1) ga_nil)) ⟨a, b, rfl, ha, hb, rfl⟩) (ga_cons (ge_ixT (xs := [.str "ever", eI ns, eI ls]) (gv 2) ge_int rfl) (ga_cons (ge_ixT (xs := [.str "ever", eI ns, eI ls]) (gv 2) ge_int rfl) ga_nil)))) ⟨a, b, _, ns, ls, rfl, ha, hb, hp, hp2, hne, hc, hl, hl2, rfl⟩) (Nat.le_of_ble_eq_true rfl) scShowsE.nd rfl (Or.inl rfl))
      (grs_one (gr_ret (ge_andT (ge_notN (gv 3) lst_notB) (ge_one (ge_is (ge_gt (ge_call F2 hr (by omega) rfl (ga_cons (gv 3) ga_nil) ⟨_, rfl, by omega, rfl⟩) ge_int) (by rw [decide_eq_true hg]))))))))))⟩
end
end G
set_option maxHeartbeats 4000000
/-! F15: runs; nested. -/
namespace G
open PySem PySem.Spec PyProof.Rows L2 LamX NdefX
abbrev sIsReq : Stmt := topS 59
theorem scIsReq : FnScope ["thing", "one"] ["thing"] (defScope sIsReq) := ⟨rfl, rfl, rfl, by decide +kernel, rfl, by decide +kernel, by decide +kernel⟩
abbrev sNeedReq : Stmt := topS 60
theorem scNeedReq : FnScope ["requests"] ["requests"] (defScope sNeedReq) := ⟨rfl, rfl, rfl, by decide +kernel, rfl, by decide +kernel, by decide +kernel⟩
abbrev sRunOf : Stmt := topS 61
abbrev nRunOf : List Str := ["rule", "requests", "state", "found", "lost", "thing", "is_hit", "away"]
theorem scRunOf : FnScope nRunOf ["rule", "requests"] (defScope sRunOf) := ⟨rfl, rfl, rfl, by decide +kernel, rfl, by decide +kernel, by decide +kernel⟩
abbrev sCkRun : Stmt := topS 62
theorem scCkRun : FnScope ["rule", "requests"] ["rule", "requests"] (defScope sCkRun) := ⟨rfl, rfl, rfl, by decide +kernel, rfl, by decide +kernel, by decide +kernel⟩
abbrev sHits : Stmt := topS 63
theorem scHits : FnScope ["rule", "requests"] ["rule", "requests"] (defScope sHits) := ⟨rfl, rfl, rfl, by decide +kernel, rfl, by decide +kernel, by decide +kernel⟩
abbrev sMisses : Stmt := topS 64
theorem scMisses : FnScope ["rule", "requests"] ["rule", "requests"] (defScope sMisses) := ⟨rfl, rfl, rfl, by decide +kernel, rfl, by decide +kernel, by decide +kernel⟩
abbrev sNeedG : Stmt := topS 66
theorem scNeedG : FnScope ["one", "other"] ["one", "other"] (defScope sNeedG) := ⟨rfl, rfl, rfl, by decide +kernel, rfl, by decide +kernel, by decide +kernel⟩
abbrev sWithin : Stmt := topS 67
abbrev nWithin : List Str := ["arrangement", "mine", "its", "thing"]
theorem scWithin : FnScope nWithin ["arrangement"] (defScope sWithin) := ⟨rfl, rfl, rfl, by decide +kernel, rfl, by decide +kernel, by decide +kernel⟩
abbrev sNested : Stmt := topS 68
abbrev nNested : List Str := ["one", "other", "graph", "walks", "arrangement", "walk"]
theorem scNested : FnScope nNested ["one", "other"] (defScope sNested) := ⟨rfl, rfl, rfl, by decide +kernel, rfl, by decide +kernel, by decide +kernel⟩
abbrev nBody : List Stmt := match (defBody sNested).getD 2 (.Pass ⟨0, 0, 0, 0⟩) with
  | .For _ _ fb _ _ => fb
  | _ => []
def okReq (ns : List Int) : Prop := ns.length ≤ 60 ∧ ∀ n ∈ ns, 0 ≤ n ∧ n ≤ 99
theorem flat_bls : ∀ bs : List Bool, ((bs.map V.bl).all flatV) = true
  | [] => rfl
  | b :: bs => by rw [List.map_cons, List.all_cons, flat_bls bs]; rfl
theorem countP_bls (k : Bool) : ∀ bs : List Bool, (bs.map V.bl).countP (fun z => eqV z (V.bl k)) = bs.count k
  | [] => rfl
  | b :: bs => by
    rw [List.map_cons, List.countP_cons, countP_bls k bs, List.count_cons]
    cases b <;> cases k <;> rfl
section
variable {X : Cx} {B : Bs} {Γ : List Sl} {a b : Expr} {pos : Pos}
theorem g_countB {bs : List Bool} {k : Bool} {apos : Pos} (ha : GE X B Γ a (.tud (bs.map .bl))) (hb : GE X B Γ b (.bl k)) (hbase : attributeBase a "count" X.env (eval a X.env) = eval a X.env := by rfl)
    (hfew : ((backTo pos (starEach [b] X.env)).all (fun x => !x.1) && (backToKw pos (keywordEach [] X.env)).all (fun x => x.1.isSome)
      && decide (([b] : List Expr).length + ([] : List Keyword).length + (if ([] : List Keyword).isEmpty then 0 else 1) < 30)) = true := by rfl)
    (hline : (apos.endLine == pos.line) = true := by rfl) (hs : starEach [b] X.env = (false, eval b X.env) :: starEach [] X.env := by rfl) : GE X B Γ (.Call (.Attribute a "count" apos) [b] [] pos) (.int (bs.count k : Nat)) :=
  ge_tcount ha hb (fun S v h => h) (fun S vs h => reps_bls h) rfl (flat_bls bs) (countP_bls k bs) hbase hfew hline hs
end
section
variable {P : Program} {w : World} {K : PySem.W.Frag} {mg : Str → Option Value} {base : Heap} {T : List NTab} {f : Addr} {fd : FuncData}
def preIsReq (xs : List Vl) (y : Vl) : Prop := ∃ ns : List Int, xs = [eI ns] ∧ okReq ns ∧ y = .bl true
theorem ok_isReq (F : Fun K "is_requests" "is_requests" sIsReq f fd) (Gm : Gf mg) (F1 : D P w K mg base T 2 "is_thing" ["thing"] preThing) : FnOk P w K mg base CX0 3 f fd ["thing"] (spV K T preIsReq) := by
  refine okV F scIsReq (fun xs y ⟨_, e, _⟩ => by rw [e]; rfl) fun cdv A outer s H E B xs y hT hr ⟨ns, e1, ⟨hl, hn⟩, e2⟩ => ?_
  subst e1 e2 hT
  refine ⟨_, grs_cons (gs_skip (gw_t (gw_orF (gt_is (gt_not (gt_val (g_isiT (xs := ns.map .int) Gm (gv 0)))) rfl) (gw_or1 (gt_is (gt_gt (g_len (xs := ns.map .int) Gm (gv 0)) (g_mostR Gm)) (by rw [List.length_map]; exact decide_eq_false (by omega)))))))
    (grs_one (gr_ret (ge_is (g_allC (k := 1) (as := ns) .int (fun _ => true) Gm rfl scIsReq.nd (gv 0) (blkOk_by (N := ["thing", "one"]) (sc := defScope sIsReq) (by decide +kernel)) rfl rfl (Nat.le_of_ble_eq_true rfl) (fun s H C cl fp a ha => ?_) (by rw [sizeLine_eq]; omega)) ?_)))⟩
  · exact ge_call F1 hr (by omega) rfl (ga_cons (gv 1) ga_nil) ⟨a, rfl, (hn a ha).1, (hn a ha).2, rfl⟩
  · rw [List.all_eq_true.mpr fun _ _ => rfl]
def preNeedReq (xs : List Vl) (y : Vl) : Prop := ∃ ns : List Int, xs = [eI ns] ∧ okReq ns ∧ y = .non
theorem ok_needReq (F : Fun K "need_requests" "need_requests" sNeedReq f fd) (F1 : D P w K mg base T 3 "is_requests" ["thing"] preIsReq) : FnOk P w K mg base CX0 4 f fd ["requests"] (spV K T preNeedReq) := by
  refine okN F scNeedReq (fun xs y ⟨_, e, _⟩ => by rw [e]; rfl) (fun xs y ⟨_, _, _, e⟩ => e) fun cdv A outer s H E B xs y hT hr ⟨ns, e1, h, e2⟩ => ?_
  subst e1 e2 hT
  exact ⟨_, gss_cons (gs_skip (gt_is (gt_not (gt_val (ge_call F1 hr (by omega) rfl (ga_cons (gv 0) ga_nil) ⟨ns, rfl, h, rfl⟩))) rfl)) gss_nil⟩
def runV (r : Mi.Rl) (ns : List Int) : Vl := .tup [eSt (Mi.runS r (Mi.first r) ns), .tud ((Mi.runH r (Mi.first r) ns).map .bl), .tud ((Mi.runG r (Mi.first r) ns).map gonV)]
def preRun (xs : List Vl) (y : Vl) : Prop := ∃ (r : Mi.Rl) (ns : List Int), xs = [eRl r, eI ns] ∧ Mi.okRl r ∧ okReq ns ∧ y = runV r ns
theorem ok_runOf (F : Fun K "run_of" "run_of" sRunOf f fd) (Gm : Gf mg) (F1 : D P w K mg base T 1 "first_state" ["rule"] preFirst) (F2 : D P w K mg base T 2 "step" ["rule", "state", "thing"] preStep) : FnOk P w K mg base CX0 3 f fd ["rule", "requests"] (spV K T preRun) := by
  refine okV F scRunOf (fun xs y ⟨_, _, e, _⟩ => by rw [e]; rfl) fun cdv A outer s H E B xs y hT hr ⟨r, ns, e1, h, ⟨hl, hn⟩, e2⟩ => ?_
  subst e1 e2 hT
  let S : Nat → Mi.Sta := fun i => Mi.runS r (Mi.first r) (ns.take i)
  let Γf : Nat → List Sl := fun i => [.va (eRl r), .va (eI ns), .va (eSt (S i)), .ow none (owL K ((Mi.runH r (Mi.first r) (ns.take i)).map .bl)), .ow none (owL K ((Mi.runG r (Mi.first r) (ns.take i)).map gonV)), .no, .no, .no]
  refine ⟨[.va (eRl r), .va (eI ns), .va (eSt (Mi.runS r (Mi.first r) ns)), .va (.lst ((Mi.runH r (Mi.first r) ns).map .bl)), .va (.lst ((Mi.runG r (Mi.first r) ns).map gonV)), .no, .no, .no],
    grs_cons (gs_to (Γ2 := Γf 0) (gs_par3 (i := 2) (j := 3) (l := 4) (gm_v (ge_call F1 hr (by omega) rfl (ga_cons (gv 0) ga_nil) ⟨r, rfl, h, rfl⟩) (gm_o (go_lst ga_nil (Nat.zero_le _)) (gm_o (go_lst ga_nil (Nat.zero_le _)) gm_nil))) rfl scRunOf.nd rfl rfl rfl (by decide) (by decide) (by decide) (Nat.le_of_ble_eq_true rfl) (Nat.le_of_ble_eq_true rfl) (Nat.le_of_ble_eq_true rfl) rfl rfl rfl rfl) rfl)
    (grs_cons (gs_to (Γ2 := [.va (eRl r), .va (eI ns), .va (eSt (Mi.runS r (Mi.first r) ns)), .ow none (owL K ((Mi.runH r (Mi.first r) ns).map .bl)), .ow none (owL K ((Mi.runG r (Mi.first r) ns).map gonV)), .no, .no, .no]) (gs_for (T := .nm 5) (xs := ns.map .int) Γf PassesOwn.never rfl (gi_tup (gv 1)) (pg_name scRunOf.nd rfl (Or.inl rfl)) (fun _ _ => trivial) (fun i hi j hj => ?_) (fun S1 i x hx => ?_)) ?eG)
    (grs_freeze (i := 3) rfl owL_lst (grs_freeze (i := 4) rfl owL_lst (grs_one (gr_ret (ge_tup (ga_cons (gv 2) (ga_cons (g_tupL Gm (gv 3)) (ga_cons (g_tupL Gm (gv 4)) ga_nil))) (Nat.le_of_ble_eq_true rfl)))))))⟩
  · have : j = 5 := by simpa [Tg.idx] using hj
    subst this
    exact Nat.le_of_ble_eq_true rfl
  · rw [List.getElem?_map] at hx
    cases hi : ns[i]? with
    | none => rw [hi] at hx; cases hx
    | some q =>
      rw [hi] at hx
      cases hx
      have hlt : i < ns.length := (List.getElem?_eq_some_iff.mp hi).1
      have etk : ns.take (i + 1) = ns.take i ++ [q] := by rw [List.take_add_one, hi]; rfl
      have hS : Mi.okSt r (S i) := Mi.okSt_run h (Mi.okSt_first h) fun x hx => hn x (List.mem_of_mem_take hx)
      have eS : S (i + 1) = Mi.step r (S i) q := by
        show Mi.runS r (Mi.first r) (ns.take (i + 1)) = _
        rw [etk, Mi.runS_app]; rfl
      have eH : Mi.runH r (Mi.first r) (ns.take (i + 1)) = Mi.runH r (Mi.first r) (ns.take i) ++ [Mi.isHit (S i) q] := by rw [etk, Mi.runH_app]; rfl
      have eG : Mi.runG r (Mi.first r) (ns.take (i + 1)) = Mi.runG r (Mi.first r) (ns.take i) ++ [Mi.goneOf r (S i) q] := by rw [etk, Mi.runG_app]; rfl
      have e : Γf (i + 1) = [.va (eRl r), .va (eI ns), .va (eSt (Mi.step r (S i) q)), .ow none (owL K ((Mi.runH r (Mi.first r) (ns.take i)).map .bl ++ [.bl (Mi.isHit (S i) q)])), .ow none (owL K ((Mi.runG r (Mi.first r) (ns.take i)).map gonV ++ [gonV (Mi.goneOf r (S i) q)])), .no, .no, .no] := by
        show [_, _, Sl.va (eSt (S (i + 1))), Sl.ow none (owL K ((Mi.runH r (Mi.first r) (ns.take (i + 1))).map .bl)), Sl.ow none (owL K ((Mi.runG r (Mi.first r) (ns.take (i + 1))).map gonV)), _, _, _] = _
        rw [eS, eH, eG, List.map_append, List.map_append]; rfl
      rw [e]
      have l1 : ((Mi.runH r (Mi.first r) (ns.take i)).map Vl.bl).length ≤ 60 := by rw [List.length_map, Mi.runH_len, List.length_take]; omega
      have l2 : ((Mi.runG r (Mi.first r) (ns.take i)).map gonV).length ≤ 60 := by rw [List.length_map, Mi.runG_len, List.length_take]; omega
      refine gss_weak (Γ1 := [.va (eRl r), .va (eI ns), .va (eSt (Mi.step r (S i) q)), .ow none (owL K ((Mi.runH r (Mi.first r) (ns.take i)).map .bl ++ [.bl (Mi.isHit (S i) q)])), .ow none (owL K ((Mi.runG r (Mi.first r) (ns.take i)).map gonV ++ [gonV (Mi.goneOf r (S i) q)])), .va (.int q), .va (.bl (Mi.isHit (S i) q)), .va (gonV (Mi.goneOf r (S i) q))])
        (gss_cons (gs_unp (xs := [.bl (Mi.isHit (S i) q), gonV (Mi.goneOf r (S i) q), eSt (Mi.step r (S i) q)]) (ge_call F2 hr (by omega) rfl (ga_cons (gv 0) (ga_cons (gv 2) (ga_cons (gv 5) ga_nil))) ⟨r, S i, q, rfl, h, hS, rfl⟩) (pgNc (i := 6) scRunOf.nd rfl (pgNc (i := 7) scRunOf.nd rfl (pgNc (i := 2) scRunOf.nd rfl pgN0))))
        (gss_cons (gs_append (i := 3) (x := .bl (Mi.isHit (S i) q)) rfl rfl (Or.inl rfl) (gv 6) (by rw [sizeLine_eq]; omega) (fun l z => by cases z))
        (gss_cons (gs_append (i := 4) (x := gonV (Mi.goneOf r (S i) q)) rfl rfl (Or.inl rfl) (gv 7) (by rw [sizeLine_eq]; omega) (fun l z => by cases z)) gss_nil))) ⟨.inr rfl, .inr rfl, .inr rfl, .inr rfl, .inr rfl, .inl rfl, .inl rfl, .inl rfl, trivial⟩
  case eG =>
    show [_, _, Sl.va (eSt (Mi.runS r (Mi.first r) (ns.take (ns.map Vl.int).length))), Sl.ow none (owL K ((Mi.runH r (Mi.first r) (ns.take (ns.map Vl.int).length)).map .bl)), Sl.ow none (owL K ((Mi.runG r (Mi.first r) (ns.take (ns.map Vl.int).length)).map gonV)), _, _, _] = _
    rw [List.length_map, List.take_length]
theorem ok_ckRun (F : Fun K "checked_run" "checked_run" sCkRun f fd) (F1 : D P w K mg base T 7 "need_rule" ["rule"] preNeedR) (F2 : D P w K mg base T 4 "need_requests" ["requests"] preNeedReq) (F3 : D P w K mg base T 3 "run_of" ["rule", "requests"] preRun) : FnOk P w K mg base CX0 8 f fd ["rule", "requests"] (spV K T preRun) := by
  refine okV F scCkRun (fun xs y ⟨_, _, e, _⟩ => by rw [e]; rfl) fun cdv A outer s H E B xs y hT hr ⟨r, ns, e1, h, hq, e2⟩ => ?_
  subst e1 e2 hT
  exact ⟨_, grs_cons (gs_expr (ge_call F1 hr (by omega) rfl (ga_cons (gv 0) ga_nil) ⟨r, rfl, h, rfl⟩)) (grs_cons (gs_expr (ge_call F2 hr (by omega) rfl (ga_cons (gv 1) ga_nil) ⟨ns, rfl, hq, rfl⟩))
    (grs_one (gr_ret (ge_call F3 hr (by omega) rfl (ga_cons (gv 0) (ga_cons (gv 1) ga_nil)) ⟨r, ns, rfl, h, hq, rfl⟩))))⟩
def preHits (xs : List Vl) (y : Vl) : Prop := ∃ (r : Mi.Rl) (ns : List Int), xs = [eRl r, eI ns] ∧ Mi.okRl r ∧ okReq ns ∧ y = .tud ((Mi.runH r (Mi.first r) ns).map .bl)
theorem ok_hits (F : Fun K "hits" "hits" sHits f fd) (F1 : D P w K mg base T 8 "checked_run" ["rule", "requests"] preRun) : FnOk P w K mg base CX0 9 f fd ["rule", "requests"] (spV K T preHits) := by
  refine okV F scHits (fun xs y ⟨_, _, e, _⟩ => by rw [e]; rfl) fun cdv A outer s H E B xs y hT hr ⟨r, ns, e1, h, hq, e2⟩ => ?_
  subst e1 e2 hT
  exact ⟨_, grs_one (gr_ret (ge_ixT (xs := [eSt (Mi.runS r (Mi.first r) ns), .tud ((Mi.runH r (Mi.first r) ns).map .bl), .tud ((Mi.runG r (Mi.first r) ns).map gonV)]) (ge_call F1 hr (by omega) rfl (ga_cons (gv 0) (ga_cons (gv 1) ga_nil)) ⟨r, ns, rfl, h, hq, rfl⟩) ge_int rfl))⟩
def preMisses (xs : List Vl) (y : Vl) : Prop := ∃ (r : Mi.Rl) (ns : List Int), xs = [eRl r, eI ns] ∧ Mi.okRl r ∧ okReq ns ∧ y = .int (Mi.missesOf r ns : Nat)
theorem ok_misses (F : Fun K "misses" "misses" sMisses f fd) (F1 : D P w K mg base T 9 "hits" ["rule", "requests"] preHits) : FnOk P w K mg base CX0 10 f fd ["rule", "requests"] (spV K T preMisses) := by
  refine okV F scMisses (fun xs y ⟨_, _, e, _⟩ => by rw [e]; rfl) fun cdv A outer s H E B xs y hT hr ⟨r, ns, e1, h, hq, e2⟩ => ?_
  subst e1 e2 hT
  exact ⟨_, grs_one (gr_ret (g_countB (ge_call F1 hr (by omega) rfl (ga_cons (gv 0) (ga_cons (gv 1) ga_nil)) ⟨r, ns, rfl, h, hq, rfl⟩) ge_bl))⟩
/-! nested -/
def preNeedG (xs : List Vl) (y : Vl) : Prop := ∃ a b : Mi.Rl, xs = [eRl a, eRl b] ∧ Mi.okRl a ∧ Mi.okRl b ∧ a.places ≤ b.places ∧ y = .non
theorem ok_needG (F : Fun K "need_greater" "need_greater" sNeedG f fd) (F1 : D P w K mg base T 8 "need_rules" ["one", "other"] preNeedRs) : FnOk P w K mg base CX0 9 f fd ["one", "other"] (spV K T preNeedG) := by
  refine okN F scNeedG (fun xs y ⟨_, _, e, _⟩ => by rw [e]; rfl) (fun xs y ⟨_, _, _, _, _, _, e⟩ => e) fun cdv A outer s H E B xs y hT hr ⟨a, b, e1, ha, hb, hab, e2⟩ => ?_
  subst e1 e2 hT
  exact ⟨_, gss_cons (gs_expr (ge_call F1 hr (by omega) rfl (ga_cons (gv 0) (ga_cons (gv 1) ga_nil)) ⟨a, b, rfl, ha, hb, rfl⟩))
    (gss_cons (gs_skip (gt_is (gt_lt (ge_ixT (y := .int b.places) (xs := [.int b.places, .tup (b.labels.map eLR)]) (gv 1) ge_int rfl) (ge_ixT (y := .int a.places) (xs := [.int a.places, .tup (a.labels.map eLR)]) (gv 0) ge_int rfl)) (decide_eq_false (by omega)))) gss_nil)⟩
def within (n : Mi.Nd) : Bool := n.1.1.all fun x => decide (x = -1) || decide (x ∈ n.2.1)
def preWithin (xs : List Vl) (y : Vl) : Prop := ∃ n : Mi.Nd, xs = [eNd n] ∧ n.1.1.length ≤ 4 ∧ y = .bl (within n)
theorem ok_within (F : Fun K "is_within" "is_within" sWithin f fd) (Gm : Gf mg) : FnOk P w K mg base CX0 1 f fd ["arrangement"] (spV K T preWithin) := by
  refine okV F scWithin (fun xs y ⟨_, e, _⟩ => by rw [e]; rfl) fun cdv A outer s H E B xs y hT hr ⟨n, e1, hl, e2⟩ => ?_
  subst e1 e2 hT
  refine ⟨_, grs_cons (gs_asgM (is := [1, 2]) (gm_v (ge_ixT (xs := [.tud (n.1.1.map .int), .int n.1.2]) (ge_ixT (y := eSt n.1) (xs := [eSt n.1, eSt n.2]) (gv 0) ge_int rfl) ge_int rfl) (gm_v (ge_ixT (xs := [.tud (n.2.1.map .int), .int n.2.2]) (ge_ixT (y := eSt n.2) (xs := [eSt n.1, eSt n.2]) (gv 0) ge_int rfl) ge_int rfl) gm_nil)) (Nat.le_of_ble_eq_true rfl) (pgNc scWithin.nd rfl (pgNc scWithin.nd rfl pgN0)) rfl (allLt rfl) rfl)
    (grs_one (gr_ret (g_allC (k := 3) (as := n.1.1) .int (fun x => decide (x = -1) || decide (x ∈ n.2.1)) Gm rfl scWithin.nd (ge_tud (gv 1)) (blkOk_by (N := nWithin) (sc := defScope sWithin) (by decide +kernel)) rfl rfl (Nat.le_of_ble_eq_true rfl) (fun s H C cl fp a ha => ?_) (by rw [sizeLine_eq]; omega))))⟩
  by_cases h : a = -1
  · rw [decide_eq_true h, Bool.true_or]
    exact ge_orT (ge_is (ge_eqI (gv 3) (g_blank Gm)) (by rw [decide_eq_true h]))
  · rw [decide_eq_false h, Bool.false_or]
    exact ge_orF (ge_is (ge_eqI (gv 3) (g_blank Gm)) (by rw [decide_eq_false h])) (ge_one (ge_cmp op_in_seq (gv 3) (ge_tud (gv 2)) ro_inT rfl))
def preNested (xs : List Vl) (y : Vl) : Prop := ∃ (a b : Mi.Rl) (N : Nat), xs = [eRl a, eRl b] ∧ Mi.okRl a ∧ Mi.okRl b ∧ a.places ≤ b.places ∧ Mi.GOk a b N ∧
  (((∀ p ∈ Mi.gW a b N, within p.1 = true) ∧ y = .tup [.str "nested", .tud (sortX ((Mi.gG a b N).map fun p => eNd p.1))]) ∨
   ∃ (i : Nat) (p : Mi.Nd × List Int), (Mi.gW a b N)[i]? = some p ∧ within p.1 = false ∧ (∀ j < i, ∀ q, (Mi.gW a b N)[j]? = some q → within q.1 = true) ∧ y = .tup [.str "apart", eI p.2])
theorem ok_nested (F : Fun K "nested" "nested" sNested f fd) (Gm : Gf mg) (F0 : D P w K mg base T 9 "need_greater" ["one", "other"] preNeedG) (F1 : D P w K mg base T 6 "all_steps" ["one", "other"] (preAllS P w K mg base T)) (F2 : D P w K mg base T 1 "is_within" ["arrangement"] preWithin) :
    FnOk P w K mg base CX0 10 f fd ["one", "other"] (spV K T preNested) := by
  refine okV F scNested (fun xs y ⟨_, _, _, e, _⟩ => by rw [e]; rfl) fun cdv A outer s H E B xs y hT hr ⟨a, b, N, e1, ha, hb, hab, g, hy⟩ => ?_
  subst e1 hT
  have hu := hr.units
  let gvl := dkV P w K (eD eSs (Mi.gG a b N))
  let wvl := dlV P w K (eD eI (Mi.gW a b N))
  let Γa : List Sl := [.va (eRl a), .va (eRl b), .va gvl, .va wvl, .no, .no]
  have hlen : ∀ p ∈ Mi.gW a b N, p.1.1.1.length ≤ 4 := fun p hp => by
    have := (okSt.len4 ha (g.ok p hp).x).1
    omega
  have exs : ((eD eI (Mi.gW a b N)).map fun x => Vl.tup [x.1, x.2]) = (Mi.gW a b N).map fun p => Vl.tup [eNd p.1, eI p.2] := by
    show (((Mi.gW a b N).map fun p => (eNd p.1, eI p.2)).map fun p => Vl.tup [p.1, p.2]) = _
    rw [List.map_map]; rfl
  have start : ∀ {Γ' : List Sl} {y : Vl}, GRs (bX P w K mg base nNested "nested" sNested f cdv A outer s H E) B Γa ((defBody sNested).drop 2) Γ' y → GRs (bX P w K mg base nNested "nested" sNested f cdv A outer s H E) B (Gam0 nNested [eRl a, eRl b]) (defBody sNested) Γ' y := by
    intro Γ' y h
    exact grs_cons (gs_expr (ge_call F0 hr (by omega) rfl (ga_cons (gv 0) (ga_cons (gv 1) ga_nil)) ⟨a, b, rfl, ha, hb, hab, rfl⟩))
      (grs_cons (gs_unp (xs := [gvl, wvl]) (ge_call F1 hr (by omega) rfl (ga_cons (gv 0) (ga_cons (gv 1) ga_nil)) ⟨a, b, N, rfl, ha, hb, g, rfl⟩) (pgNc (i := 2) scNested.nd rfl (pgNc (i := 3) scNested.nd rfl pgN0))) h)
  have turn : ∀ (S1 : Hp) (p : Mi.Nd × List Int), p ∈ Mi.gW a b N → within p.1 = true → GSs (bX P w K mg base nNested "nested" sNested f cdv A outer s H E) (B.up S1) (setT Γa (.tp [4, 5]) (Vl.tup [eNd p.1, eI p.2])) nBody Γa := by
    intro S1 p hp hw
    exact gss_weak (gss_cons (gs_skip (gt_is (gt_not (gt_val (ge_call F2 hr (by omega) rfl (ga_cons (gv 4) ga_nil) ⟨p.1, rfl, hlen p hp, rfl⟩))) (by rw [hw]; rfl))) gss_nil) ⟨.inr rfl, .inr rfl, .inr rfl, .inr rfl, .inl rfl, .inl rfl, trivial⟩
  rcases hy with ⟨hall, e2⟩ | ⟨i, p, hi, hw, hbef, e2⟩
  · subst e2
    have col := col_keys (X := bX P w K mg base nNested "nested" sNested f cdv A outer s H E) (T := B.T) (A := (bX P w K mg base nNested "nested" sNested f cdv A outer s H E).A.in1) (kvs := eD eSs (Mi.gG a b N)) hr.hd
    have ek : (eD eSs (Mi.gG a b N)).map (·.1) = ((Mi.gG a b N).map (·.1)).map eNd := by
      show (((Mi.gG a b N).map fun p => (eNd p.1, eSs p.2)).map (·.1)) = _
      rw [List.map_map, List.map_map]; rfl
    rw [ek] at col
    refine ⟨Γa, start (grs_cons (gs_for (T := .tp [4, 5]) (xs := (Mi.gW a b N).map fun p => Vl.tup [eNd p.1, eI p.2]) (fun _ => Γa) PassesOwn.never rfl (by rw [← exs]; exact gi_itemsL (gv 3)) (pg_tup rfl (pgNc scNested.nd rfl (pgNc scNested.nd rfl pgN0))) (fun x hx => ?o1) (fun i hi j hj => ?i1) (fun S1 i x hx => ?b1))
      (grs_one (gr_ret (ge_is (ge_tup (ga_cons ge_str (ga_cons (g_tupL Gm (go_v (go_sorted (xs := ((Mi.gG a b N).map (·.1)).map eNd) Gm (gv 2) col (sortOk_nd _ (Nat.lt_of_le_of_lt (Nat.add_le_add_left (by decide) _) hu))))) ga_nil)) (Nat.le_of_ble_eq_true rfl)) (by rw [List.map_map]; rfl)))))⟩
    case o1 =>
      obtain ⟨q, _, rfl⟩ := List.mem_map.mp hx
      exact ⟨_, rfl, rfl⟩
    case i1 =>
      simp [Tg.idx] at hj
      rcases hj with rfl | rfl <;> exact Nat.le_of_ble_eq_true rfl
    case b1 =>
      rw [List.getElem?_map] at hx
      cases hj : (Mi.gW a b N)[i]? with
      | none => rw [hj] at hx; cases hx
      | some q =>
        rw [hj] at hx
        cases hx
        have hq := List.mem_of_getElem? hj
        exact turn S1 q hq (hall q hq)
  · subst e2
    have hpm := List.mem_of_getElem? hi
    refine ⟨setT Γa (.tp [4, 5]) (Vl.tup [eNd p.1, eI p.2]), start (grs_one (gr_for (T := .tp [4, 5]) (xs := (Mi.gW a b N).map fun p => Vl.tup [eNd p.1, eI p.2]) (fun _ => Γa) i PassesOwn.never rfl (by rw [← exs]; exact gi_itemsL (gv 3)) (pg_tup rfl (pgNc scNested.nd rfl (pgNc scNested.nd rfl pgN0))) (fun x hx => ?o2) (by rw [List.length_map]; exact (List.getElem?_eq_some_iff.mp hi).1) (fun i hi j hj => ?i2) (fun S1 j x hj hx => ?b2) (fun S1 x hx => ?r2)))⟩
    case o2 =>
      obtain ⟨q, _, rfl⟩ := List.mem_map.mp hx
      exact ⟨_, rfl, rfl⟩
    case i2 =>
      simp [Tg.idx] at hj
      rcases hj with rfl | rfl <;> exact Nat.le_of_ble_eq_true rfl
    case b2 =>
      rw [List.getElem?_map] at hx
      cases hjj : (Mi.gW a b N)[j]? with
      | none => rw [hjj] at hx; cases hx
      | some q =>
        rw [hjj] at hx
        cases hx
        exact turn S1 q (List.mem_of_getElem? hjj) (hbef j hj q hjj)
    case r2 =>
      rw [List.getElem?_map, hi] at hx
      cases hx
      exact grs_one (gr_ifT (gt_is (gt_not (gt_val (ge_call F2 hr (by omega) rfl (ga_cons (gv 4) ga_nil) ⟨p.1, rfl, hlen p hpm, rfl⟩))) (by rw [hw]; rfl)) (grs_one (gr_ret (ge_tup (ga_cons ge_str (ga_cons (gv 5) ga_nil)) (Nat.le_of_ble_eq_true rfl)))))
end
end G
set_option maxHeartbeats 4000000
/-! F16: the law's pens. -/
namespace G
open PySem PySem.Spec PyProof.Rows L2 LamX NdefX
abbrev sPen : Stmt := topS 73
theorem scPen : FnScope ["_law_cell"] ["_law_cell"] (defScope sPen) := ⟨rfl, rfl, rfl, by decide +kernel, rfl, by decide +kernel, by decide +kernel⟩
abbrev sDraw : Stmt := topS 75
abbrev nDraw : List Str := ["_law_pen_here", "_law_many", "_law_digit", "_law_stir"]
theorem scDraw : FnScope nDraw ["_law_pen_here", "_law_many"] (defScope sDraw) := ⟨rfl, rfl, rfl, by decide +kernel, rfl, by decide +kernel, by decide +kernel⟩
def stirA (p : Pen) : Int := (p.b + 17 * (p.c + 1)) * (69621 + 2 * (p.c + 1)) % 2147483647
def stirB (p : Pen) : Int := (stirA p * stirA p + 40503 * (p.c + 1) + 5) % 2147483629
def drawK (p : Pen) (m : Int) : Int := if 0 < p.a then p.a % m else stirB p * 48271 % 2147483647 / 32 % m
def drawN (p : Pen) (m : Int) : Pen := if 0 < p.a then ⟨p.a / m, p.b, p.c⟩ else ⟨p.a, p.b, p.c + 1⟩
structure PenOk (n : Int) (p : Pen) : Prop where
  a : 0 ≤ p.a
  b0 : 0 ≤ p.b
  b1 : p.b < 1000000007
  c0 : 0 ≤ p.c
  c1 : p.c ≤ n
theorem PenOk.draw {n m : Int} {p : Pen} (h : PenOk n p) (hm : 0 < m) : PenOk (n + 1) (drawN p m) := by
  have := h.c1
  have := h.c0
  unfold drawN
  split
  · exact ⟨Int.ediv_nonneg h.a (Int.le_of_lt hm), h.b0, h.b1, h.c0, by show p.c ≤ n + 1; omega⟩
  · exact ⟨h.a, h.b0, h.b1, by show 0 ≤ p.c + 1; omega, by show p.c + 1 ≤ n + 1; omega⟩
theorem draw_rng (p : Pen) {m : Int} (hm : 0 < m) : 0 ≤ drawK p m ∧ drawK p m < m := by
  unfold drawK
  split <;> exact ⟨Int.emod_nonneg _ (by omega), Int.emod_lt_of_pos _ hm⟩
theorem PenOk.mono {n n' : Int} {p : Pen} (h : PenOk n p) (k : n ≤ n') : PenOk n' p := ⟨h.a, h.b0, h.b1, h.c0, Int.le_trans h.c1 k⟩
def penOf (z : Int) : Pen := ⟨if z - 10 ^ 18 > 0 then z - 10 ^ 18 else 0, z % 1000000007, 0⟩
theorem penOf_ok (z : Int) : PenOk 0 (penOf z) := by
  refine ⟨?_, Int.emod_nonneg _ (by decide), Int.emod_lt_of_pos _ (by decide), Int.le_refl _, Int.le_refl _⟩
  show 0 ≤ (if z - 10 ^ 18 > 0 then z - 10 ^ 18 else 0)
  split <;> omega
theorem cmul {i j : Int} (h0 : 0 ≤ i) (h1 : i < 18446744073709551616) : CMul i j := .inl ⟨by omega, by omega⟩
section
variable {P : Program} {w : World} {K : PySem.W.Frag} {mg : Str → Option Value} {base : Heap} {T : List NTab} {f : Addr} {fd : FuncData}
def prePen (K : PySem.W.Frag) (xs : List Vl) (o : Own) : Prop := ∃ z : Int, xs = [.int z] ∧ o = penW K (penOf z)
theorem ok_pen (F : Fun K "_law_pen" "_law_pen" sPen f fd) (Gm : Gf mg) : FnOk P w K mg base CX0 1 f fd ["_law_cell"] (spO K T (prePen K)) := by
  refine okO F scPen rfl (fun xs y ⟨_, e, _⟩ => by rw [e]; rfl) fun cdv A outer s H E B xs o hT hr ⟨z, e1, e2⟩ => ?_
  subst e1 e2 hT
  exact go_lst (ga_cons (g_max2 Gm rfl ge_int (ge_sub (gv 0) (ge_op op_pow ge_int ge_int (ro_I ⟨by decide, by decide, by decide⟩)))) (ga_cons (ge_mod (gv 0) ge_int (by decide)) (ga_cons ge_int ga_nil))) (Nat.le_of_ble_eq_true rfl)
def preDraw (p : Pen) (xs : List Vl) (p' : Pen) (y : Vl) : Prop := ∃ m : Int, xs = [.int m] ∧ 0 < m ∧ m ≤ 1000 ∧ PenOk 1000000 p ∧ p' = drawN p m ∧ y = .int (drawK p m)
theorem ok_draw (F : Fun K "_law_draw" "_law_draw" sDraw f fd) : FnOk P w K mg base CX0 1 f fd ["_law_pen_here", "_law_many"] (spM K T preDraw) := by
  refine okM F scDraw (fun p xs p' y ⟨_, e, _⟩ => by rw [e]; rfl) fun cdv A outer s H E B l p p' xs y hT hL hr ⟨m, e1, hm, hm2, hp, e2, e3⟩ => ?_
  subst e1 hT
  have h1 := hp.b0
  have h2 := hp.b1
  have h3 := hp.c0
  have h4 := hp.c1
  by_cases ha : 0 < p.a
  · have ek : drawK p m = p.a % m := by unfold drawK; rw [if_pos ha]
    have en : drawN p m = ⟨p.a / m, p.b, p.c⟩ := by unfold drawN; rw [if_pos ha]
    rw [en] at e2
    rw [ek] at e3
    subst e2 e3
    refine ⟨[.ow (some l) (penW K ⟨p.a / m, p.b, p.c⟩), .va (.int m), .va (.int (p.a % m)), .no], rfl, grs_one (gr_ifT (gt_is (gt_gt (ge_ixO (i := 0) (xs := [.int p.a, .int p.b, .int p.c]) rfl rfl (Or.inl rfl) ge_int rfl) ge_int) (decide_eq_true ha))
      (grs_cons (gs_asg (i := 2) (ge_mod (ge_ixO (i := 0) (xs := [.int p.a, .int p.b, .int p.c]) rfl rfl (Or.inl rfl) ge_int rfl) (gv 1) hm) (Nat.le_of_ble_eq_true rfl) scDraw.nd rfl (Or.inl rfl))
      (grs_cons (gs_setL (i := 0) (j := 0) (xs := [.int p.a, .int p.b, .int p.c]) rfl rfl (Or.inl rfl) (ge_op op_fdiv (ge_ixO (i := 0) (xs := [.int p.a, .int p.b, .int p.c]) rfl rfl (Or.inl rfl) ge_int rfl) (gv 1) (ro_I ⟨hm, by omega⟩)) ge_int rfl hL)
      (grs_one (gr_ret (gv 2))))))⟩
  · have ek : drawK p m = stirB p * 48271 % 2147483647 / 32 % m := by unfold drawK; rw [if_neg ha]
    have en : drawN p m = ⟨p.a, p.b, p.c + 1⟩ := by unfold drawN; rw [if_neg ha]
    rw [en] at e2
    rw [ek] at e3
    subst e2 e3
    have sA0 : 0 ≤ stirA p := Int.emod_nonneg _ (by decide)
    have sA1 : stirA p < 2147483647 := Int.emod_lt_of_pos _ (by decide)
    have sB0 : 0 ≤ stirB p := Int.emod_nonneg _ (by decide)
    have sB1 : stirB p < 2147483629 := Int.emod_lt_of_pos _ (by decide)
    refine ⟨[.ow (some l) (penW K ⟨p.a, p.b, p.c + 1⟩), .va (.int m), .no, .va (.int (stirB p))], rfl, grs_cons (gs_skip (gt_is (gt_gt (ge_ixO (i := 0) (xs := [.int p.a, .int p.b, .int p.c]) rfl rfl (Or.inl rfl) ge_int rfl) ge_int) (decide_eq_false ha)))
      (grs_cons (gs_setL (i := 0) (j := 2) (xs := [.int p.a, .int p.b, .int p.c]) rfl rfl (Or.inl rfl) (ge_add (ge_ixO (i := 0) (xs := [.int p.a, .int p.b, .int p.c]) rfl rfl (Or.inl rfl) ge_int rfl) ge_int) ge_int rfl hL)
      (grs_cons (gs_asg (i := 3) (y := .int (stirA p)) (ge_mod (ge_mul (ge_add (ge_ixO (i := 0) (xs := [.int p.a, .int p.b, .int (p.c + 1)]) rfl rfl (Or.inl rfl) ge_int rfl) (ge_mul ge_int (ge_ixO (i := 0) (xs := [.int p.a, .int p.b, .int (p.c + 1)]) rfl rfl (Or.inl rfl) ge_int rfl) (cmul (by decide) (by decide)))) (ge_add ge_int (ge_mul ge_int (ge_ixO (i := 0) (xs := [.int p.a, .int p.b, .int (p.c + 1)]) rfl rfl (Or.inl rfl) ge_int rfl) (cmul (by decide) (by decide)))) (cmul (by omega) (by omega))) ge_int (by decide)) (Nat.le_of_ble_eq_true rfl) scDraw.nd rfl (Or.inl rfl))
      (grs_cons (gs_asg (i := 3) (y := .int (stirB p)) (ge_mod (ge_add (ge_add (ge_mul (gv 3) (gv 3) (cmul sA0 (by omega))) (ge_mul ge_int (ge_ixO (i := 0) (xs := [.int p.a, .int p.b, .int (p.c + 1)]) rfl rfl (Or.inl rfl) ge_int rfl) (cmul (by decide) (by decide)))) ge_int) ge_int (by decide)) (Nat.le_of_ble_eq_true rfl) scDraw.nd rfl (Or.inl rfl))
      (grs_one (gr_ret (ge_mod (ge_op op_fdiv (ge_mod (ge_mul (gv 3) ge_int (cmul sB0 (by omega))) ge_int (by decide)) ge_int (ro_I ⟨by decide, by decide⟩)) (gv 1) hm))))))⟩
end
end G
set_option maxHeartbeats 4000000
/-! F17: rules of one label. -/
namespace G
open PySem PySem.Spec PyProof.Rows L2 LamX NdefX
abbrev sCellAt : Stmt := topS 74
theorem scCellAt : FnScope ["_law_script", "_law_k"] ["_law_script", "_law_k"] (defScope sCellAt) := ⟨rfl, rfl, rfl, by decide +kernel, rfl, by decide +kernel, by decide +kernel⟩
abbrev sFront : Stmt := topS 76
abbrev nFront : List Str := ["_law_place", "_law_places", "_law_one"]
theorem scFront : FnScope nFront ["_law_place", "_law_places"] (defScope sFront) := ⟨rfl, rfl, rfl, by decide +kernel, rfl, by decide +kernel, by decide +kernel⟩
abbrev sOneL : Stmt := topS 77
abbrev nOneL : List Str := ["_law_places", "_law_hit_orders", "_law_out", "_law_come_orders", "_law_at_hits", "_law_at_comes", "_law_one"]
theorem scOneL : FnScope nOneL ["_law_places", "_law_hit_orders", "_law_out", "_law_come_orders"] (defScope sOneL) := ⟨rfl, rfl, rfl, by decide +kernel, rfl, by decide +kernel, by decide +kernel⟩
abbrev sQueue : Stmt := topS 78
abbrev nQueue : List Str := ["_law_places", "_law_forward", "_law_place"]
theorem scQueue : FnScope nQueue ["_law_places"] (defScope sQueue) := ⟨rfl, rfl, rfl, by decide +kernel, rfl, by decide +kernel, by decide +kernel⟩
abbrev sRecent : Stmt := topS 79
theorem scRecent : FnScope nQueue ["_law_places"] (defScope sRecent) := ⟨rfl, rfl, rfl, by decide +kernel, rfl, by decide +kernel, by decide +kernel⟩
abbrev sNewest : Stmt := topS 80
theorem scNewest : FnScope nQueue ["_law_places"] (defScope sNewest) := ⟨rfl, rfl, rfl, by decide +kernel, rfl, by decide +kernel, by decide +kernel⟩
section
variable {P : Program} {w : World} {K : PySem.W.Frag} {mg : Str → Option Value} {base : Heap} {T : List NTab} {f : Addr} {fd : FuncData}
def preCellAt (K : PySem.W.Frag) (xs : List Vl) (y : Vl) : Prop := ∃ (ns : List Int) (k : Nat), xs = [scV K ns, .int k] ∧ y = .int (ns.getD k 0)
theorem ok_cellAt (F : Fun K "_law_cell_at" "_law_cell_at" sCellAt f fd) (Gm : Gf mg) : FnOk P w K mg base CX0 1 f fd ["_law_script", "_law_k"] (spV K T (preCellAt K)) := by
  refine okV F scCellAt (fun xs y ⟨_, _, e, _⟩ => by rw [e]; rfl) fun cdv A outer s H E B xs y hT hr ⟨ns, k, e1, e2⟩ => ?_
  subst e1 hT
  by_cases h : k < ns.length
  · subst e2
    exact ⟨_, grs_one (gr_ifT (gt_is (gt_lt (gv 1) (g_lenS Gm (gv 0))) (decide_eq_true (by omega))) (grs_one (gr_ret (ge_ixS (gv 0) (gv 1) h))))⟩
  · have ek : ns.getD k 0 = 0 := by rw [List.getD_eq_getElem?_getD, List.getElem?_eq_none (by omega)]; rfl
    rw [ek] at e2
    subst e2
    exact ⟨_, grs_cons (gs_skip (gt_is (gt_lt (gv 1) (g_lenS Gm (gv 0))) (decide_eq_false (by omega)))) (grs_one (gr_ret ge_int))⟩
def preFront (xs : List Vl) (y : Vl) : Prop := ∃ p n : Nat, xs = [.int p, .int n] ∧ n ≤ 1000 ∧ y = eI (Mi.frontO p n)
theorem ok_front (F : Fun K "_law_front" "_law_front" sFront f fd) (Gm : Gf mg) : FnOk P w K mg base CX0 1 f fd ["_law_place", "_law_places"] (spV K T preFront) := by
  refine okV F scFront (fun xs y ⟨_, _, e, _⟩ => by rw [e]; rfl) fun cdv A outer s H E B xs y hT hr ⟨p, n, e1, hn, e2⟩ => ?_
  subst e1 e2 hT
  have erng : rng 0 (n : Int).toNat = (Mi.rangeI n).map .int := by
    unfold rng Mi.rangeI
    rw [List.map_map, Int.toNat_natCast]
    refine List.map_congr_left fun i _ => ?_
    show Vl.int (0 + (i : Int)) = Vl.int (i : Int)
    rw [Int.zero_add]
  have hfl : ((Mi.rangeI n).filter fun x => !decide (x = (p : Int))).length ≤ n := by
    have := List.length_filter_le (fun x => !decide (x = (p : Int))) (Mi.rangeI n)
    rw [Mi.rangeI_length] at this
    exact this
  refine ⟨_, grs_one (gr_ret (ge_is (ge_catT (xs := [.int p]) (ys := ((Mi.rangeI n).filter fun x => !decide (x = (p : Int))).map .int) (ge_tup (ga_cons (gv 0) ga_nil) (Nat.le_of_ble_eq_true rfl)) (ge_tud (g_tupL Gm (go_v (go_lcIf (T := .nm 2) (own := [("_law_one", 2)]) (as := Mi.rangeI n) .int .int (fun x => !decide (x = (p : Int))) rfl scFront.nd (by rw [← erng]; exact gi_rng1 (j := n) rfl Gm.range (ga_cons (gv 1) ga_nil) (by omega)) (blkOk_by (N := nFront) (sc := defScope sFront) (by decide +kernel)) (fun _ _ _ _ _ => pg_name scFront.nd rfl (Or.inl rfl)) (fun s H C cl fp a ha => gt_neI (gv 2) (gv 0)) (fun s H C cl fp a ha _ => gv 2) (by rw [Mi.rangeI_length, sizeLine_eq]; omega) (fun _ _ => trivial) (fun j hj => ?_))))) (by rw [List.length_map, sizeLine_eq]; show 1 + _ ≤ _; omega)) rfl))⟩
  have : j = 2 := by simpa [Tg.idx] using hj
  subst this
  exact ⟨Nat.le_of_ble_eq_true rfl, by simp⟩
def preOneL (xs : List Vl) (y : Vl) : Prop := ∃ (n : Nat) (hs cs : List (List Int)) (out : Int), xs = [.int n, .lst (hs.map eI), .int out, .lst (cs.map eI)] ∧ hs.length ≤ 1000 ∧ cs.length ≤ 1000 ∧ y = eRl (Mi.oneLabel n hs out cs)
theorem ok_oneL (F : Fun K "_law_one_label" "_law_one_label" sOneL f fd) (Gm : Gf mg) : FnOk P w K mg base CX0 1 f fd ["_law_places", "_law_hit_orders", "_law_out", "_law_come_orders"] (spV K T preOneL) := by
  refine okV F scOneL (fun xs y ⟨_, _, _, _, e, _⟩ => by rw [e]; rfl) fun cdv A outer s H E B xs y hT hr ⟨n, hs, cs, out, e1, h1, h2, e2⟩ => ?_
  subst e1 e2 hT
  have ix6 : ∀ j ∈ (Tg.nm 6).idx, j = 6 := fun j hj => by simpa [Tg.idx] using hj
  refine ⟨_, grs_cons (gs_par (i := 4) (j := 5) (m1 := .va (.lst (hs.map fun o => .tup [eI o, .int 0]))) (m2 := .va (.lst (cs.map fun o => .tup [eI o, .int 0])))
      (gm_v (go_v (go_lc (T := .nm 6) (own := [("_law_one", 6)]) (as := hs) eI (fun o => .tup [eI o, .int 0]) rfl scOneL.nd (gi_lst (gv 1)) (blkOk_by (N := nOneL) (sc := defScope sOneL) (by decide +kernel)) (fun _ _ _ _ _ => pg_name scOneL.nd rfl (Or.inl rfl)) (fun s H C cl fp a ha => ge_tup (ga_cons (gv 6) (ga_cons ge_int ga_nil)) (Nat.le_of_ble_eq_true rfl)) (by rw [sizeLine_eq]; omega) (fun _ _ => trivial) (fun j hj => by rw [ix6 j hj]; exact ⟨Nat.le_of_ble_eq_true rfl, by simp⟩)))
      (gm_v (go_v (go_lc (T := .nm 6) (own := [("_law_one", 6)]) (as := cs) eI (fun o => .tup [eI o, .int 0]) rfl scOneL.nd (gi_lst (gv 3)) (blkOk_by (N := nOneL) (sc := defScope sOneL) (by decide +kernel)) (fun _ _ _ _ _ => pg_name scOneL.nd rfl (Or.inl rfl)) (fun s H C cl fp a ha => ge_tup (ga_cons (gv 6) (ga_cons ge_int ga_nil)) (Nat.le_of_ble_eq_true rfl)) (by rw [sizeLine_eq]; omega) (fun _ _ => trivial) (fun j hj => by rw [ix6 j hj]; exact ⟨Nat.le_of_ble_eq_true rfl, by simp⟩))) gm_nil))
      rfl scOneL.nd rfl rfl (by decide) (Nat.le_of_ble_eq_true rfl) (Nat.le_of_ble_eq_true rfl) rfl rfl rfl)
    (grs_one (gr_ret (ge_is (ge_tup (ga_cons (gv 0) (ga_cons (ge_tup (ga_cons (ge_tup (ga_cons (ge_tud (g_tupL Gm (gv 4))) (ga_cons (gv 2) (ga_cons (ge_tud (g_tupL Gm (gv 5))) ga_nil))) (Nat.le_of_ble_eq_true rfl)) ga_nil) (Nat.le_of_ble_eq_true rfl)) ga_nil)) (Nat.le_of_ble_eq_true rfl)) ?_)))⟩
  show Vl.tup [.int n, .tup [.tup [.tup (hs.map fun o => .tup [eI o, .int 0]), .int out, .tup (cs.map fun o => .tup [eI o, .int 0])]]] = Vl.tup [.int n, .tup [.tup [.tup ((hs.map fun o => ((o, 0) : Mi.Mv)).map eMv), .int out, .tup ((cs.map fun o => ((o, 0) : Mi.Mv)).map eMv)]]]
  rw [List.map_map, List.map_map]; rfl
end
end G
set_option maxHeartbeats 4000000
/-! F18: queue, recent, newest. -/
namespace G
open PySem PySem.Spec PyProof.Rows L2 LamX NdefX
theorem rng_nat (n : Nat) : rng 0 (n : Int).toNat = (List.range n).map fun i : Nat => Vl.int (i : Int) := by
  unfold rng
  rw [Int.toNat_natCast]
  refine List.map_congr_left fun i _ => ?_
  show Vl.int (0 + (i : Int)) = _
  rw [Int.zero_add]
theorem rep_flat {α : Type} (x : α) : ∀ n : Nat, (List.replicate n [x]).flatten = List.replicate n x
  | 0 => rfl
  | n + 1 => by rw [List.replicate_succ, List.flatten_cons, rep_flat x n, List.replicate_succ]; rfl
section
variable {P : Program} {w : World} {K : PySem.W.Frag} {mg : Str → Option Value} {base : Heap} {T : List NTab} {f : Addr} {fd : FuncData}
def preQueue (xs : List Vl) (y : Vl) : Prop := ∃ n : Nat, xs = [.int n] ∧ 1 ≤ n ∧ n ≤ 3 ∧ y = eRl (Mi.queueR n)
def preRecent (xs : List Vl) (y : Vl) : Prop := ∃ n : Nat, xs = [.int n] ∧ 1 ≤ n ∧ n ≤ 3 ∧ y = eRl (Mi.recentR n)
def preNewest (xs : List Vl) (y : Vl) : Prop := ∃ n : Nat, xs = [.int n] ∧ 1 ≤ n ∧ n ≤ 3 ∧ y = eRl (Mi.newestR n)
abbrev frV (n : Nat) : Vl := .lst ((List.range n).map fun i => eI (Mi.frontO i n))
theorem frV_eq (n : Nat) : frV n = .lst ((Mi.fronts n).map eI) := by
  unfold frV Mi.fronts
  rw [List.map_map]; rfl
theorem ok_queue (F : Fun K "_law_queue" "_law_queue" sQueue f fd) (Gm : Gf mg) (F1 : D P w K mg base T 1 "_law_front" ["_law_place", "_law_places"] preFront) (F2 : D P w K mg base T 1 "_law_one_label" ["_law_places", "_law_hit_orders", "_law_out", "_law_come_orders"] preOneL) : FnOk P w K mg base CX0 2 f fd ["_law_places"] (spV K T preQueue) := by
  refine okV F scQueue (fun xs y ⟨_, e, _⟩ => by rw [e]; rfl) fun cdv A outer s H E B xs y hT hr ⟨n, e1, h1, h3, e2⟩ => ?_
  subst e1 e2 hT
  have hl := (Mi.fronts_ok n).1
  refine ⟨_, grs_cons (gs_lc (i := 1) (T := .nm 2) (own := [("_law_place", 2)]) (as := List.range n) (fun i : Nat => .int (i : Int)) (fun i => eI (Mi.frontO i n)) rfl scQueue.nd rfl rfl rfl (by rw [← rng_nat]; exact gi_rng1 (j := n) rfl Gm.range (ga_cons (gv 0) ga_nil) (by omega)) (blkOk_by (N := nQueue) (sc := defScope sQueue) (by decide +kernel)) (fun _ _ _ _ _ => pg_name scQueue.nd rfl (Or.inl rfl)) (fun s H C cl fp a ha => ge_call F1 hr (by omega) rfl (ga_cons (gv 2) (ga_cons (gv 0) ga_nil)) ⟨a, n, rfl, by omega, rfl⟩) (by rw [List.length_range, sizeLine_eq]; omega) (fun _ _ => trivial) (fun j hj => by
      have : j = 2 := by simpa [Tg.idx] using hj
      subst this
      exact ⟨Nat.le_of_ble_eq_true rfl, by simp⟩) (Nat.le_of_ble_eq_true rfl))
    (grs_one (gr_ret (ge_call F2 hr (by omega) rfl (ga_cons (gv 0) (ga_cons (go_v (go_repL (n := n) (xs := [eI (Mi.rangeI n)]) (go_v (go_lst (ga_cons (g_tupRg (n := n) Gm rfl (gv 0) (by omega)) ga_nil) (Nat.le_of_ble_eq_true rfl))) (gv 0) (by omega) (by omega) (by rw [sizeLine_eq]; simp; omega))) (ga_cons (ge_sub (gv 0) ge_int) (ga_cons (gv 1) ga_nil)))) ⟨n, List.replicate n (Mi.rangeI n), Mi.fronts n, (n : Int) - 1, ?_, by rw [List.length_replicate]; omega, by omega, rfl⟩)))⟩
  rw [← frV_eq, List.map_replicate, Int.toNat_natCast, rep_flat]
theorem ok_recent (F : Fun K "_law_recent" "_law_recent" sRecent f fd) (Gm : Gf mg) (F1 : D P w K mg base T 1 "_law_front" ["_law_place", "_law_places"] preFront) (F2 : D P w K mg base T 1 "_law_one_label" ["_law_places", "_law_hit_orders", "_law_out", "_law_come_orders"] preOneL) : FnOk P w K mg base CX0 2 f fd ["_law_places"] (spV K T preRecent) := by
  refine okV F scRecent (fun xs y ⟨_, e, _⟩ => by rw [e]; rfl) fun cdv A outer s H E B xs y hT hr ⟨n, e1, h1, h3, e2⟩ => ?_
  subst e1 e2 hT
  have hl := (Mi.fronts_ok n).1
  refine ⟨_, grs_cons (gs_lc (i := 1) (T := .nm 2) (own := [("_law_place", 2)]) (as := List.range n) (fun i : Nat => .int (i : Int)) (fun i => eI (Mi.frontO i n)) rfl scRecent.nd rfl rfl rfl (by rw [← rng_nat]; exact gi_rng1 (j := n) rfl Gm.range (ga_cons (gv 0) ga_nil) (by omega)) (blkOk_by (N := nQueue) (sc := defScope sRecent) (by decide +kernel)) (fun _ _ _ _ _ => pg_name scRecent.nd rfl (Or.inl rfl)) (fun s H C cl fp a ha => ge_call F1 hr (by omega) rfl (ga_cons (gv 2) (ga_cons (gv 0) ga_nil)) ⟨a, n, rfl, by omega, rfl⟩) (by rw [List.length_range, sizeLine_eq]; omega) (fun _ _ => trivial) (fun j hj => by
      have : j = 2 := by simpa [Tg.idx] using hj
      subst this
      exact ⟨Nat.le_of_ble_eq_true rfl, by simp⟩) (Nat.le_of_ble_eq_true rfl))
    (grs_one (gr_ret (ge_call F2 hr (by omega) rfl (ga_cons (gv 0) (ga_cons (gv 1) (ga_cons (ge_sub (gv 0) ge_int) (ga_cons (gv 1) ga_nil)))) ⟨n, Mi.fronts n, Mi.fronts n, (n : Int) - 1, ?_, by omega, by omega, rfl⟩)))⟩
  rw [← frV_eq]
theorem ok_newest (F : Fun K "_law_newest" "_law_newest" sNewest f fd) (Gm : Gf mg) (F1 : D P w K mg base T 1 "_law_front" ["_law_place", "_law_places"] preFront) (F2 : D P w K mg base T 1 "_law_one_label" ["_law_places", "_law_hit_orders", "_law_out", "_law_come_orders"] preOneL) : FnOk P w K mg base CX0 2 f fd ["_law_places"] (spV K T preNewest) := by
  refine okV F scNewest (fun xs y ⟨_, e, _⟩ => by rw [e]; rfl) fun cdv A outer s H E B xs y hT hr ⟨n, e1, h1, h3, e2⟩ => ?_
  subst e1 e2 hT
  have hl := (Mi.fronts_ok n).1
  refine ⟨_, grs_cons (gs_lc (i := 1) (T := .nm 2) (own := [("_law_place", 2)]) (as := List.range n) (fun i : Nat => .int (i : Int)) (fun i => eI (Mi.frontO i n)) rfl scNewest.nd rfl rfl rfl (by rw [← rng_nat]; exact gi_rng1 (j := n) rfl Gm.range (ga_cons (gv 0) ga_nil) (by omega)) (blkOk_by (N := nQueue) (sc := defScope sNewest) (by decide +kernel)) (fun _ _ _ _ _ => pg_name scNewest.nd rfl (Or.inl rfl)) (fun s H C cl fp a ha => ge_call F1 hr (by omega) rfl (ga_cons (gv 2) (ga_cons (gv 0) ga_nil)) ⟨a, n, rfl, by omega, rfl⟩) (by rw [List.length_range, sizeLine_eq]; omega) (fun _ _ => trivial) (fun j hj => by
      have : j = 2 := by simpa [Tg.idx] using hj
      subst this
      exact ⟨Nat.le_of_ble_eq_true rfl, by simp⟩) (Nat.le_of_ble_eq_true rfl))
    (grs_one (gr_ret (ge_call F2 hr (by omega) rfl (ga_cons (gv 0) (ga_cons (gv 1) (ga_cons ge_int (ga_cons (gv 1) ga_nil)))) ⟨n, Mi.fronts n, Mi.fronts n, 0, ?_, by omega, by omega, rfl⟩)))⟩
  rw [← frV_eq]
end
end G
set_option maxHeartbeats 4000000
/-! F19: mixed, pick. -/
namespace G
open PySem PySem.Spec PyProof.Rows L2 LamX NdefX
abbrev sMixed : Stmt := topS 81
abbrev nMixed : List Str := ["_law_pen_here", "_law_things", "_law_rest", "_law_found", "_law_turn"]
theorem scMixed : FnScope nMixed ["_law_pen_here", "_law_things"] (defScope sMixed) := ⟨rfl, rfl, rfl, by decide +kernel, rfl, by decide +kernel, by decide +kernel⟩
abbrev sPick : Stmt := topS 84
theorem scPick : FnScope ["_law_pen_here", "_law_things"] ["_law_pen_here", "_law_things"] (defScope sPick) := ⟨rfl, rfl, rfl, by decide +kernel, rfl, by decide +kernel, by decide +kernel⟩
theorem erase_perm : ∀ (l : List Int) (k : Nat) (h : k < l.length), (l[k] :: l.eraseIdx k).Perm l
  | [], _, h => by simp at h
  | x :: l, 0, _ => List.Perm.refl _
  | x :: l, k + 1, h => by
    have ih := erase_perm l k (by simpa using h)
    show (l[k]'(by simpa using h) :: x :: l.eraseIdx k).Perm (x :: l)
    exact List.Perm.trans (List.Perm.swap ..) (List.Perm.cons _ ih)
theorem map_erase {α β : Type} (g : α → β) : ∀ (l : List α) (k : Nat), (l.map g).eraseIdx k = (l.eraseIdx k).map g
  | [], _ => rfl
  | _ :: _, 0 => rfl
  | x :: l, k + 1 => by
    show g x :: (l.map g).eraseIdx k = g x :: (l.eraseIdx k).map g
    rw [map_erase g l k]
structure Mix where
  r : List Int
  f : List Int
  p : Pen
def Mix.k (m : Mix) : Nat := (drawK m.p m.r.length).toNat
def mixAt (ns : List Int) (p : Pen) : Nat → Mix
  | 0 => ⟨ns, [], p⟩
  | i + 1 => ⟨(mixAt ns p i).r.eraseIdx (mixAt ns p i).k, (mixAt ns p i).f ++ [(mixAt ns p i).r.getD (mixAt ns p i).k 0], drawN (mixAt ns p i).p (mixAt ns p i).r.length⟩
structure MixOk (n : Int) (ns : List Int) (i : Nat) (m : Mix) : Prop where
  pen : PenOk (n + i) m.p
  lr : m.r.length = ns.length - i
  lf : m.f.length = i
  pm : (m.f ++ m.r).Perm ns
theorem mix_k {m : Mix} (h : 0 < m.r.length) : m.k < m.r.length := by
  have := draw_rng m.p (m := m.r.length) (by omega)
  unfold Mix.k
  omega
theorem mixAt_ok {n : Int} {ns : List Int} {p : Pen} (hp : PenOk n p) : ∀ i, i ≤ ns.length → MixOk n ns i (mixAt ns p i)
  | 0, _ => ⟨hp.mono (by omega), rfl, rfl, List.Perm.refl _⟩
  | i + 1, h => by
    have ih := mixAt_ok (ns := ns) hp i (by omega)
    have hl : 0 < (mixAt ns p i).r.length := by rw [ih.lr]; omega
    have hk := mix_k hl
    refine ⟨(ih.pen.draw (by omega)).mono (by omega), ?_, ?_, ?_⟩
    · show ((mixAt ns p i).r.eraseIdx _).length = _
      rw [List.length_eraseIdx, if_pos hk, ih.lr]; omega
    · show ((mixAt ns p i).f ++ [_]).length = _
      rw [List.length_append, ih.lf]; rfl
    · show ((mixAt ns p i).f ++ [(mixAt ns p i).r.getD (mixAt ns p i).k 0] ++ (mixAt ns p i).r.eraseIdx (mixAt ns p i).k).Perm ns
      rw [List.append_assoc]
      refine List.Perm.trans (List.Perm.append_left _ ?_) ih.pm
      have e : (mixAt ns p i).r.getD (mixAt ns p i).k 0 = (mixAt ns p i).r[(mixAt ns p i).k] := by rw [List.getD_eq_getElem?_getD, List.getElem?_eq_getElem hk]; rfl
      rw [e]
      exact erase_perm _ _ hk
def mixF (ns : List Int) (p : Pen) : List Int := (mixAt ns p ns.length).f
def mixN (ns : List Int) (p : Pen) : Pen := (mixAt ns p ns.length).p
theorem mixF_perm {n : Int} {ns : List Int} {p : Pen} (hp : PenOk n p) : (mixF ns p).Perm ns := by
  have h := mixAt_ok hp ns.length (Nat.le_refl _)
  have h1 := h.pm
  have h2 : (mixAt ns p ns.length).r = [] := List.eq_nil_of_length_eq_zero (by rw [h.lr]; omega)
  rw [h2, List.append_nil] at h1
  exact h1
theorem mixN_ok {n : Int} {ns : List Int} {p : Pen} (hp : PenOk n p) : PenOk (n + ns.length) (mixN ns p) := (mixAt_ok hp ns.length (Nat.le_refl _)).pen
section
variable {P : Program} {w : World} {K : PySem.W.Frag} {mg : Str → Option Value} {base : Heap} {T : List NTab} {f : Addr} {fd : FuncData}
abbrev DM (P : Program) (w : World) (K : PySem.W.Frag) (mg : Str → Option Value) (base : Heap) (T : List NTab) (k : Nat) (name : Str) (ps : List Str) (pre : Pen → List Vl → Pen → Vl → Prop) : Prop := FnG P w K mg base k name ps (spM K T pre)
def preMixed (p : Pen) (xs : List Vl) (p' : Pen) (y : Vl) : Prop := ∃ ns : List Int, xs = [.lst (ns.map .int)] ∧ ns.length ≤ 100 ∧ PenOk 900000 p ∧ p' = mixN ns p ∧ y = .lst ((mixF ns p).map .int)
theorem ok_mixed (F : Fun K "_law_mixed" "_law_mixed" sMixed f fd) (Gm : Gf mg) (F1 : DM P w K mg base T 1 "_law_draw" ["_law_pen_here", "_law_many"] preDraw) : FnOk P w K mg base CX0 2 f fd ["_law_pen_here", "_law_things"] (spM K T preMixed) := by
  refine okM F scMixed (fun p xs p' y ⟨_, e, _⟩ => by rw [e]; rfl) fun cdv A outer s H E B l p p' xs y hT hL hr ⟨ns, e1, hn, hp, e2, e3⟩ => ?_
  subst e1 e2 e3 hT
  have ok := fun i hi => mixAt_ok (ns := ns) hp i hi
  let Γf : Nat → List Sl := fun i => [.ow (some l) (penW K (mixAt ns p i).p), .va (.lst (ns.map .int)), .ow none (owL K ((mixAt ns p i).r.map .int)), .ow none (owL K ((mixAt ns p i).f.map .int)), .no]
  refine ⟨[.ow (some l) (penW K (mixN ns p)), .va (.lst (ns.map .int)), .ow none (owL K ((mixAt ns p ns.length).r.map .int)), .va (.lst ((mixF ns p).map .int)), .no], rfl,
    grs_cons (gs_to (Γ2 := Γf 0) (gs_par (i := 2) (j := 3) (gm_o (go_listL (xs := ns.map .int) Gm (gv 1) (by rw [List.length_map, sizeLine_eq]; omega)) (gm_o (go_lst ga_nil (Nat.zero_le _)) gm_nil)) rfl scMixed.nd rfl rfl (by decide) (Nat.le_of_ble_eq_true rfl) (Nat.le_of_ble_eq_true rfl) rfl rfl rfl) rfl)
    (grs_cons (gs_to (Γ2 := Γf ns.length) (gs_for (T := .nm 4) (xs := rng 0 (((ns.map Vl.int).length : Nat) : Int).toNat) Γf PassesOwn.never rfl (gi_rng1 (j := ((ns.map Vl.int).length : Nat)) rfl Gm.range (ga_cons (g_lenL Gm (gv 1)) ga_nil) (by rw [List.length_map]; omega)) (pg_name scMixed.nd rfl (Or.inl rfl)) (fun _ _ => trivial) (fun i hi j hj => ?_) (fun S1 i x hx => ?_)) (by rw [rng_length, List.length_map, Int.toNat_natCast]))
    (grs_freeze (i := 3) rfl owL_lst (grs_one (gr_ret (gv 3)))))⟩
  · have : j = 4 := by simpa [Tg.idx] using hj
    subst this
    exact Nat.le_of_ble_eq_true rfl
  · obtain ⟨hi, ex⟩ := rng_get hx
    subst ex
    rw [List.length_map, Int.toNat_natCast] at hi
    have o := ok i (by omega)
    have hl : 0 < (mixAt ns p i).r.length := by rw [o.lr]; omega
    have hk := mix_k hl
    have hd := draw_rng (mixAt ns p i).p (m := (mixAt ns p i).r.length) (by omega)
    have hlr := o.lr
    have hlf := o.lf
    refine gss_weak (Γ1 := [.ow (some l) (penW K (drawN (mixAt ns p i).p ((((mixAt ns p i).r.map Vl.int).length : Nat) : Int))), .va (.lst (ns.map .int)), .ow none (owL K (((mixAt ns p i).r.map .int).eraseIdx (mixAt ns p i).k)), .ow none (owL K ((mixAt ns p i).f.map .int ++ [.int ((mixAt ns p i).r.getD (mixAt ns p i).k 0)])), .va (.int (0 + (i : Int)))]) (gss_cons (gs_appPop (ip := 0) (i := 3) (r := 2) (y := .int ((mixAt ns p i).r.getD (mixAt ns p i).k 0)) (q := drawK (mixAt ns p i).p (mixAt ns p i).r.length) rfl rfl rfl rfl (by decide) rfl (Or.inl rfl) rfl (Or.inl rfl)
      (gv_is (gv_callM F1 hr (by omega) rfl (gva_of (ga_cons (ge_lenO (i := 2) rfl rfl (Or.inl rfl) rfl Gm.len) ga_nil)) rfl ⟨_, _, rfl⟩ ⟨((((mixAt ns p i).r.map Vl.int).length : Nat) : Int), rfl, by rw [List.length_map]; omega, by rw [List.length_map]; omega, o.pen.mono (by omega), rfl, rfl⟩ hL) (by rw [List.length_map])) hd.1 (by rw [List.length_map]; exact hk) (by rw [List.length_map]; omega) ?_ (by rw [List.length_map, sizeLine_eq]; omega)) gss_nil) ?_
    · show ((mixAt ns p i).r.map Vl.int)[(mixAt ns p i).k]? = _
      rw [List.getElem?_map, List.getElem?_eq_getElem hk, List.getD_eq_getElem?_getD, List.getElem?_eq_getElem hk]; rfl
    · have e : Γf (i + 1) = [.ow (some l) (penW K (drawN (mixAt ns p i).p ((((mixAt ns p i).r.map Vl.int).length : Nat) : Int))), .va (.lst (ns.map .int)), .ow none (owL K (((mixAt ns p i).r.map .int).eraseIdx (mixAt ns p i).k)), .ow none (owL K ((mixAt ns p i).f.map .int ++ [.int ((mixAt ns p i).r.getD (mixAt ns p i).k 0)])), .no] := by
        show [Sl.ow (some l) (penW K (drawN (mixAt ns p i).p (mixAt ns p i).r.length)), _, Sl.ow none (owL K (((mixAt ns p i).r.eraseIdx (mixAt ns p i).k).map .int)), Sl.ow none (owL K (((mixAt ns p i).f ++ [(mixAt ns p i).r.getD (mixAt ns p i).k 0]).map .int)), _] = _
        rw [List.length_map, List.map_append, map_erase]; rfl
      rw [e]
      exact ⟨.inr rfl, .inr rfl, .inr rfl, .inr rfl, .inl rfl, trivial⟩
end
end G
set_option maxHeartbeats 4000000
/-! F20: pick, moves. -/
namespace G
open PySem PySem.Spec PyProof.Rows L2 LamX NdefX
abbrev sLMoves : Stmt := topS 82
abbrev nLMoves : List Str := ["_law_pen_here", "_law_places", "_law_labels", "_law_found", "_law_place", "_law_order"]
theorem scLMoves : FnScope nLMoves ["_law_pen_here", "_law_places", "_law_labels"] (defScope sLMoves) := ⟨rfl, rfl, rfl, by decide +kernel, rfl, by decide +kernel, by decide +kernel⟩
theorem gv_tud {X : Cx} {B : Bs} {ip : Nat} {Γ Γ' : List Sl} {e : Expr} {xs : List Vl} (h : GV X B ip Γ e Γ' (.tud xs)) : GV X B ip Γ e Γ' (.tup xs) := PE_imp h fun σ H Q ⟨S, en, k⟩ => ⟨S, en, fun v S1 H1 e1 t1 ⟨a, vs, o, q1, q2, q4, q3⟩ => k v S1 H1 e1 t1 ⟨a, vs, q1, .inl (.inr ⟨o, q2⟩), q3⟩⟩
def ordO (n : Nat) (p : Pen) : List Int := if drawK p 3 = 0 then Mi.rangeI n else mixF (Mi.rangeI n) (drawN p 3)
def ordN (n : Nat) (p : Pen) : Pen := if drawK p 3 = 0 then drawN p 3 else mixN (Mi.rangeI n) (drawN p 3)
theorem ord_ok {c : Int} {n : Nat} {p : Pen} (hp : PenOk c p) : Mi.okOrder n (ordO n p) ∧ PenOk (c + 1 + n) (ordN n p) := by
  have h1 := hp.draw (m := 3) (by decide)
  unfold ordO ordN
  split
  · exact ⟨Mi.rangeI_ok n, h1.mono (by omega)⟩
  · refine ⟨?_, ?_⟩
    · unfold Mi.okOrder
      rw [Int.toNat_natCast]
      exact mixF_perm h1
    · have := mixN_ok (ns := Mi.rangeI n) h1
      rw [Mi.rangeI_length] at this
      exact this
structure Mvs where
  f : List Mi.Mv
  p : Pen
def movAt (n : Nat) (L : Int) (p : Pen) : Nat → Mvs
  | 0 => ⟨[], p⟩
  | i + 1 => ⟨(movAt n L p i).f ++ [(ordO n (movAt n L p i).p, drawK (ordN n (movAt n L p i).p) L)], drawN (ordN n (movAt n L p i).p) L⟩
theorem movAt_ok {c : Int} {n : Nat} {L : Int} {p : Pen} (hL : 0 < L) (hp : PenOk c p) : ∀ i : Nat, PenOk (c + (n + 2) * i) (movAt n L p i).p ∧ (movAt n L p i).f.length = i ∧ ∀ m ∈ (movAt n L p i).f, Mi.okMv n L m
  | 0 => ⟨hp.mono (by simp), rfl, fun m hm => by cases hm⟩
  | i + 1 => by
    obtain ⟨h1, h2, h3⟩ := movAt_ok hL hp i
    obtain ⟨h4, h5⟩ := ord_ok (n := n) h1
    refine ⟨(h5.draw hL).mono ?_, ?_, fun m hm => ?_⟩
    · have : ((n : Int) + 2) * ((i + 1 : Nat) : Int) = (n + 2) * i + (n + 2) := by rw [Int.natCast_succ, Int.mul_add, Int.mul_one]
      rw [this]; omega
    · show ((movAt n L p i).f ++ [_]).length = _
      rw [List.length_append, h2]; rfl
    · rcases List.mem_append.mp (show m ∈ (movAt n L p i).f ++ [_] from hm) with hm | hm
      · exact h3 m hm
      · rw [List.mem_singleton.mp hm]
        exact ⟨h4, (draw_rng _ hL).1, (draw_rng _ hL).2⟩
section
variable {P : Program} {w : World} {K : PySem.W.Frag} {mg : Str → Option Value} {base : Heap} {T : List NTab} {f : Addr} {fd : FuncData}
def prePick (p : Pen) (xs : List Vl) (p' : Pen) (y : Vl) : Prop := ∃ ts : List Vl, xs = [.lst ts] ∧ 0 < ts.length ∧ ts.length ≤ 1000 ∧ PenOk 1000000 p ∧ p' = drawN p ts.length ∧ ts[(drawK p ts.length).toNat]? = some y
theorem ok_pick (F : Fun K "_law_pick" "_law_pick" sPick f fd) (Gm : Gf mg) (F1 : DM P w K mg base T 1 "_law_draw" ["_law_pen_here", "_law_many"] preDraw) : FnOk P w K mg base CX0 2 f fd ["_law_pen_here", "_law_things"] (spM K T prePick) := by
  refine okM F scPick (fun p xs p' y ⟨_, e, _⟩ => by rw [e]; rfl) fun cdv A outer s H E B l p p' xs y hT hL hr ⟨ts, e1, h0, h1, hp, e2, hy⟩ => ?_
  subst e1 e2 hT
  have hd := draw_rng p (m := (ts.length : Int)) (by omega)
  refine ⟨[.ow (some l) (penW K (drawN p ts.length)), .va (.lst ts)], rfl, grs_one (gr_retV (ip := 0) (gv_ixL (gv_of (gv 1)) (gv_callM (X := bX P w K mg base ["_law_pen_here", "_law_things"] "_law_pick" sPick f cdv A outer s H E) (B := B) F1 hr (by omega) rfl (gva_of (ga_cons (g_lenL Gm (gv 1)) ga_nil)) rfl ⟨_, _, rfl⟩ ⟨(ts.length : Nat), rfl, by omega, by omega, hp, rfl, rfl⟩ hL) ?_))⟩
  have e : drawK p (ts.length : Int) = (((drawK p (ts.length : Int)).toNat : Nat) : Int) := by omega
  rw [e]
  exact atI_nat hy
def preMovesL (p : Pen) (xs : List Vl) (p' : Pen) (y : Vl) : Prop := ∃ (n : Nat) (L : Int), xs = [.int n, .int L] ∧ 1 ≤ n ∧ n ≤ 3 ∧ 0 < L ∧ L ≤ 3 ∧ PenOk 800000 p ∧ p' = (movAt n L p n).p ∧ y = .tup ((movAt n L p n).f.map eMv)
theorem ok_movesL (F : Fun K "_law_moves" "_law_moves" sLMoves f fd) (Gm : Gf mg) (F1 : DM P w K mg base T 1 "_law_draw" ["_law_pen_here", "_law_many"] preDraw) (F2 : DM P w K mg base T 2 "_law_mixed" ["_law_pen_here", "_law_things"] preMixed) : FnOk P w K mg base CX0 3 f fd ["_law_pen_here", "_law_places", "_law_labels"] (spM K T preMovesL) := by
  refine okM F scLMoves (fun p xs p' y ⟨_, _, e, _⟩ => by rw [e]; rfl) fun cdv A outer s H E B l p p' xs y hT hL hr ⟨n, L, e1, h1, h3, hL0, hL3, hp, e2, e3⟩ => ?_
  subst e1 e2 e3 hT
  have ok := fun i => movAt_ok (n := n) hL0 hp i
  let Γf : Nat → List Sl := fun i => [.ow (some l) (penW K (movAt n L p i).p), .va (.int n), .va (.int L), .ow none (owL K ((movAt n L p i).f.map eMv)), .no, .no]
  refine ⟨[.ow (some l) (penW K (movAt n L p n).p), .va (.int n), .va (.int L), .va (.lst ((movAt n L p n).f.map eMv)), .no, .no], rfl,
    grs_cons (gs_to (Γ2 := Γf 0) (gs_asgO (i := 3) (o := owL K []) (go_lst ga_nil (Nat.zero_le _)) (Nat.le_of_ble_eq_true rfl) scLMoves.nd rfl (Or.inl rfl)) rfl)
    (grs_cons (gs_to (Γ2 := Γf n) (gs_for (T := .nm 4) (xs := rng 0 (n : Int).toNat) Γf PassesOwn.never rfl (gi_rng1 (j := n) rfl Gm.range (ga_cons (gv 1) ga_nil) (by omega)) (pg_name scLMoves.nd rfl (Or.inl rfl)) (fun _ _ => trivial) (fun i hi j hj => ?_) (fun S1 i x hx => ?_)) (by rw [rng_length, Int.toNat_natCast]))
    (grs_freeze (i := 3) rfl owL_lst (grs_one (gr_ret (ge_tud (g_tupL Gm (gv 3)))))))⟩
  · have : j = 4 := by simpa [Tg.idx] using hj
    subst this
    exact Nat.le_of_ble_eq_true rfl
  · obtain ⟨hi, ex⟩ := rng_get hx
    subst ex
    rw [Int.toNat_natCast] at hi
    obtain ⟨o1, o2, o3⟩ := ok i
    have hcap : PenOk 800050 (movAt n L p i).p := o1.mono (by
      have hi3 : i ≤ 2 := by omega
      have hn3 : n ≤ 3 := h3
      have : ((n : Int) + 2) * (i : Int) ≤ 5 * 2 := Int.mul_le_mul (by omega) (by omega) (by omega) (by omega)
      omega)
    generalize hq : movAt n L p i = q at o2 o3 hcap
    have e0 : Γf i = [.ow (some l) (penW K q.p), .va (.int n), .va (.int L), .ow none (owL K (q.f.map eMv)), .no, .no] := by
      show [Sl.ow (some l) (penW K (movAt n L p i).p), _, _, Sl.ow none (owL K ((movAt n L p i).f.map eMv)), _, _] = _
      rw [hq]
    have e1 : Γf (i + 1) = [.ow (some l) (penW K (drawN (ordN n q.p) L)), .va (.int n), .va (.int L), .ow none (owL K (q.f.map eMv ++ [.tup [eI (ordO n q.p), .int (drawK (ordN n q.p) L)]])), .no, .no] := by
      show [Sl.ow (some l) (penW K (drawN (ordN n (movAt n L p i).p) L)), _, _, Sl.ow none (owL K (((movAt n L p i).f ++ [(ordO n (movAt n L p i).p, drawK (ordN n (movAt n L p i).p) L)]).map eMv)), _, _] = _
      rw [hq, List.map_append]; rfl
    rw [e0, e1]
    obtain ⟨h4, h5⟩ := ord_ok (n := n) hcap
    have hd3 := hcap.draw (m := 3) (by decide)
    refine gss_weak (Γ1 := [.ow (some l) (penW K (drawN (ordN n q.p) L)), .va (.int n), .va (.int L), .ow none (owL K (q.f.map eMv ++ [.tup [eI (ordO n q.p), .int (drawK (ordN n q.p) L)]])), .va (.int (0 + (i : Int))), .va (eI (ordO n q.p))]) (gss_cons (gs_to (Γ2 := [.ow (some l) (penW K (ordN n q.p)), .va (.int n), .va (.int L), .ow none (owL K (q.f.map eMv)), .va (.int (0 + (i : Int))), .va (eI (ordO n q.p))]) (gs_asgV (ip := 0) (i := 5) (y := eI (ordO n q.p)) (Γ1 := [.ow (some l) (penW K (ordN n q.p)), .va (.int n), .va (.int L), .ow none (owL K (q.f.map eMv)), .va (.int (0 + (i : Int))), .no]) ?ord (Nat.le_of_ble_eq_true rfl) scLMoves.nd rfl (Or.inl rfl)) rfl)
      (gss_cons (gs_to (gs_appV (ip := 0) (i := 3) (Γ1 := [.ow (some l) (penW K (drawN (ordN n q.p) L)), .va (.int n), .va (.int L), .ow none (owL K (q.f.map eMv)), .va (.int (0 + (i : Int))), .va (eI (ordO n q.p))]) (x := .tup [eI (ordO n q.p), .int (drawK (ordN n q.p) L)]) rfl rfl rfl (Or.inl rfl)
        (gv_tup (gva_cons (gv_of (gv 5)) (gva_cons (gv_callM F1 hr (by omega) rfl (gva_of (ga_cons (gv 2) ga_nil)) rfl ⟨_, _, rfl⟩ ⟨L, rfl, hL0, by omega, h5.mono (by omega), rfl, rfl⟩ hL) gva_nil)) (Nat.le_of_ble_eq_true rfl)) (by rw [List.length_map, o2, sizeLine_eq]; omega) (fun l z => by cases z)) rfl) gss_nil)) ⟨.inr rfl, .inr rfl, .inr rfl, .inr rfl, .inl rfl, .inl rfl, trivial⟩
    case ord =>
      by_cases h0 : drawK q.p 3 = 0
      · have eO : ordO n q.p = Mi.rangeI n := by unfold ordO; rw [if_pos h0]
        have eN : ordN n q.p = drawN q.p 3 := by unfold ordN; rw [if_pos h0]
        rw [eO, eN]
        exact gv_ifT (by
          have := decide_eq_true h0
          rw [← this]
          exact gvt_eqI (gv_callM F1 hr (by omega) rfl (gva_of (ga_cons ge_int ga_nil)) rfl ⟨_, _, rfl⟩ ⟨3, rfl, by decide, by decide, hcap.mono (by omega), rfl, rfl⟩ hL) (gv_of ge_int)) (gv_of (g_tupRg (n := n) Gm rfl (gv 1) (by omega)))
      · have eO : ordO n q.p = mixF (Mi.rangeI n) (drawN q.p 3) := by unfold ordO; rw [if_neg h0]
        have eN : ordN n q.p = mixN (Mi.rangeI n) (drawN q.p 3) := by unfold ordN; rw [if_neg h0]
        rw [eO, eN]
        exact gv_ifF (Γ1 := [.ow (some l) (penW K (drawN q.p 3)), .va (.int n), .va (.int L), .ow none (owL K (q.f.map eMv)), .va (.int (0 + (i : Int))), .no]) (by
          have := decide_eq_false h0
          rw [← this]
          exact gvt_eqI (gv_callM F1 hr (by omega) rfl (gva_of (ga_cons ge_int ga_nil)) rfl ⟨_, _, rfl⟩ ⟨3, rfl, by decide, by decide, hcap.mono (by omega), rfl, rfl⟩ hL) (gv_of ge_int))
          (gv_tud (gv_tupL Gm (gv_callM (X := bX P w K mg base nLMoves "_law_moves" sLMoves f cdv A outer s H E) (B := B.up S1) F2 hr (by omega) rfl (gva_of (ga_cons (go_v (g_lstRg (n := n) Gm rfl (gv 1) (by omega))) ga_nil)) rfl ⟨_, _, rfl⟩ ⟨Mi.rangeI n, rfl, by rw [Mi.rangeI_length]; omega, hd3.mono (by omega), rfl, rfl⟩ hL)))
end
end G
set_option maxHeartbeats 4000000
/-! F21: drawn. -/
namespace G
open PySem PySem.Spec PyProof.Rows L2 LamX NdefX
abbrev sDrawn : Stmt := topS 83
abbrev nDrawn : List Str := ["_law_pen_here", "_law_places", "_law_labels", "_law_rows", "_law_turn", "_law_at_hits", "_law_out"]
theorem scDrawn : FnScope nDrawn ["_law_pen_here", "_law_places", "_law_labels"] (defScope sDrawn) := ⟨rfl, rfl, rfl, by decide +kernel, rfl, by decide +kernel, by decide +kernel⟩
structure Drs where
  f : List Mi.LR
  p : Pen
def rowOf (n : Nat) (L : Int) (p : Pen) : Mi.LR := ⟨(movAt n L p n).f, drawK (movAt n L p n).p n, (movAt n L (drawN (movAt n L p n).p n) n).f⟩
def rowN (n : Nat) (L : Int) (p : Pen) : Pen := (movAt n L (drawN (movAt n L p n).p n) n).p
def drAt (n : Nat) (L : Int) (p : Pen) : Nat → Drs
  | 0 => ⟨[], p⟩
  | i + 1 => ⟨(drAt n L p i).f ++ [rowOf n L (drAt n L p i).p], rowN n L (drAt n L p i).p⟩
theorem row_ok {c : Int} {n : Nat} {L : Int} {p : Pen} (h1 : 1 ≤ n) (h3 : n ≤ 3) (hL : 0 < L) (hp : PenOk c p) : Mi.okLR n L (rowOf n L p) ∧ PenOk (c + 15) (movAt n L p n).p ∧ PenOk (c + 16) (drawN (movAt n L p n).p n) ∧ PenOk (c + 31) (rowN n L p) := by
  obtain ⟨a1, a2, a3⟩ := movAt_ok (n := n) hL hp n
  have e : ((n : Int) + 2) * (n : Int) ≤ 5 * 3 := Int.mul_le_mul (by omega) (by omega) (by omega) (by omega)
  have a4 : PenOk (c + 15) (movAt n L p n).p := a1.mono (by omega)
  have a5 : PenOk (c + 16) (drawN (movAt n L p n).p n) := (a4.draw (m := n) (by omega)).mono (by omega)
  obtain ⟨b1, b2, b3⟩ := movAt_ok (n := n) hL a5 n
  have hd := draw_rng (movAt n L p n).p (m := (n : Int)) (by omega)
  exact ⟨⟨by show ((movAt n L p n).f.length : Int) = n; rw [a2], a3, hd, by show (((movAt n L (drawN (movAt n L p n).p n) n).f).length : Int) = n; rw [b2], b3⟩, a4, a5, b1.mono (by omega)⟩
theorem drAt_ok {c : Int} {n : Nat} {L : Int} {p : Pen} (h1 : 1 ≤ n) (h3 : n ≤ 3) (hL : 0 < L) (hp : PenOk c p) : ∀ i : Nat, PenOk (c + 31 * i) (drAt n L p i).p ∧ (drAt n L p i).f.length = i ∧ ∀ r ∈ (drAt n L p i).f, Mi.okLR n L r
  | 0 => ⟨hp.mono (by omega), rfl, fun m hm => by cases hm⟩
  | i + 1 => by
    obtain ⟨a1, a2, a3⟩ := drAt_ok h1 h3 hL hp i
    obtain ⟨b1, _, _, b4⟩ := row_ok h1 h3 hL a1
    refine ⟨b4.mono (by omega), ?_, fun m hm => ?_⟩
    · show ((drAt n L p i).f ++ [_]).length = _
      rw [List.length_append, a2]; rfl
    · rcases List.mem_append.mp (show m ∈ (drAt n L p i).f ++ [_] from hm) with hm | hm
      · exact a3 m hm
      · rw [List.mem_singleton.mp hm]; exact b1
def drawnR (n L : Nat) (p : Pen) : Mi.Rl := ⟨n, (drAt n L p L).f⟩
def drawnN (n L : Nat) (p : Pen) : Pen := (drAt n L p L).p
theorem drawn_ok {c : Int} {n L : Nat} {p : Pen} (h1 : 1 ≤ n) (h3 : n ≤ 3) (hL : 1 ≤ L) (hL2 : L ≤ 2) (hp : PenOk c p) : Mi.okRl (drawnR n L p) ∧ PenOk (c + 62) (drawnN n L p) := by
  obtain ⟨a1, a2, a3⟩ := drAt_ok (L := (L : Int)) h1 h3 (by omega) hp L
  refine ⟨⟨⟨by show (1 : Int) ≤ n; omega, by show (n : Int) ≤ 3; omega⟩, ⟨by show 1 ≤ (drAt n L p L).f.length; omega, by show (drAt n L p L).f.length ≤ 2; omega⟩, fun r hr => ?_⟩, a1.mono (by omega)⟩
  have := a3 r hr
  show Mi.okLR n ((drAt n L p L).f.length : Nat) r
  rw [a2]; exact this
section
variable {P : Program} {w : World} {K : PySem.W.Frag} {mg : Str → Option Value} {base : Heap} {T : List NTab} {f : Addr} {fd : FuncData}
def preDrawn (p : Pen) (xs : List Vl) (p' : Pen) (y : Vl) : Prop := ∃ n L : Nat, xs = [.int n, .int L] ∧ 1 ≤ n ∧ n ≤ 3 ∧ 1 ≤ L ∧ L ≤ 2 ∧ PenOk 700000 p ∧ p' = drawnN n L p ∧ y = eRl (drawnR n L p)
theorem ok_drawn (F : Fun K "_law_drawn" "_law_drawn" sDrawn f fd) (Gm : Gf mg) (F1 : DM P w K mg base T 1 "_law_draw" ["_law_pen_here", "_law_many"] preDraw) (F2 : DM P w K mg base T 3 "_law_moves" ["_law_pen_here", "_law_places", "_law_labels"] preMovesL) : FnOk P w K mg base CX0 4 f fd ["_law_pen_here", "_law_places", "_law_labels"] (spM K T preDrawn) := by
  refine okM F scDrawn (fun p xs p' y ⟨_, _, e, _⟩ => by rw [e]; rfl) fun cdv A outer s H E B l p p' xs y hT hL hr ⟨n, L, e1, h1, h3, hL0, hL2, hp, e2, e3⟩ => ?_
  subst e1 e2 e3 hT
  have ok := fun i => drAt_ok (L := (L : Int)) h1 h3 (by omega) hp i
  let Γf : Nat → List Sl := fun i => [.ow (some l) (penW K (drAt n L p i).p), .va (.int n), .va (.int L), .ow none (owL K ((drAt n L p i).f.map eLR)), .no, .no, .no]
  refine ⟨[.ow (some l) (penW K (drawnN n L p)), .va (.int n), .va (.int L), .va (.lst ((drAt n L p L).f.map eLR)), .no, .no, .no], rfl,
    grs_cons (gs_to (Γ2 := Γf 0) (gs_asgO (i := 3) (o := owL K []) (go_lst ga_nil (Nat.zero_le _)) (Nat.le_of_ble_eq_true rfl) scDrawn.nd rfl (Or.inl rfl)) rfl)
    (grs_cons (gs_to (Γ2 := Γf L) (gs_for (T := .nm 4) (xs := rng 0 (L : Int).toNat) Γf PassesOwn.never rfl (gi_rng1 (j := L) rfl Gm.range (ga_cons (gv 2) ga_nil) (by omega)) (pg_name scDrawn.nd rfl (Or.inl rfl)) (fun _ _ => trivial) (fun i hi j hj => ?_) (fun S1 i x hx => ?_)) (by rw [rng_length, Int.toNat_natCast]))
    (grs_freeze (i := 3) rfl owL_lst (grs_one (gr_ret (ge_tup (ga_cons (gv 1) (ga_cons (ge_tud (g_tupL Gm (gv 3))) ga_nil)) (Nat.le_of_ble_eq_true rfl))))))⟩
  · have : j = 4 := by simpa [Tg.idx] using hj
    subst this
    exact Nat.le_of_ble_eq_true rfl
  · obtain ⟨hi, ex⟩ := rng_get hx
    subst ex
    rw [Int.toNat_natCast] at hi
    obtain ⟨o1, o2, o3⟩ := ok i
    have hcap : PenOk 700040 (drAt n L p i).p := o1.mono (by omega)
    generalize hq : drAt n L p i = q at o2 o3 hcap
    have e0 : Γf i = [.ow (some l) (penW K q.p), .va (.int n), .va (.int L), .ow none (owL K (q.f.map eLR)), .no, .no, .no] := by
      show [Sl.ow (some l) (penW K (drAt n L p i).p), _, _, Sl.ow none (owL K ((drAt n L p i).f.map eLR)), _, _, _] = _
      rw [hq]
    have e1 : Γf (i + 1) = [.ow (some l) (penW K (rowN n L q.p)), .va (.int n), .va (.int L), .ow none (owL K (q.f.map eLR ++ [eLR (rowOf n L q.p)])), .no, .no, .no] := by
      show [Sl.ow (some l) (penW K (rowN n L (drAt n L p i).p)), _, _, Sl.ow none (owL K (((drAt n L p i).f ++ [rowOf n L (drAt n L p i).p]).map eLR)), _, _, _] = _
      rw [hq, List.map_append]; rfl
    rw [e0, e1]
    obtain ⟨r1, r2, r3, r4⟩ := row_ok (L := (L : Int)) h1 h3 (by omega) hcap
    let hv : Vl := .tup ((movAt n L q.p n).f.map eMv)
    let ov : Vl := .int (drawK (movAt n L q.p n).p n)
    refine gss_weak (Γ1 := [.ow (some l) (penW K (rowN n L q.p)), .va (.int n), .va (.int L), .ow none (owL K (q.f.map eLR ++ [eLR (rowOf n L q.p)])), .va (.int (0 + (i : Int))), .va hv, .va ov])
      (gss_cons (gs_to (Γ2 := [.ow (some l) (penW K (drawN (movAt n L q.p n).p n)), .va (.int n), .va (.int L), .ow none (owL K (q.f.map eLR)), .va (.int (0 + (i : Int))), .va hv, .va ov]) (gs_parV (ip := 0) (i := 5) (j := 6) (x := hv) (y := ov) (Γ1 := [.ow (some l) (penW K (drawN (movAt n L q.p n).p n)), .va (.int n), .va (.int L), .ow none (owL K (q.f.map eLR)), .va (.int (0 + (i : Int))), .no, .no])
        (gva_cons (Γ1 := [.ow (some l) (penW K (movAt n L q.p n).p), .va (.int n), .va (.int L), .ow none (owL K (q.f.map eLR)), .va (.int (0 + (i : Int))), .no, .no]) (gv_callM (X := bX P w K mg base nDrawn "_law_drawn" sDrawn f cdv A outer s H E) (B := B.up S1) F2 hr (by omega) rfl (gva_of (ga_cons (gv 1) (ga_cons (gv 2) ga_nil))) rfl ⟨_, _, rfl⟩ ⟨n, L, rfl, h1, h3, by omega, by omega, hcap.mono (by omega), rfl, rfl⟩ hL)
          (gva_cons (gv_callM (X := bX P w K mg base nDrawn "_law_drawn" sDrawn f cdv A outer s H E) (B := B.up S1) F1 hr (by omega) rfl (gva_of (ga_cons (gv 1) ga_nil)) rfl ⟨_, _, rfl⟩ ⟨n, rfl, by omega, by omega, r2.mono (by omega), rfl, rfl⟩ hL) gva_nil)) rfl scDrawn.nd rfl rfl (by decide) (Nat.le_of_ble_eq_true rfl) (Nat.le_of_ble_eq_true rfl) rfl rfl rfl) rfl)
      (gss_cons (gs_to (gs_appV (ip := 0) (i := 3) (Γ1 := [.ow (some l) (penW K (rowN n L q.p)), .va (.int n), .va (.int L), .ow none (owL K (q.f.map eLR)), .va (.int (0 + (i : Int))), .va hv, .va ov]) (x := eLR (rowOf n L q.p)) rfl rfl rfl (Or.inl rfl)
        (gv_tup (gva_cons (gv_of (gv 5)) (gva_cons (gv_of (gv 6)) (gva_cons (gv_callM (X := bX P w K mg base nDrawn "_law_drawn" sDrawn f cdv A outer s H E) (B := B.up S1) F2 hr (by omega) rfl (gva_of (ga_cons (gv 1) (ga_cons (gv 2) ga_nil))) rfl ⟨_, _, rfl⟩ ⟨n, L, rfl, h1, h3, by omega, by omega, r3.mono (by omega), rfl, rfl⟩ hL) gva_nil))) (Nat.le_of_ble_eq_true rfl)) (by rw [List.length_map, o2, sizeLine_eq]; omega) (fun l z => by cases z)) rfl) gss_nil)) ⟨.inr rfl, .inr rfl, .inr rfl, .inr rfl, .inl rfl, .inl rfl, .inl rfl, trivial⟩
end
end G
set_option maxHeartbeats 4000000
/-! F22: rising_two. -/
namespace G
open PySem PySem.Spec PyProof.Rows L2 LamX NdefX
abbrev sRising : Stmt := topS 85
abbrev nRising : List Str := ["_law_pen_here", "_law_most", "_law_places", "_law_way", "_law_more_here", "_law_one"]
theorem scRising : FnScope nRising ["_law_pen_here", "_law_most"] (defScope sRising) := ⟨rfl, rfl, rfl, by decide +kernel, rfl, by decide +kernel, by decide +kernel⟩
def riN (p : Pen) : Nat := (1 + drawK p 3).toNat
def riP1 (p : Pen) : Pen := drawN p 3
def riW (p : Pen) : Int := drawK (riP1 p) 6
def riP2 (p : Pen) : Pen := drawN (riP1 p) 6
def riM (p : Pen) : Nat := ((riN p : Int) + drawK (riP2 p) (4 - riN p)).toNat
def riP3 (p : Pen) : Pen := drawN (riP2 p) (4 - riN p)
def riL1 (p : Pen) : Nat := (1 + drawK (riP3 p) 2).toNat
def riP4 (p : Pen) : Pen := drawN (riP3 p) 2
def riA (p : Pen) : Mi.Rl := drawnR (riN p) (riL1 p) (riP4 p)
def riP5 (p : Pen) : Pen := drawnN (riN p) (riL1 p) (riP4 p)
def riL2 (p : Pen) : Nat := (1 + drawK (riP5 p) 2).toNat
def riP6 (p : Pen) : Pen := drawN (riP5 p) 2
def riC (p : Pen) : Mi.Rl := drawnR (riM p) (riL2 p) (riP6 p)
def riP7 (p : Pen) : Pen := drawnN (riM p) (riL2 p) (riP6 p)
def riI (p : Pen) : Nat := (drawK (riP7 p) 3).toNat
def riP8 (p : Pen) : Pen := drawN (riP7 p) 3
def riB (p : Pen) : Mi.Rl := if riI p = 0 then riC p else if riI p = 1 then Mi.recentR (riM p) else Mi.queueR (riM p)
def riseA (p : Pen) : Mi.Rl := if riW p = 0 then Mi.queueR (riN p) else if riW p = 1 then Mi.recentR (riN p) else if riW p = 2 then Mi.newestR (riN p) else riA p
def riseB (p : Pen) : Mi.Rl := if riW p = 0 then Mi.queueR (riM p) else if riW p = 1 then Mi.recentR (riM p) else if riW p = 2 then Mi.newestR (riM p) else riB p
def riseN (p : Pen) : Pen := if riW p = 0 then riP3 p else if riW p = 1 then riP3 p else if riW p = 2 then riP3 p else riP8 p
theorem ri_rng (p : Pen) : 1 ≤ riN p ∧ riN p ≤ 3 ∧ riN p ≤ riM p ∧ riM p ≤ 3 ∧ 1 ≤ riL1 p ∧ riL1 p ≤ 2 ∧ 1 ≤ riL2 p ∧ riL2 p ≤ 2 ∧ riI p < 3 := by
  have h1 := draw_rng p (m := 3) (by decide)
  have n1 : 1 ≤ riN p ∧ riN p ≤ 3 := by unfold riN; omega
  have h2 := draw_rng (riP2 p) (m := 4 - (riN p : Int)) (by omega)
  have h3 := draw_rng (riP3 p) (m := 2) (by decide)
  have h4 := draw_rng (riP5 p) (m := 2) (by decide)
  have h5 := draw_rng (riP7 p) (m := 3) (by decide)
  refine ⟨n1.1, n1.2, ?_, ?_, ?_, ?_, ?_, ?_, ?_⟩
  · unfold riM; omega
  · unfold riM; omega
  · unfold riL1; omega
  · unfold riL1; omega
  · unfold riL2; omega
  · unfold riL2; omega
  · unfold riI; omega
theorem rise_pen {c : Int} {p : Pen} (hp : PenOk c p) : PenOk (c + 3) (riP3 p) ∧ PenOk (c + 4) (riP4 p) ∧ PenOk (c + 66) (riP5 p) ∧ PenOk (c + 67) (riP6 p) ∧ PenOk (c + 129) (riP7 p) ∧ PenOk (c + 130) (riP8 p) ∧ Mi.okRl (riA p) ∧ Mi.okRl (riC p) := by
  obtain ⟨n1, n3, nm, m3, l1, l2, k1, k2, _⟩ := ri_rng p
  have a1 := hp.draw (m := 3) (by decide)
  have a2 := a1.draw (m := 6) (by decide)
  have a3 := a2.draw (m := 4 - (riN p : Int)) (by omega)
  have a4 := a3.draw (m := 2) (by decide)
  obtain ⟨b1, b2⟩ := drawn_ok n1 n3 l1 l2 a4
  have a6 := b2.draw (m := 2) (by decide)
  obtain ⟨c1, c2⟩ := drawn_ok (n := riM p) (by omega) m3 k1 k2 a6
  have a8 := c2.draw (m := 3) (by decide)
  exact ⟨a3.mono (by omega), a4.mono (by omega), b2.mono (by omega), a6.mono (by omega), c2.mono (by omega), a8.mono (by omega), b1, c1⟩
theorem rise_ok {c : Int} {p : Pen} (hp : PenOk c p) : Mi.okRl (riseA p) ∧ Mi.okRl (riseB p) ∧ (riseA p).places ≤ (riseB p).places ∧ PenOk (c + 130) (riseN p) := by
  obtain ⟨n1, n3, nm, m3, l1, l2, k1, k2, i3⟩ := ri_rng p
  obtain ⟨p3, p4, p5, p6, p7, p8, hA, hC⟩ := rise_pen hp
  have q3 : PenOk (c + 130) (riP3 p) := p3.mono (by omega)
  have eA : (riA p).places = riN p := rfl
  unfold riseA riseB riseN
  split
  · exact ⟨Mi.queueR_ok n1 n3, Mi.queueR_ok (by omega) m3, by show (riN p : Int) ≤ riM p; omega, q3⟩
  · split
    · exact ⟨Mi.recentR_ok n1 n3, Mi.recentR_ok (by omega) m3, by show (riN p : Int) ≤ riM p; omega, q3⟩
    · split
      · exact ⟨Mi.newestR_ok n1 n3, Mi.newestR_ok (by omega) m3, by show (riN p : Int) ≤ riM p; omega, q3⟩
      · refine ⟨hA, ?_, ?_, p8⟩
        · unfold riB
          split
          · exact hC
          · split
            · exact Mi.recentR_ok (by omega) m3
            · exact Mi.queueR_ok (by omega) m3
        · have : (riB p).places = riM p := by
            unfold riB
            split
            · rfl
            · split <;> rfl
          rw [eA, this]; omega
end G
set_option maxHeartbeats 4000000
/-! F23: rising_two, the walk. -/
namespace G
open PySem PySem.Spec PyProof.Rows L2 LamX NdefX
section
variable {P : Program} {w : World} {K : PySem.W.Frag} {mg : Str → Option Value} {base : Heap} {T : List NTab} {f : Addr} {fd : FuncData}
def preRise (p : Pen) (xs : List Vl) (p' : Pen) (y : Vl) : Prop := xs = [.int 3] ∧ PenOk 600000 p ∧ p' = riseN p ∧ y = .tup [eRl (riseA p), eRl (riseB p)]
theorem ok_rise (F : Fun K "_law_rising_two" "_law_rising_two" sRising f fd) (Gm : Gf mg) (F1 : DM P w K mg base T 1 "_law_draw" ["_law_pen_here", "_law_many"] preDraw) (F2 : DM P w K mg base T 4 "_law_drawn" ["_law_pen_here", "_law_places", "_law_labels"] preDrawn) (F3 : DM P w K mg base T 2 "_law_pick" ["_law_pen_here", "_law_things"] prePick)
    (F4 : D P w K mg base T 2 "_law_queue" ["_law_places"] preQueue) (F5 : D P w K mg base T 2 "_law_recent" ["_law_places"] preRecent) (F6 : D P w K mg base T 2 "_law_newest" ["_law_places"] preNewest) : FnOk P w K mg base CX0 5 f fd ["_law_pen_here", "_law_most"] (spM K T preRise) := by
  refine okM F scRising (fun p xs p' y ⟨e, _⟩ => by rw [e]; rfl) fun cdv A outer s H E B l p p' xs y hT hL hr ⟨e1, hp, e2, e3⟩ => ?_
  subst e1 e2 e3 hT
  obtain ⟨n1, n3, nm, m3, l1, l2, k1, k2, i3⟩ := ri_rng p
  obtain ⟨p3, p4, p5, p6, p7, p8, hA, hC⟩ := rise_pen hp
  have a1 : PenOk 600001 (riP1 p) := (hp.draw (m := 3) (by decide)).mono (by omega)
  have a2 : PenOk 600002 (riP2 p) := (a1.draw (m := 6) (by decide)).mono (by omega)
  let X := bX P w K mg base nRising "_law_rising_two" sRising f cdv A outer s H E
  let Γa : List Sl := [.ow (some l) (penW K (riP3 p)), .va (.int 3), .va (.int (riN p)), .va (.int (riW p)), .va (.int (riM p)), .no]
  have eN : (1 : Int) + drawK p 3 = (riN p : Int) := by
    have := draw_rng p (m := 3) (by decide)
    unfold riN; omega
  have eM : (riN p : Int) + drawK (riP2 p) (4 - riN p) = (riM p : Int) := by
    have := draw_rng (riP2 p) (m := 4 - (riN p : Int)) (by omega)
    unfold riM; omega
  have start : ∀ {Γ' : List Sl} {y : Vl}, GRs X B Γa ((defBody sRising).drop 2) Γ' y → GRs X B ((Gam0 nRising (anyV :: [.int 3])).set 0 (.ow (some l) (penW K p))) (defBody sRising) Γ' y := by
    intro Γ' y h
    exact grs_cons (gs_to (Γ2 := [.ow (some l) (penW K (riP2 p)), .va (.int 3), .va (.int (riN p)), .va (.int (riW p)), .no, .no]) (gs_parV (ip := 0) (i := 2) (j := 3) (x := .int (riN p)) (y := .int (riW p)) (Γ1 := [.ow (some l) (penW K (riP2 p)), .va (.int 3), .no, .no, .no, .no])
        (gva_cons (Γ1 := [.ow (some l) (penW K (riP1 p)), .va (.int 3), .no, .no, .no, .no]) (gv_is (gv_add (gv_of ge_int) (gv_callM (X := X) (B := B) F1 hr (by omega) rfl (gva_of (ga_cons (gv 1) ga_nil)) rfl ⟨_, _, rfl⟩ ⟨3, rfl, by decide, by decide, hp.mono (by omega), rfl, rfl⟩ hL)) (by rw [eN]))
          (gva_cons (gv_callM (X := X) (B := B) F1 hr (by omega) rfl (gva_of (ga_cons ge_int ga_nil)) rfl ⟨_, _, rfl⟩ ⟨6, rfl, by decide, by decide, a1.mono (by omega), rfl, rfl⟩ hL) gva_nil)) rfl scRising.nd rfl rfl (by decide) (Nat.le_of_ble_eq_true rfl) (Nat.le_of_ble_eq_true rfl) rfl rfl rfl) rfl)
      (grs_cons (gs_to (Γ2 := Γa) (gs_asgV (ip := 0) (i := 4) (y := .int (riM p)) (Γ1 := [.ow (some l) (penW K (riP3 p)), .va (.int 3), .va (.int (riN p)), .va (.int (riW p)), .no, .no]) (gv_is (gv_add (gv_of (gv 2)) (gv_callM (X := X) (B := B) F1 hr (by omega) rfl (gva_of (ga_cons (ge_sub (ge_add (gv 1) ge_int) (gv 2)) ga_nil)) rfl ⟨_, _, rfl⟩ ⟨4 - (riN p : Int), rfl, by omega, by omega, a2.mono (by omega), rfl, rfl⟩ hL)) (by rw [eM])) (Nat.le_of_ble_eq_true rfl) scRising.nd rfl (Or.inl rfl)) rfl) h)
  have hΓ : Γa[0]? = some (.ow (some l) (penW K (riP3 p))) := rfl
  by_cases w0 : riW p = 0
  · have eP : riseN p = riP3 p := by unfold riseN; rw [if_pos w0]
    have eA : riseA p = Mi.queueR (riN p) := by unfold riseA; rw [if_pos w0]
    have eB : riseB p = Mi.queueR (riM p) := by unfold riseB; rw [if_pos w0]
    rw [eP, eA, eB]
    exact ⟨Γa, rfl, start (grs_one (gr_ifT (gt_is (gt_eqI (gv 3) ge_int) (decide_eq_true w0)) (grs_one (gr_ret (ge_tup (ga_cons (ge_call F4 hr (by omega) rfl (ga_cons (gv 2) ga_nil) ⟨_, rfl, n1, n3, rfl⟩) (ga_cons (ge_call F4 hr (by omega) rfl (ga_cons (gv 4) ga_nil) ⟨_, rfl, by omega, m3, rfl⟩) ga_nil)) (Nat.le_of_ble_eq_true rfl))))))⟩
  by_cases w1 : riW p = 1
  · have eP : riseN p = riP3 p := by unfold riseN; rw [if_neg w0, if_pos w1]
    have eA : riseA p = Mi.recentR (riN p) := by unfold riseA; rw [if_neg w0, if_pos w1]
    have eB : riseB p = Mi.recentR (riM p) := by unfold riseB; rw [if_neg w0, if_pos w1]
    rw [eP, eA, eB]
    exact ⟨Γa, rfl, start (grs_cons (gs_skip (gt_is (gt_eqI (gv 3) ge_int) (decide_eq_false w0))) (grs_one (gr_ifT (gt_is (gt_eqI (gv 3) ge_int) (decide_eq_true w1)) (grs_one (gr_ret (ge_tup (ga_cons (ge_call F5 hr (by omega) rfl (ga_cons (gv 2) ga_nil) ⟨_, rfl, n1, n3, rfl⟩) (ga_cons (ge_call F5 hr (by omega) rfl (ga_cons (gv 4) ga_nil) ⟨_, rfl, by omega, m3, rfl⟩) ga_nil)) (Nat.le_of_ble_eq_true rfl)))))))⟩
  by_cases w2 : riW p = 2
  · have eP : riseN p = riP3 p := by unfold riseN; rw [if_neg w0, if_neg w1, if_pos w2]
    have eA : riseA p = Mi.newestR (riN p) := by unfold riseA; rw [if_neg w0, if_neg w1, if_pos w2]
    have eB : riseB p = Mi.newestR (riM p) := by unfold riseB; rw [if_neg w0, if_neg w1, if_pos w2]
    rw [eP, eA, eB]
    exact ⟨Γa, rfl, start (grs_cons (gs_skip (gt_is (gt_eqI (gv 3) ge_int) (decide_eq_false w0))) (grs_cons (gs_skip (gt_is (gt_eqI (gv 3) ge_int) (decide_eq_false w1))) (grs_one (gr_ifT (gt_is (gt_eqI (gv 3) ge_int) (decide_eq_true w2)) (grs_one (gr_ret (ge_tup (ga_cons (ge_call F6 hr (by omega) rfl (ga_cons (gv 2) ga_nil) ⟨_, rfl, n1, n3, rfl⟩) (ga_cons (ge_call F6 hr (by omega) rfl (ga_cons (gv 4) ga_nil) ⟨_, rfl, by omega, m3, rfl⟩) ga_nil)) (Nat.le_of_ble_eq_true rfl))))))))⟩
  have eP : riseN p = riP8 p := by unfold riseN; rw [if_neg w0, if_neg w1, if_neg w2]
  have eA : riseA p = riA p := by unfold riseA; rw [if_neg w0, if_neg w1, if_neg w2]
  have eB : riseB p = riB p := by unfold riseB; rw [if_neg w0, if_neg w1, if_neg w2]
  rw [eP, eA, eB]
  have d1 := draw_rng (riP3 p) (m := 2) (by decide)
  have d2 := draw_rng (riP5 p) (m := 2) (by decide)
  have eL1 : (1 : Int) + drawK (riP3 p) 2 = (riL1 p : Int) := by unfold riL1; omega
  have eL2 : (1 : Int) + drawK (riP5 p) 2 = (riL2 p : Int) := by unfold riL2; omega
  let Γb : Pen → List Sl := fun q => [.ow (some l) (penW K q), .va (.int 3), .va (.int (riN p)), .va (.int (riW p)), .va (.int (riM p)), .no]
  let Γc : Pen → List Sl := fun q => [.ow (some l) (penW K q), .va (.int 3), .va (.int (riN p)), .va (.int (riW p)), .va (.int (riM p)), .va (eRl (riA p))]
  let ts : List Vl := [eRl (riC p), eRl (Mi.recentR (riM p)), eRl (Mi.queueR (riM p))]
  have hpick : ts[(drawK (riP7 p) ((ts.length : Nat) : Int)).toNat]? = some (eRl (riB p)) := by
    show ts[riI p]? = _
    unfold riB
    have : riI p = 0 ∨ riI p = 1 ∨ riI p = 2 := by omega
    rcases this with h | h | h <;> rw [h] <;> rfl
  refine ⟨Γc (riP8 p), rfl, start (grs_cons (gs_skip (gt_is (gt_eqI (gv 3) ge_int) (decide_eq_false w0))) (grs_cons (gs_skip (gt_is (gt_eqI (gv 3) ge_int) (decide_eq_false w1))) (grs_cons (gs_skip (gt_is (gt_eqI (gv 3) ge_int) (decide_eq_false w2)))
    (grs_cons (gs_to (Γ2 := Γc (riP5 p)) (gs_asgV (ip := 0) (i := 5) (y := eRl (riA p)) (Γ1 := Γb (riP5 p)) (gv_callM (X := X) (B := B) (Γ1 := Γb (riP4 p)) F2 hr (by omega) rfl (gva_cons (gv_of (gv 2)) (gva_cons (gv_is (gv_add (gv_of ge_int) (gv_callM (X := X) (B := B) F1 hr (by omega) rfl (gva_of (ga_cons ge_int ga_nil)) rfl ⟨_, _, rfl⟩ ⟨2, rfl, by decide, by decide, p3.mono (by omega), rfl, rfl⟩ hL)) (by rw [eL1])) gva_nil)) rfl ⟨_, _, rfl⟩ ⟨riN p, riL1 p, rfl, n1, n3, l1, l2, p4.mono (by omega), rfl, rfl⟩ hL) (Nat.le_of_ble_eq_true rfl) scRising.nd rfl (Or.inl rfl)) rfl)
    (grs_one (gr_retV (ip := 0) (gv_tup (gva_cons (gv_of (gv 5)) (gva_cons (gv_callM (X := X) (B := B) (Γ1 := Γc (riP7 p)) F3 hr (by omega) rfl
      (gva_cons (gv_lst (xs := ts) (gva_cons (Γ1 := Γc (riP7 p)) (gv_callM (X := X) (B := B) (Γ1 := Γc (riP6 p)) F2 hr (by omega) rfl (gva_cons (gv_of (gv 4)) (gva_cons (gv_is (gv_add (gv_of ge_int) (gv_callM (X := X) (B := B) F1 hr (by omega) rfl (gva_of (ga_cons ge_int ga_nil)) rfl ⟨_, _, rfl⟩ ⟨2, rfl, by decide, by decide, p5.mono (by omega), rfl, rfl⟩ hL)) (by rw [eL2])) gva_nil)) rfl ⟨_, _, rfl⟩ ⟨riM p, riL2 p, rfl, by omega, m3, k1, k2, p6.mono (by omega), rfl, rfl⟩ hL)
        (gva_of (ga_cons (ge_call F5 hr (by omega) rfl (ga_cons (gv 4) ga_nil) ⟨_, rfl, by omega, m3, rfl⟩) (ga_cons (ge_call F4 hr (by omega) rfl (ga_cons (gv 4) ga_nil) ⟨_, rfl, by omega, m3, rfl⟩) ga_nil)))) (Nat.le_of_ble_eq_true rfl)) gva_nil) rfl ⟨_, _, rfl⟩ ⟨ts, rfl, Nat.le_of_ble_eq_true rfl, Nat.le_of_ble_eq_true rfl, p7.mono (by omega), rfl, hpick⟩ hL) gva_nil)) (Nat.le_of_ble_eq_true rfl))))))))⟩
end
end G
set_option maxHeartbeats 4000000
/-! F24: wishes. -/
namespace G
open PySem PySem.Spec PyProof.Rows L2 LamX NdefX
abbrev sWishes : Stmt := topS 86
abbrev nWishes : List Str := ["_law_pen_here", "_law_most", "_law_many", "_law_names", "_law_turn"]
theorem scWishes : FnScope nWishes ["_law_pen_here", "_law_most", "_law_many"] (defScope sWishes) := ⟨rfl, rfl, rfl, by decide +kernel, rfl, by decide +kernel, by decide +kernel⟩
def wi0 : List Int := [0, 1, 2, 3, 4, 5, 6, 7, 8, 9, 50, 98, 99]
def wiP1 (p : Pen) : Pen := mixN wi0 p
def wiP2 (p : Pen) : Pen := drawN (wiP1 p) 5
def wiK (p : Pen) : Nat := (1 + drawK (wiP1 p) 5).toNat
def wiNs (p : Pen) : List Int := (mixF wi0 p).take (wiK p)
def wiC (p : Pen) : Nat := (drawK (wiP2 p) 31).toNat
def wiAt (p : Pen) : Nat → Pen
  | 0 => drawN (wiP2 p) 31
  | i + 1 => drawN (wiAt p i) ((wiNs p).length : Nat)
def wiX (p : Pen) (i : Nat) : Int := (wiNs p).getD (drawK (wiAt p i) ((wiNs p).length : Nat)).toNat 0
def wiL (p : Pen) : List Int := (List.range (wiC p)).map (wiX p)
def wiN (p : Pen) : Pen := wiAt p (wiC p)
structure WiOk (c : Int) (p : Pen) : Prop where
  p1 : PenOk (c + 13) (wiP1 p)
  p2 : PenOk (c + 14) (wiP2 p)
  l0 : 1 ≤ (wiNs p).length
  l1 : (wiNs p).length ≤ 5
  r : ∀ x ∈ wiNs p, 0 ≤ x ∧ x ≤ 99
  cc : wiC p ≤ 30
  at_ : ∀ i : Nat, PenOk (c + 15 + i) (wiAt p i)
theorem wi_ok {c : Int} {p : Pen} (hp : PenOk c p) : WiOk c p := by
  have h1 : PenOk (c + 13) (wiP1 p) := mixN_ok (ns := wi0) hp
  have h2 : PenOk (c + 13 + 1) (wiP2 p) := h1.draw (m := 5) (by decide)
  have d1 := draw_rng (wiP1 p) (m := 5) (by decide)
  have d2 := draw_rng (wiP2 p) (m := 31) (by decide)
  have pm : (mixF wi0 p).Perm wi0 := mixF_perm hp
  have hl : (mixF wi0 p).length = 13 := pm.length_eq
  have hk : 1 ≤ wiK p ∧ wiK p ≤ 5 := by unfold wiK; omega
  have l0 : 1 ≤ (wiNs p).length ∧ (wiNs p).length ≤ 5 := by unfold wiNs; rw [List.length_take]; omega
  refine ⟨h1, h2.mono (by omega), l0.1, l0.2, fun x hx => ?_, by unfold wiC; omega, fun i => ?_⟩
  · have : x ∈ wi0 := pm.mem_iff.mp (List.mem_of_mem_take hx)
    have hall : ∀ x ∈ wi0, 0 ≤ x ∧ x ≤ 99 := by decide
    exact hall x this
  · induction i with
    | zero => exact (h2.draw (m := 31) (by decide)).mono (by omega)
    | succ i ih => exact (ih.draw (m := ((wiNs p).length : Nat)) (by omega)).mono (by omega)
theorem wiL_req {c : Int} {p : Pen} (hp : PenOk c p) : okReq (wiL p) ∧ PenOk (c + 45) (wiN p) := by
  have o := wi_ok hp
  have := o.cc
  refine ⟨⟨by unfold wiL; rw [List.length_map, List.length_range]; omega, fun x hx => ?_⟩, (o.at_ _).mono (by omega)⟩
  unfold wiL at hx
  obtain ⟨i, _, rfl⟩ := List.mem_map.mp hx
  unfold wiX
  have l0 := o.l0
  have d := draw_rng (wiAt p i) (m := ((wiNs p).length : Nat)) (by omega)
  exact o.r _ (Mi.getD_mem (by omega))
theorem gv_to {X : Cx} {B : Bs} {ip : Nat} {Γ Γ1 Γ2 : List Sl} {e : Expr} {y : Vl} (h : GV X B ip Γ e Γ1 y) (q : Γ1 = Γ2) : GV X B ip Γ e Γ2 y := q ▸ h
section
variable {P : Program} {w : World} {K : PySem.W.Frag} {mg : Str → Option Value} {base : Heap} {T : List NTab} {f : Addr} {fd : FuncData}
def preWishes (p : Pen) (xs : List Vl) (p' : Pen) (y : Vl) : Prop := xs = [.int 30, .int 5] ∧ PenOk 500000 p ∧ p' = wiN p ∧ y = eI (wiL p)
theorem ok_wishes (F : Fun K "_law_wishes" "_law_wishes" sWishes f fd) (Gm : Gf mg) (F1 : DM P w K mg base T 1 "_law_draw" ["_law_pen_here", "_law_many"] preDraw) (F2 : DM P w K mg base T 2 "_law_mixed" ["_law_pen_here", "_law_things"] preMixed) (F3 : DM P w K mg base T 2 "_law_pick" ["_law_pen_here", "_law_things"] prePick) :
    FnOk P w K mg base CX0 3 f fd ["_law_pen_here", "_law_most", "_law_many"] (spM K T preWishes) := by
  refine okM F scWishes (fun p xs p' y ⟨e, _⟩ => by rw [e]; rfl) fun cdv A outer s H E B l p p' xs y hT hL hr ⟨e1, hp, e2, e3⟩ => ?_
  subst e1 e2 e3 hT
  have o := wi_ok hp
  have l0 := o.l0
  have l1 := o.l1
  have d1 := draw_rng (wiP1 p) (m := 5) (by decide)
  have d2 := draw_rng (wiP2 p) (m := 31) (by decide)
  let X := bX P w K mg base nWishes "_law_wishes" sWishes f cdv A outer s H E
  let Γa : Pen → Sl → List Sl := fun q n => [.ow (some l) (penW K q), .va (.int 30), .va (.int 5), n, .no]
  let Γf : Nat → List Sl := fun i => Γa (wiAt p i) (.va (.lst ((wiNs p).map .int)))
  have eK : (1 : Int) + drawK (wiP1 p) 5 = (wiK p : Int) := by unfold wiK; omega
  have eCut : (Vl.lst (cutX ((mixF wi0 p).map Vl.int) none (some (wiK p : Int)))) = .lst ((wiNs p).map .int) := by rw [cutX_take, ← List.map_take]; rfl
  have hlm : (mixF wi0 p).length = 13 := (mixF_perm hp).length_eq
  have h2 : PenOk (500000 + 15) (wiAt p 0) := (o.at_ 0).mono (by omega)
  refine ⟨Γf (wiC p), rfl, grs_cons (gs_to (Γ2 := Γa (wiP2 p) (.va (.lst ((wiNs p).map .int)))) (gs_asgV (ip := 0) (i := 3) (y := .lst ((wiNs p).map .int)) (Γ1 := Γa (wiP2 p) .no)
      (gv_is (gv_slL (xs := (mixF wi0 p).map .int) (gv_callM (X := X) (B := B) (Γ1 := Γa p .no) F2 hr (by omega) rfl (gva_cons (gv_lst (xs := wi0.map .int) (gva_of (ga_cons ge_int (ga_cons ge_int (ga_cons ge_int (ga_cons ge_int (ga_cons ge_int (ga_cons ge_int (ga_cons ge_int (ga_cons ge_int (ga_cons ge_int (ga_cons ge_int (ga_cons ge_int (ga_cons ge_int (ga_cons ge_int ga_nil)))))))))))))) (Nat.le_of_ble_eq_true rfl)) gva_nil) rfl ⟨_, _, rfl⟩ ⟨wi0, rfl, by decide, hp.mono (by omega), rfl, rfl⟩ hL) (by rw [List.length_map, hlm, sizeLine_eq]; omega) gpv_none
        (gpv_some (gv_is (gv_add (gv_of ge_int) (gv_callM (X := X) (B := B) (Γ1 := Γa (wiP1 p) .no) F1 hr (by omega) rfl (gva_of (ga_cons (gv 2) ga_nil)) rfl ⟨_, _, rfl⟩ ⟨5, rfl, by decide, by decide, o.p1.mono (by omega), rfl, rfl⟩ hL)) (by rw [eK])))) eCut) (Nat.le_of_ble_eq_true rfl) scWishes.nd rfl (Or.inr rfl)) rfl)
    (grs_one (gr_retV (ip := 0) (gv_is (gv_tud (gv_tupL Gm (gv_to (gv_lcVI (k := 4) (xs := rng 0 (drawK (wiP2 p) 31).toNat) Γf (fun i => .int (wiX p i)) rfl scWishes.nd
      (giv_rng1 rfl Gm.range (gva_cons (Γ1 := Γf 0) (gv_callM (X := X) (B := B) (Γ1 := Γa (wiP2 p) (.va (.lst ((wiNs p).map .int)))) F1 hr (by omega) rfl (gva_of (ga_cons (ge_add (gv 1) ge_int) ga_nil)) rfl ⟨_, _, rfl⟩ ⟨31, rfl, by decide, by decide, o.p2.mono (by omega), rfl, rfl⟩ hL) gva_nil) (by omega))
      (blkOk_by (N := nWishes) (sc := defScope sWishes) (by decide +kernel)) rfl rfl (fun _ _ => rfl) (fun _ _ => rfl) ⟨_, _, rfl⟩ (fun i _ j f u h => ?own) (fun s H C cl fp i x hx => ?items) (by rw [rng_length, sizeLine_eq]; omega)) (by rw [rng_length]; rfl)))) ?eY)))⟩
  case own =>
    match j, h with
    | 0, _ => exact ⟨_, _, rfl⟩
    | 1, h => cases h
    | 2, h => cases h
    | 3, h => cases h
    | 4, h => cases h
    | n + 5, h => cases h
  case items =>
    obtain ⟨hi, ex⟩ := rng_get hx
    subst ex
    have oi := o.at_ i
    have hlen : ((((wiNs p).map Vl.int).length : Nat) : Int) = ((wiNs p).length : Nat) := by rw [List.length_map]
    have dr := draw_rng (wiAt p i) (m := ((wiNs p).length : Nat)) (by omega)
    have hy : ((wiNs p).map Vl.int)[(drawK (wiAt p i) ((((wiNs p).map Vl.int).length : Nat) : Int)).toNat]? = some (.int (wiX p i)) := by
      rw [hlen, List.getElem?_map]
      have hlt : (drawK (wiAt p i) ((wiNs p).length : Nat)).toNat < (wiNs p).length := by omega
      unfold wiX
      rw [List.getD_eq_getElem?_getD, List.getElem?_eq_getElem hlt]; rfl
    have hpn : wiAt p (i + 1) = drawN (wiAt p i) ((((wiNs p).map Vl.int).length : Nat) : Int) := by rw [hlen]; rfl
    have hpn2 : Γf (i + 1) = Γa (drawN (wiAt p i) ((((wiNs p).map Vl.int).length : Nat) : Int)) (.va (.lst ((wiNs p).map .int))) := by
      show Γa (wiAt p (i + 1)) _ = _
      rw [hpn]
    rw [hpn2]
    exact gv_to (gv_callM (ip := 0) (B := B) (Γ1 := (Γf i).set 4 (.va (.int (0 + (i : Int))))) F3 hr (by omega) rfl (gva_of (ga_cons (gv 3) ga_nil)) rfl ⟨_, _, rfl⟩ ⟨(wiNs p).map .int, rfl, by rw [List.length_map]; omega, by rw [List.length_map]; omega, oi.mono (by omega), rfl, hy⟩ hL) rfl
  case eY =>
    show Vl.tup _ = eI (wiL p)
    unfold eI wiL wiC
    rw [rng_length, List.map_map]; rfl
end
end G
set_option maxHeartbeats 4000000
/-! F25: both. -/
namespace G
open PySem PySem.Spec PyProof.Rows L2 LamX NdefX
abbrev sBoth : Stmt := topS 70
abbrev nBoth : List Str := ["_law_one", "_law_other", "_law_walk", "_law_here", "_law_mine", "_law_its", "_law_number", "_law_told"]
theorem scBoth : FnScope nBoth ["_law_one", "_law_other", "_law_walk"] (defScope sBoth) := ⟨rfl, rfl, rfl, by decide +kernel, rfl, by decide +kernel, by decide +kernel⟩
section
variable {P : Program} {w : World} {K : PySem.W.Frag} {mg : Str → Option Value} {base : Heap} {T : List NTab} {f : Addr} {fd : FuncData}
def bothV (a b : Mi.Rl) (ns : List Int) : Vl := .tup [.int (Mi.mineS (Mi.pathS a b (Mi.fstNd a b) ns)), .int (Mi.itsS (Mi.pathS a b (Mi.fstNd a b) ns))]
def preBoth (xs : List Vl) (y : Vl) : Prop := ∃ (a b : Mi.Rl) (ns : List Int), xs = [eRl a, eRl b, eI ns] ∧ Mi.okRl a ∧ Mi.okRl b ∧ Mi.okPath a b (Mi.fstNd a b) ns ∧ y = bothV a b ns
theorem mineS_app (x y : List Mi.Stp) : Mi.mineS (x ++ y) = Mi.mineS x + Mi.mineS y := by unfold Mi.mineS; rw [List.map_append, List.sum_append]
theorem itsS_app (x y : List Mi.Stp) : Mi.itsS (x ++ y) = Mi.itsS x + Mi.itsS y := by unfold Mi.itsS; rw [List.map_append, List.sum_append]
theorem ok_both (F : Fun K "_law_both" "_law_both" sBoth f fd) (Gm : Gf mg) (F1 : D P w K mg base T 9 "start" ["one", "other"] preFirstP) (F2 : D P w K mg base T 9 "moved" ["one", "other", "arrangement", "number"] preMoved) :
    FnOk P w K mg base CX0 10 f fd ["_law_one", "_law_other", "_law_walk"] (spV K T preBoth) := by
  refine okV F scBoth (fun xs y ⟨_, _, _, e, _⟩ => by rw [e]; rfl) fun cdv A outer s H E B xs y hT hr ⟨a, b, ns, e1, ha, hb, hp, e2⟩ => ?_
  subst e1 e2 hT
  let nd : Nat → Mi.Nd := fun i => Mi.pathE a b (Mi.fstNd a b) (ns.take i)
  let ss : Nat → List Mi.Stp := fun i => Mi.pathS a b (Mi.fstNd a b) (ns.take i)
  let Γf : Nat → List Sl := fun i => [.va (eRl a), .va (eRl b), .va (eI ns), .va (eNd (nd i)), .va (.int (Mi.mineS (ss i))), .va (.int (Mi.itsS (ss i))), .no, .no]
  refine ⟨Γf ns.length, grs_cons (gs_to (Γ2 := Γf 0) (gs_par3 (i := 3) (j := 4) (l := 5) (gm_v (ge_call F1 hr (by omega) rfl (ga_cons (gv 0) (ga_cons (gv 1) ga_nil)) ⟨a, b, rfl, ha, hb, rfl⟩) (gm_v ge_int (gm_v ge_int gm_nil))) rfl scBoth.nd rfl rfl rfl (by decide) (by decide) (by decide) (Nat.le_of_ble_eq_true rfl) (Nat.le_of_ble_eq_true rfl) (Nat.le_of_ble_eq_true rfl) rfl rfl rfl rfl) rfl)
    (grs_cons (gs_to (Γ2 := Γf ns.length) (gs_for (T := .nm 6) (xs := ns.map .int) Γf PassesOwn.never rfl (gi_tup (gv 2)) (pg_name scBoth.nd rfl (Or.inl rfl)) (fun _ _ => trivial) (fun i hi j hj => ?_) (fun S1 i x hx => ?_)) (by rw [List.length_map]))
    (grs_one (gr_ret (ge_is (ge_tup (ga_cons (gv 4) (ga_cons (gv 5) ga_nil)) (Nat.le_of_ble_eq_true rfl)) ?eY))))⟩
  · have : j = 6 := by simpa [Tg.idx] using hj
    subst this
    exact Nat.le_of_ble_eq_true rfl
  · rw [List.getElem?_map] at hx
    cases hi : ns[i]? with
    | none => rw [hi] at hx; cases hx
    | some q =>
      rw [hi] at hx
      cases hx
      have hlt : i < ns.length := (List.getElem?_eq_some_iff.mp hi).1
      have etk : ns.take (i + 1) = ns.take i ++ [q] := by rw [List.take_add_one, hi]; rfl
      obtain ⟨k1, k2, k3, k4, _⟩ := Mi.okPath_at hp hi
      have eS : ss (i + 1) = ss i ++ [Mi.stpAt a b (nd i) q] := by
        show Mi.pathS a b (Mi.fstNd a b) (ns.take (i + 1)) = _
        rw [etk, Mi.pathS_app]; rfl
      have e : Γf (i + 1) = [.va (eRl a), .va (eRl b), .va (eI ns), .va (eNd (Mi.movedTo a b (nd i) q)), .va (.int (Mi.mineS (ss i) + (if !Mi.isHit (nd i).1 q then 1 else 0))), .va (.int (Mi.itsS (ss i) + (if !Mi.isHit (nd i).2 q then 1 else 0))), .no, .no] := by
        show [_, _, _, Sl.va (eNd (nd (i + 1))), Sl.va (.int (Mi.mineS (ss (i + 1)))), Sl.va (.int (Mi.itsS (ss (i + 1)))), _, _] = _
        rw [eS, mineS_app, itsS_app, b01_not, b01_not]
        have : nd (i + 1) = Mi.movedTo a b (nd i) q := k4
        rw [this]
        have z1 : Mi.mineS [Mi.stpAt a b (nd i) q] = Mi.b01 (Mi.isHit (nd i).1 q) := Int.add_zero _
        have z2 : Mi.itsS [Mi.stpAt a b (nd i) q] = Mi.b01 (Mi.isHit (nd i).2 q) := Int.add_zero _
        rw [z1, z2]
      rw [e]
      let tv : Vl := .tup [.bl (Mi.isHit (nd i).1 q), .bl (Mi.isHit (nd i).2 q), eNd (Mi.movedTo a b (nd i) q)]
      refine gss_weak (Γ1 := [.va (eRl a), .va (eRl b), .va (eI ns), .va (eNd (Mi.movedTo a b (nd i) q)), .va (.int (Mi.mineS (ss i) + (if !Mi.isHit (nd i).1 q then 1 else 0))), .va (.int (Mi.itsS (ss i) + (if !Mi.isHit (nd i).2 q then 1 else 0))), .va (.int q), .va tv])
        (gss_cons (gs_asg (i := 7) (y := tv) (ge_call F2 hr (by omega) rfl (ga_cons (gv 0) (ga_cons (gv 1) (ga_cons (gv 3) (ga_cons (gv 6) ga_nil)))) ⟨a, b, nd i, q, rfl, ha, hb, k1, k2, k3, rfl⟩) (Nat.le_of_ble_eq_true rfl) scBoth.nd rfl (Or.inl rfl))
        (gss_cons (gs_par (i := 4) (j := 5) (m1 := .va (.int (Mi.mineS (ss i) + (if !Mi.isHit (nd i).1 q then 1 else 0)))) (m2 := .va (.int (Mi.itsS (ss i) + (if !Mi.isHit (nd i).2 q then 1 else 0))))
          (gm_v (ge_add (gv 4) (g_intB Gm (ge_not (d := Mi.isHit (nd i).1 q) (ge_ixT (xs := [.bl (Mi.isHit (nd i).1 q), .bl (Mi.isHit (nd i).2 q), eNd (Mi.movedTo a b (nd i) q)]) (gv 7) ge_int rfl)))) (gm_v (ge_add (gv 5) (g_intB Gm (ge_not (d := Mi.isHit (nd i).2 q) (ge_ixT (xs := [.bl (Mi.isHit (nd i).1 q), .bl (Mi.isHit (nd i).2 q), eNd (Mi.movedTo a b (nd i) q)]) (gv 7) ge_int rfl)))) gm_nil)) rfl scBoth.nd rfl rfl (by decide) (Nat.le_of_ble_eq_true rfl) (Nat.le_of_ble_eq_true rfl) rfl rfl rfl)
        (gss_cons (gs_asg (i := 3) (y := eNd (Mi.movedTo a b (nd i) q)) (ge_ixT (xs := [.bl (Mi.isHit (nd i).1 q), .bl (Mi.isHit (nd i).2 q), eNd (Mi.movedTo a b (nd i) q)]) (gv 7) ge_int rfl) (Nat.le_of_ble_eq_true rfl) scBoth.nd rfl (Or.inl rfl)) gss_nil))) ⟨.inr rfl, .inr rfl, .inr rfl, .inr rfl, .inr rfl, .inr rfl, .inl rfl, .inl rfl, trivial⟩
  case eY =>
    show Vl.tup [.int (Mi.mineS (Mi.pathS a b (Mi.fstNd a b) (ns.take ns.length))), .int (Mi.itsS (Mi.pathS a b (Mi.fstNd a b) (ns.take ns.length)))] = _
    rw [List.take_length]; rfl
end
end G
set_option maxHeartbeats 4000000
/-! F26: grows. -/
namespace G
open PySem PySem.Spec PyProof.Rows L2 LamX NdefX
abbrev sGrows : Stmt := topS 71
abbrev nGrows : List Str := ["_law_one", "_law_other", "_law_way", "_law_about", "_law_begun", "_law_found", "_law_turn", "_law_later", "_law_first"]
theorem scGrows : FnScope nGrows ["_law_one", "_law_other", "_law_way", "_law_about"] (defScope sGrows) := ⟨rfl, rfl, rfl, by decide +kernel, rfl, by decide +kernel, by decide +kernel⟩
def repL (ls : List Int) (t : Nat) : List Int := (List.replicate t ls).flatten
theorem repL_succ (ls : List Int) (t : Nat) : repL ls (t + 1) = ls ++ repL ls t := by unfold repL; rw [List.replicate_succ, List.flatten_cons]
theorem rep_path {a b : Mi.Rl} {n : Mi.Nd} {ls : List Int} (h : Mi.okPath a b n ls) (e : Mi.pathE a b n ls = n) : ∀ t : Nat, Mi.okPath a b n (repL ls t) ∧ Mi.pathE a b n (repL ls t) = n ∧ Mi.mineS (Mi.pathS a b n (repL ls t)) = t * Mi.mineS (Mi.pathS a b n ls) ∧ Mi.itsS (Mi.pathS a b n (repL ls t)) = t * Mi.itsS (Mi.pathS a b n ls)
  | 0 => ⟨Mi.okPath_nd h, rfl, by show (0 : Int) = _; simp, by show (0 : Int) = _; simp⟩
  | t + 1 => by
    obtain ⟨h1, h2, h3, h4⟩ := rep_path h e t
    rw [repL_succ]
    refine ⟨Mi.okPath_app.mpr ⟨h, by rw [e]; exact h1⟩, by rw [Mi.pathE_app, e, h2], ?_, ?_⟩
    · rw [Mi.pathS_app, mineS_app, e, h3, Int.natCast_succ, Int.add_mul, Int.one_mul, Int.add_comm]
    · rw [Mi.pathS_app, itsS_app, e, h4, Int.natCast_succ, Int.add_mul, Int.one_mul, Int.add_comm]
theorem repI (ls : List Int) (t : Nat) : (List.replicate t (ls.map Vl.int)).flatten = (repL ls t).map Vl.int := by
  unfold repL
  rw [List.map_flatten, List.map_replicate]
def grP (m t k : Int) : Vl := .tup [.int (k * m), .int (k * t)]
def grM (a b : Mi.Rl) (ns ls : List Int) : Int := Mi.mineS (Mi.pathS a b (Mi.pathE a b (Mi.fstNd a b) ns) ls)
def grI (a b : Mi.Rl) (ns ls : List Int) : Int := Mi.itsS (Mi.pathS a b (Mi.pathE a b (Mi.fstNd a b) ns) ls)
theorem grow_both {a b : Mi.Rl} {ns ls : List Int} (h : Mi.EverOk a b ns ls) (t : Nat) : Mi.okPath a b (Mi.fstNd a b) (ns ++ repL ls t) ∧ Mi.pathE a b (Mi.fstNd a b) (ns ++ repL ls t) = Mi.pathE a b (Mi.fstNd a b) ns ∧
    bothV a b (ns ++ repL ls t) = .tup [.int (Mi.mineS (Mi.pathS a b (Mi.fstNd a b) ns) + t * grM a b ns ls), .int (Mi.itsS (Mi.pathS a b (Mi.fstNd a b) ns) + t * grI a b ns ls)] := by
  obtain ⟨h1, h2, h3, h4⟩ := rep_path h.w2 h.e t
  refine ⟨Mi.okPath_app.mpr ⟨h.w1, h1⟩, by rw [Mi.pathE_app, h2], ?_⟩
  unfold bothV
  rw [Mi.pathS_app, mineS_app, itsS_app, h3, h4]; rfl
theorem repL_one (ls : List Int) : repL ls 1 = ls := by rw [repL_succ]; exact List.append_nil _
section
variable {P : Program} {w : World} {K : PySem.W.Frag} {mg : Str → Option Value} {base : Heap} {T : List NTab} {f : Addr} {fd : FuncData}
def preGrows (xs : List Vl) (y : Vl) : Prop := ∃ (a b : Mi.Rl) (ns ls : List Int), xs = [eRl a, eRl b, eI ns, eI ls] ∧ Mi.okRl a ∧ Mi.okRl b ∧ Mi.EverOk a b ns ls ∧ y = grP (grM a b ns ls) (grI a b ns ls) 1
theorem dat_grP (m t k : Int) : Dat 1 (grP m t k) := Dat.tup fun x hx => by
  simp only [List.mem_cons, List.not_mem_nil, or_false] at hx
  rcases hx with rfl | rfl <;> exact .int _
theorem ok_grows (F : Fun K "_law_grows" "_law_grows" sGrows f fd) (Gm : Gf mg) (F1 : D P w K mg base T 10 "_law_both" ["_law_one", "_law_other", "_law_walk"] preBoth) (F2 : D P w K mg base T 10 "walked" ["one", "other", "walk"] preWalked) :
    FnOk P w K mg base CX0 11 f fd ["_law_one", "_law_other", "_law_way", "_law_about"] (spV K T preGrows) := by
  refine okV F scGrows (fun xs y ⟨_, _, _, _, e, _⟩ => by rw [e]; rfl) fun cdv A outer s H E B xs y hT hr ⟨a, b, ns, ls, e1, ha, hb, hE, e2⟩ => ?_
  subst e1 e2 hT
  have hl1 := hE.l1
  have hl2 := hE.l2
  generalize hm0 : Mi.mineS (Mi.pathS a b (Mi.fstNd a b) ns) = m0
  generalize ht0 : Mi.itsS (Mi.pathS a b (Mi.fstNd a b) ns) = t0
  have key := fun t => grow_both hE t
  rw [hm0, ht0] at key
  generalize grM a b ns ls = m at key ⊢
  generalize grI a b ns ls = t at key ⊢
  have hbeg : bothV a b ns = .tup [.int m0, .int t0] := by unfold bothV; rw [hm0, ht0]
  let fL : Nat → List Vl := fun i => (List.range i).map fun j => grP m t ((j : Nat) + 1)
  let Γf : Nat → List Sl := fun i => [.va (eRl a), .va (eRl b), .va (eI ns), .va (eI ls), .va (.tup [.int m0, .int t0]), .ow none (owL K (fL i)), .no, .no, .no]
  let L3 : List Vl := [grP m t 1, grP m t 2, grP m t 3]
  let Γe : List Sl := [.va (eRl a), .va (eRl b), .va (eI ns), .va (eI ls), .va (.tup [.int m0, .int t0]), .va (.lst L3), .no, .no, .va (grP m t 1)]
  have e3 : fL 3 = L3 := rfl
  have plL : ∀ ys : List Vl, (∀ y ∈ ys, Dat 1 y) → plain (.lst ys) = true := fun ys h => plains_all fun y hy => (h y hy).pl
  have hd3 : ∀ y ∈ L3, Dat 1 y := fun y hy => by
    have hy : y ∈ [grP m t 1, grP m t 2, grP m t 3] := hy
    simp only [List.mem_cons, List.not_mem_nil, or_false] at hy
    rcases hy with rfl | rfl | rfl <;> exact dat_grP ..
  have dt : Dat 2 (.tup L3) := Dat.tup hd3
  have shp : SeqAt.shaped (toD (.lst L3)) = true := by rw [(Dat.lst_pl hd3).2]; exact shaped_of dt (by decide)
  refine ⟨Γe, grs_cons (gs_to (Γ2 := Γf 0) (gs_par (i := 4) (j := 5) (gm_v (ge_is (ge_call F1 hr (by omega) rfl (ga_cons (gv 0) (ga_cons (gv 1) (ga_cons (gv 2) ga_nil))) ⟨a, b, ns, rfl, ha, hb, hE.w1, rfl⟩) hbeg) (gm_o (go_lst ga_nil (Nat.zero_le _)) gm_nil)) rfl scGrows.nd rfl rfl (by decide) (Nat.le_of_ble_eq_true rfl) (Nat.le_of_ble_eq_true rfl) rfl rfl rfl) rfl)
    (grs_cons (gs_to (Γ2 := Γf 3) (gs_for (T := .nm 6) (xs := rng 1 3) Γf PassesOwn.never rfl (gi_rng2 (i := 1) (j := 4) rfl Gm.range (ga_cons ge_int (ga_cons ge_int ga_nil)) (by decide)) (pg_name scGrows.nd rfl (Or.inl rfl)) (fun _ _ => trivial) (fun i hi j hj => ?_) (fun S1 i x hx => ?_)) rfl)
    (grs_freeze (i := 5) (x := .lst L3) (by show some (Sl.ow none (owL K (fL 3))) = _; rw [e3]; rfl) owL_lst
    (grs_cons (gs_to (Γ2 := Γe) (gs_asg (i := 8) (y := grP m t 1) (ge_ixL (xs := L3) (gv 5) ge_int rfl) (Nat.le_of_ble_eq_true rfl) scGrows.nd rfl (Or.inl rfl)) rfl)
    (grs_cons (gs_skip (gt_cmp (op_neD hr.units) (gv 5) (go_v (go_lst (xs := L3) (ga_cons (gv 8) (ga_cons (ge_is (ge_tup (ga_cons (ge_mul ge_int (ge_ixT (xs := [.int (1 * m), .int (1 * t)]) (gv 8) ge_int rfl) (cmul (by decide) (by decide))) (ga_cons (ge_mul ge_int (ge_ixT (xs := [.int (1 * m), .int (1 * t)]) (gv 8) ge_int rfl) (cmul (by decide) (by decide))) ga_nil)) (Nat.le_of_ble_eq_true rfl)) (by rw [Int.one_mul, Int.one_mul]; rfl))
        (ga_cons (ge_is (ge_tup (ga_cons (ge_mul ge_int (ge_ixT (xs := [.int (1 * m), .int (1 * t)]) (gv 8) ge_int rfl) (cmul (by decide) (by decide))) (ga_cons (ge_mul ge_int (ge_ixT (xs := [.int (1 * m), .int (1 * t)]) (gv 8) ge_int rfl) (cmul (by decide) (by decide))) ga_nil)) (Nat.le_of_ble_eq_true rfl)) (by rw [Int.one_mul, Int.one_mul]; rfl)) ga_nil))) (Nat.le_of_ble_eq_true rfl)))
      (ro_neD (d := false) (plL _ hd3) (plL _ hd3) shp shp (by rw [SeqAt.eqv_refl (toD (.lst L3)) dt.lay]; rfl)) (by first | exact nomark _ | rfl)))
    (grs_one (gr_ret (ge_ifT (gt_eqSame (n := 3) (ge_call F2 hr (by omega) rfl (ga_cons (gv 0) (ga_cons (gv 1) (ga_cons (gv 2) ga_nil))) ⟨a, b, ns, rfl, ha, hb, hE.w1, by omega, rfl⟩)
      (ge_call F2 hr (by omega) rfl (ga_cons (gv 0) (ga_cons (gv 1) (ga_cons (ge_catT (gv 2) (gv 3) (by rw [List.length_map, List.length_map, sizeLine_eq]; omega)) ga_nil))) ⟨a, b, ns ++ repL ls 1, by rw [repL_one]; unfold eI; rw [List.map_append], ha, hb, (key 1).1, by rw [repL_one, List.length_append]; omega, rfl⟩) (Dat.nd _) (Dat.nd _) (by decide) (by rw [(key 1).2.1]) hr.units) (gv 8))))))))⟩
  · have : j = 6 := by simpa [Tg.idx] using hj
    subst this
    exact Nat.le_of_ble_eq_true rfl
  · obtain ⟨hi, ex⟩ := rng_get hx
    subst ex
    have e : Γf (i + 1) = [.va (eRl a), .va (eRl b), .va (eI ns), .va (eI ls), .va (.tup [.int m0, .int t0]), .ow none (owL K (fL i ++ [grP m t ((i : Nat) + 1)])), .no, .no, .no] := by
      show [_, _, _, _, _, Sl.ow none (owL K (fL (i + 1))), _, _, _] = _
      have : fL (i + 1) = fL i ++ [grP m t ((i : Nat) + 1)] := by
        show (List.range (i + 1)).map _ = _
        rw [List.range_succ, List.map_append]; rfl
      rw [this]
    rw [e]
    have hl : (fL i).length = i := by show ((List.range i).map _).length = i; rw [List.length_map, List.length_range]
    obtain ⟨k1, _, k3⟩ := key (i + 1)
    have e4 : ((1 : Int) + (i : Int)).toNat = i + 1 := by omega
    have hne : ls.map Vl.int ≠ [] := fun z => hE.ne (List.map_eq_nil_iff.mp z)
    refine gss_weak (Γ1 := [.va (eRl a), .va (eRl b), .va (eI ns), .va (eI ls), .va (.tup [.int m0, .int t0]), .ow none (owL K (fL i ++ [grP m t ((i : Nat) + 1)])), .va (.int (1 + (i : Int))), .va (bothV a b (ns ++ repL ls (i + 1))), .no])
      (gss_cons (gs_asg (i := 7) (y := bothV a b (ns ++ repL ls (i + 1))) (ge_call F1 hr (by omega) rfl (ga_cons (gv 0) (ga_cons (gv 1) (ga_cons (ge_catT (gv 2) (ge_repM (gv 3) (gv 6) (by omega) (by omega) hne (by rw [List.length_map]; omega)) (by rw [e4, repI, List.length_map, List.length_map, sizeLine_eq]; have : (repL ls (i + 1)).length = (i + 1) * ls.length := lm_len_rep_flat ..; have : (i + 1) * ls.length ≤ 3 * 1145 := Nat.mul_le_mul (by omega) (by omega); omega)) ga_nil)))
          ⟨a, b, ns ++ repL ls (i + 1), by rw [e4, repI]; unfold eI; rw [List.map_append], ha, hb, k1, rfl⟩) (Nat.le_of_ble_eq_true rfl) scGrows.nd rfl (Or.inl rfl))
      (gss_cons (gs_append (i := 5) (x := grP m t ((i : Nat) + 1)) rfl rfl (Or.inl rfl) (ge_is (ge_tup (ga_cons (ge_sub (ge_ixT (xs := [.int (m0 + ((i + 1 : Nat) : Int) * m), .int (t0 + ((i + 1 : Nat) : Int) * t)]) (ge_is (gv 7) k3) ge_int rfl) (ge_ixT (xs := [.int m0, .int t0]) (gv 4) ge_int rfl)) (ga_cons (ge_sub (ge_ixT (xs := [.int (m0 + ((i + 1 : Nat) : Int) * m), .int (t0 + ((i + 1 : Nat) : Int) * t)]) (ge_is (gv 7) k3) ge_int rfl) (ge_ixT (xs := [.int m0, .int t0]) (gv 4) ge_int rfl)) ga_nil)) (Nat.le_of_ble_eq_true rfl)) ?eG) (by rw [hl, sizeLine_eq]; omega) (fun l z => by cases z)) gss_nil)) ⟨.inr rfl, .inr rfl, .inr rfl, .inr rfl, .inr rfl, .inr rfl, .inl rfl, .inl rfl, .inl rfl, trivial⟩
    case eG =>
      unfold grP
      rw [Int.natCast_succ, show m0 + ((i : Int) + 1) * m - m0 = ((i : Int) + 1) * m by omega, show t0 + ((i : Int) + 1) * t - t0 = ((i : Int) + 1) * t by omega]
end
end G
set_option maxHeartbeats 4000000
/-! F27: rows_up_to. -/
namespace Mi
def extRow (r : List Int) : List (List Int) := (List.range (maxI r + 2).toNat).map fun t : Nat => r ++ [(t : Int)]
def layerR : Nat → List (List Int)
  | 0 => [[]]
  | i + 1 => (layerR i).flatMap extRow
def foundR : Nat → List (List Int)
  | 0 => [[]]
  | i + 1 => foundR i ++ layerR (i + 1)
theorem layerR_sz : ∀ i ≤ 5, (layerR i).length ≤ 52 ∧ (foundR i).length ≤ 76 := by
  have h : ∀ i ∈ [0, 1, 2, 3, 4, 5], (layerR i).length ≤ 52 ∧ (foundR i).length ≤ 76 := by decide +kernel
  intro i hi
  exact h i (by simp; omega)
theorem layerR_row : ∀ i ≤ 5, ∀ r ∈ layerR i, r.length ≤ 5 ∧ maxI r ≤ 4 := by
  have h : ∀ i ∈ [0, 1, 2, 3, 4, 5], ∀ r ∈ layerR i, r.length ≤ 5 ∧ maxI r ≤ 4 := by decide +kernel
  intro i hi
  exact h i (by simp; omega)
theorem foundR_ok : ∀ r ∈ foundR 5, r.length ≤ 5 ∧ ∀ x ∈ r, 0 ≤ x ∧ x ≤ 99 := by decide +kernel
theorem maxI_mem : ∀ l : List Int, maxI l = -1 ∨ maxI l ∈ l
  | [] => .inl rfl
  | x :: xs => by
    unfold maxI
    split
    · exact .inr (.head _)
    · rcases maxI_mem xs with h | h
      · exact .inl h
      · exact .inr (.tail _ h)
end Mi
namespace G
open PySem PySem.Spec PyProof.Rows L2 LamX NdefX
abbrev sRowsUp : Stmt := topS 72
abbrev nRowsUp : List Str := ["_law_most", "_law_found", "_law_layer", "_law_turn", "_law_longer", "_law_row", "_law_thing"]
theorem scRowsUp : FnScope nRowsUp ["_law_most"] (defScope sRowsUp) := ⟨rfl, rfl, rfl, by decide +kernel, rfl, by decide +kernel, by decide +kernel⟩
section
variable {P : Program} {w : World} {K : PySem.W.Frag} {mg : Str → Option Value} {base : Heap} {T : List NTab} {f : Addr} {fd : FuncData}
def preRowsUp (xs : List Vl) (y : Vl) : Prop := xs = [.int 5] ∧ y = .lst ((Mi.foundR 5).map eI)
theorem ok_rowsUp (F : Fun K "_law_rows_up_to" "_law_rows_up_to" sRowsUp f fd) (Gm : Gf mg) : FnOk P w K mg base CX0 1 f fd ["_law_most"] (spV K T preRowsUp) := by
  refine okV F scRowsUp (fun xs y ⟨e, _⟩ => by rw [e]; rfl) fun cdv A outer s H E B xs y hT hr ⟨e1, e2⟩ => ?_
  subst e1 e2 hT
  let Γf : Nat → List Sl := fun i => [.va (.int 5), .va (.lst ((Mi.foundR i).map eI)), .va (.lst ((Mi.layerR i).map eI)), .no, .no, .no, .no]
  let Γi : Nat → Nat → List Sl := fun i j => [.va (.int 5), .va (.lst ((Mi.foundR i).map eI)), .va (.lst ((Mi.layerR i).map eI)), .no, .ow none (owL K ((((Mi.layerR i).take j).flatMap Mi.extRow).map eI)), .no, .no]
  refine ⟨Γf 5, grs_cons (gs_to (Γ2 := Γf 0) (gs_par (i := 1) (j := 2) (gm_v (go_v (go_lst (ga_cons (ge_tup ga_nil (Nat.zero_le _)) ga_nil) (Nat.le_of_ble_eq_true rfl))) (gm_v (go_v (go_lst (ga_cons (ge_tup ga_nil (Nat.zero_le _)) ga_nil) (Nat.le_of_ble_eq_true rfl))) gm_nil)) rfl scRowsUp.nd rfl rfl (by decide) (Nat.le_of_ble_eq_true rfl) (Nat.le_of_ble_eq_true rfl) rfl rfl rfl) rfl)
    (grs_cons (gs_to (Γ2 := Γf 5) (gs_for (T := .nm 3) (xs := rng 0 5) Γf PassesOwn.never rfl (gi_rng1 (j := 5) rfl Gm.range (ga_cons (gv 0) ga_nil) (by decide)) (pg_name scRowsUp.nd rfl (Or.inl rfl)) (fun _ _ => trivial) (fun i hi j hj => ?_) (fun S1 i x hx => ?_)) rfl)
    (grs_one (gr_ret (gv 1))))⟩
  · have : j = 3 := by simpa [Tg.idx] using hj
    subst this
    exact Nat.le_of_ble_eq_true rfl
  · obtain ⟨hi, ex⟩ := rng_get hx
    subst ex
    have hi : i < 5 := hi
    have sz := Mi.layerR_sz i (by omega)
    have sz1 := Mi.layerR_sz (i + 1) (by omega)
    have rw5 := Mi.layerR_row i (by omega)
    have hpre : ∀ j, (((Mi.layerR i).take j).flatMap Mi.extRow).length ≤ 52 := fun j => by
      have e : Mi.layerR (i + 1) = ((Mi.layerR i).take j).flatMap Mi.extRow ++ ((Mi.layerR i).drop j).flatMap Mi.extRow := by
        rw [← List.flatMap_append, List.take_append_drop]; rfl
      have := sz1.1
      rw [e, List.length_append] at this
      omega
    have eEnd : ((Mi.layerR i).take (Mi.layerR i).length).flatMap Mi.extRow = Mi.layerR (i + 1) := by rw [List.take_length]; rfl
    refine gss_cons (gs_weak (Γ2 := Γi i 0) (gs_to (Γ2 := [.va (.int 5), .va (.lst ((Mi.foundR i).map eI)), .va (.lst ((Mi.layerR i).map eI)), .va (.int (0 + (i : Int))), .ow none (owL K []), .no, .no]) (gs_asgO (i := 4) (o := owL K []) (go_lst ga_nil (Nat.zero_le _)) (Nat.le_of_ble_eq_true rfl) scRowsUp.nd rfl (Or.inl rfl)) rfl) ⟨.inr rfl, .inr rfl, .inr rfl, .inl rfl, .inr rfl, .inr rfl, .inr rfl, trivial⟩)
      (gss_cons (gs_to (Γ2 := Γi i (Mi.layerR i).length) (gs_for (T := .nm 5) (xs := (Mi.layerR i).map eI) (Γi i) PassesOwn.never rfl (gi_lst (gv 2)) (pg_name scRowsUp.nd rfl (Or.inr rfl)) (fun _ _ => trivial) (fun i2 hi2 j hj => ?_) (fun S2 j x hx => ?_)) (by rw [List.length_map]))
      (gss_freeze (i := 4) (x := .lst ((Mi.layerR (i + 1)).map eI)) (by show some (Sl.ow none (owL K _)) = _; rw [eEnd]; rfl) owL_lst
      (gss_weak (Γ1 := [.va (.int 5), .va (.lst ((Mi.foundR (i + 1)).map eI)), .va (.lst ((Mi.layerR (i + 1)).map eI)), .no, .va (.lst ((Mi.layerR (i + 1)).map eI)), .no, .no]) (gss_cons (gs_to (gs_par (i := 1) (j := 2) (m1 := .va (.lst ((Mi.foundR i).map eI ++ (Mi.layerR (i + 1)).map eI))) (m2 := .va (.lst ((Mi.layerR (i + 1)).map eI))) (gm_v (go_v (go_catL (gv 1) (gv 4) (by rw [List.length_map, List.length_map, sizeLine_eq]; omega))) (gm_v (gv 4) gm_nil)) rfl scRowsUp.nd rfl rfl (by decide) (Nat.le_of_ble_eq_true rfl) (Nat.le_of_ble_eq_true rfl) rfl rfl rfl)
        (by rw [← List.map_append]; rfl)) gss_nil) ⟨.inr rfl, .inr rfl, .inr rfl, .inr rfl, .inl rfl, .inr rfl, .inr rfl, trivial⟩)))
    · have : j = 5 := by simpa [Tg.idx] using hj
      subst this
      exact Nat.le_of_ble_eq_true rfl
    · rw [List.getElem?_map] at hx
      cases hj : (Mi.layerR i)[j]? with
      | none => rw [hj] at hx; cases hx
      | some r =>
        rw [hj] at hx
        cases hx
        have hm : r ∈ Mi.layerR i := List.mem_of_getElem? hj
        have etk : (Mi.layerR i).take (j + 1) = (Mi.layerR i).take j ++ [r] := by rw [List.take_add_one, hj]; rfl
        have e : Γi i (j + 1) = [.va (.int 5), .va (.lst ((Mi.foundR i).map eI)), .va (.lst ((Mi.layerR i).map eI)), .no, .ow none (owL K ((((Mi.layerR i).take j).flatMap Mi.extRow).map eI ++ (Mi.extRow r).map eI)), .no, .no] := by
          show [_, _, _, _, Sl.ow none (owL K ((((Mi.layerR i).take (j + 1)).flatMap Mi.extRow).map eI)), _, _] = _
          rw [etk, List.flatMap_append, List.map_append, List.flatMap_singleton]
        rw [e]
        obtain ⟨r5, m4⟩ := rw5 r hm
        have mg := Mi.maxI_ge r
        have hxl : (Mi.extRow r).length ≤ 6 := by unfold Mi.extRow; rw [List.length_map, List.length_range]; omega
        have eX : (Mi.extRow r).map eI = (List.range (Mi.maxI r + 2).toNat).map fun t : Nat => eI (r ++ [(t : Int)]) := by unfold Mi.extRow; rw [List.map_map]; rfl
        refine gss_weak (Γ1 := [.va (.int 5), .va (.lst ((Mi.foundR i).map eI)), .va (.lst ((Mi.layerR i).map eI)), .no, .ow none (owL K ((((Mi.layerR i).take j).flatMap Mi.extRow).map eI ++ (Mi.extRow r).map eI)), .va (eI r), .no])
          (gss_cons (gs_to (gs_extend (i := 4) (ys := (Mi.extRow r).map eI) rfl rfl (Or.inl rfl) (go_v (xs := (Mi.extRow r).map eI) ?lc) (by rw [List.length_map, List.length_map, sizeLine_eq]; have := hpre j; omega) (fun l z => by cases z)) rfl) gss_nil) ⟨.inr rfl, .inr rfl, .inr rfl, .inr rfl, .inr rfl, .inl rfl, .inr rfl, trivial⟩
        case lc =>
          rw [eX]
          refine go_lc (T := .nm 6) (own := [("_law_thing", 6)]) (as := List.range (Mi.maxI r + 2).toNat) (fun t : Nat => .int (t : Int)) (fun t : Nat => eI (r ++ [(t : Int)])) rfl scRowsUp.nd ?it (blkOk_by (N := nRowsUp) (sc := defScope sRowsUp) (by decide +kernel)) (fun _ _ _ _ _ => pg_name scRowsUp.nd rfl (Or.inl rfl))
            (fun s H C cl fp a ha => ge_is (ge_catT (xs := r.map .int) (ys := [.int (a : Int)]) (gv 5) (ge_tup (ga_cons (gv 6) ga_nil) (Nat.le_of_ble_eq_true rfl)) (by rw [List.length_map, sizeLine_eq]; show r.length + 1 ≤ _; omega)) (by unfold eI; rw [List.map_append]; rfl)) (by rw [List.length_range, sizeLine_eq]; omega) (fun _ _ => trivial) (fun j hj => ?_)
          · have er : (List.range (Mi.maxI r + 2).toNat).map (fun t : Nat => Vl.int (t : Int)) = rng 0 (Mi.maxI r + 2).toNat := by
              unfold rng
              refine List.map_congr_left fun t _ => ?_
              show Vl.int (t : Int) = .int (0 + (t : Int))
              rw [Int.zero_add]
            rw [er]
            refine gi_rng1 (j := Mi.maxI r + 2) rfl Gm.range (ga_cons (ge_add (g_maxT (ns := r ++ [-1]) (m := Mi.maxI r) Gm rfl (ge_is (ge_catT (xs := r.map .int) (ys := [.int (-1)]) (gv 5) (ge_tup (ga_cons (ge_neg ge_int) ga_nil) (Nat.le_of_ble_eq_true rfl)) (by rw [List.length_map, sizeLine_eq]; show r.length + 1 ≤ _; omega)) (by rw [List.map_append]; rfl)) ?_ ?_) ge_int) ga_nil) (by omega)
            · rcases Mi.maxI_mem r with h | h
              · rw [h]; simp
              · exact List.mem_append_left _ h
            · intro y hy
              rcases List.mem_append.mp hy with h | h
              · exact mg.2 y h
              · rw [List.mem_singleton.mp h]; exact mg.1
          · have : j = 6 := by simpa [Tg.idx] using hj
            subst this
            exact ⟨Nat.le_of_ble_eq_true rfl, by simp⟩
end
end G
set_option maxHeartbeats 4000000
/-! F28: what excess and nested return. -/
namespace G
open PySem PySem.Spec PyProof.Rows L2 LamX NdefX
theorem sortR_perm (l : List Mi.Rc) : (sortR l).Perm l := List.mergeSort_perm ..
theorem gainOf_mi (ss : List Mi.Stp) : Mi.gainOf ss = Mi.itsS ss - Mi.mineS ss := by
  induction ss with
  | nil => rfl
  | cons s ss ih =>
    show (s.its - s.mine) + Mi.gainOf ss = (s.its + Mi.itsS ss) - (s.mine + Mi.mineS ss)
    omega
def moreOf (a b : Mi.Rl) (xs : List Int) : Int := (Mi.missesOf b xs : Nat) - (Mi.missesOf a xs : Nat)
structure ExMost (a b : Mi.Rl) (m : Int) (ns : List Int) (ps : List (Mi.Nd × Int)) : Prop where
  p : Mi.okPath a b (Mi.fstNd a b) ns
  l : ns.length ≤ 1144
  g : gainsOf (Mi.pathS a b (Mi.fstNd a b) ns) = m
  pr : PrOk a b ps
  le : ∀ p ∈ ps, p.2 ≤ m
  m0 : 0 ≤ m
  q : ∀ xs, okReq xs → moreOf a b xs ≤ m ∧ (xs.length < ns.length → moreOf a b xs ≠ m)
theorem cl_ok {a b : Mi.Rl} {N : Nat} (ha : Mi.okRl a) (hb : Mi.okRl b) (V : Mi.VOk a b N) {i : Nat} (hi : i ≤ 90000) : ClOk (Mi.gG a b N) a b i := by
  have h := Mi.lay_ok sortR_perm ha hb V i
  exact ⟨fun r hr => ⟨(h.lay r hr).1, (h.lay r hr).2.1, by rw [(h.lay r hr).2.2]; exact hi⟩, Nat.le_trans h.len (by decide), Nat.le_trans h.blen (by decide)⟩
theorem ex_most {a b : Mi.Rl} (ha : Mi.okRl a) (hb : Mi.okRl b) {c : Mi.Cl} (h : Mi.MostOk a b c) : ExMost a b c.top.value c.top.walk (sortP c.best) := by
  have pm := sortP_perm c.best
  have mem : ∀ p, p ∈ sortP c.best ↔ p ∈ c.best := fun p => pm.mem_iff
  have nd : ((sortP c.best).map (·.1)).Nodup := (pm.map _).nodup_iff.mpr h.p2
  have lk : ∀ n v, Mi.look (sortP c.best) n = some v ↔ Mi.look c.best n = some v := fun n v => by
    rw [Mi.look_nodup nd, Mi.look_nodup h.p2, mem]
  refine ⟨h.t1, h.t2, h.t3, ⟨fun p hp => h.p1 p ((mem p).mp hp), nd, (lk _ _).mpr h.p3, fun p hp s hs => ?_, by rw [pm.length_eq]; exact Nat.le_trans h.p5 (by decide)⟩, fun p hp => h.t5 _ (List.mem_map_of_mem ((mem p).mp hp)), h.t6, fun xs hx => ?_⟩
  · obtain ⟨u, h1, h2⟩ := h.p4 p ((mem p).mp hp) s hs
    exact ⟨u, (lk _ _).mpr h1, h2⟩
  · obtain ⟨ks, k1, k2, k3, k4⟩ := Mi.walk_of_req ha hb xs hx.2
    have e : Mi.gainOf (Mi.pathS a b (Mi.fstNd a b) ks) = moreOf a b xs := by rw [gainOf_mi, k3, k4]; rfl
    rw [← e]
    refine ⟨h.q1 ks k2, fun hlt z => ?_⟩
    have := h.q2 ks k2 z
    omega
theorem excess_res {a b : Mi.Rl} (ha : Mi.okRl a) (hb : Mi.okRl b) : ∃ y, preExcess [eRl a, eRl b] y ∧ ((∃ m ns ps, y = mostV m ns ps ∧ ExMost a b m ns ps) ∨ ∃ ns ls, y = everV ns ls ∧ Mi.EverOk a b ns ls) := by
  obtain ⟨N, g, hN, hN2⟩ := Mi.gOk_ex ha hb
  have V := Mi.vOk ha hb g hN2
  obtain ⟨M, hM, h1, h2, h3⟩ := Mi.climb_end sortR_perm ha hb V
  rcases h3 with h3 | ⟨h3, h4⟩
  · have hm := Mi.most_ok sortR_perm ha hb V hM h2 h3
    refine ⟨_, ⟨a, b, N, rfl, ha, hb, g, .inl ⟨M, (clG a b M).top.value, ⟨h1, h3, h2, fun i hi => cl_ok ha hb V (by omega)⟩, hm.t4, hm.t5, rfl⟩⟩, .inl ⟨_, _, _, rfl, ex_most ha hb hm⟩⟩
  · -- the first record with a node that came before
    have hex : ∃ (j : Nat) (r : Mi.Rc), (clG a b (M + 1)).layer[j]? = some r ∧ r.since ≠ none ∧ ∀ j' < j, ∀ q, (clG a b (M + 1)).layer[j']? = some q → q.since = none := by
      have go : ∀ (l : List Mi.Rc), (∃ r ∈ l, r.since ≠ none) → ∃ (j : Nat) (r : Mi.Rc), l[j]? = some r ∧ r.since ≠ none ∧ ∀ j' < j, ∀ q, l[j']? = some q → q.since = none := by
        intro l
        induction l with
        | nil => rintro ⟨r, hr, _⟩; cases hr
        | cons x l ih =>
          rintro ⟨r, hr, hs⟩
          by_cases z : x.since = none
          · have : ∃ r ∈ l, r.since ≠ none := by
              rcases List.mem_cons.mp hr with e | e
              · rw [e] at hs; exact absurd z hs
              · exact ⟨r, e, hs⟩
            obtain ⟨j, q, q1, q2, q3⟩ := ih this
            refine ⟨j + 1, q, by rw [List.getElem?_cons_succ]; exact q1, q2, fun j' hj p hp => ?_⟩
            cases j' with
            | zero =>
              have hp : x = p := by simpa using hp
              rw [← hp]; exact z
            | succ j' => exact q3 j' (by omega) p (by rw [List.getElem?_cons_succ] at hp; exact hp)
          · exact ⟨0, x, rfl, z, fun j' hj => absurd hj (Nat.not_lt_zero _)⟩
      exact go _ h4
    obtain ⟨j, r, j1, j2, j3⟩ := hex
    obtain ⟨bf, hbf⟩ := Option.ne_none_iff_exists'.mp j2
    have ev := Mi.ever_ok sortR_perm ha hb V hM (List.mem_of_getElem? j1) hbf
    refine ⟨_, ⟨a, b, N, rfl, ha, hb, g, .inr ⟨M, j, r, bf, ⟨fun i hi => ?_, h2, fun i hi => cl_ok ha hb V (by omega), j1, hbf, j3⟩, rfl⟩⟩, .inr ⟨_, _, rfl, ev.1⟩⟩
    rcases Nat.lt_or_eq_of_le hi with q | q
    · exact h1 i q
    · rw [q]; exact h3
theorem excess_flat {a b : Mi.Rl} (ha : Mi.okRl a) (hb : Mi.okRl b) (hf : Mi.Flat a b) : ∃ ps, preExcess [eRl a, eRl b] (mostV 0 [] ps) := by
  obtain ⟨N, g, hN, hN2⟩ := Mi.gOk_ex ha hb
  have V := Mi.vOk ha hb g hN2
  obtain ⟨M, hM, h1, h2, h3⟩ := Mi.climb_end sortR_perm ha hb V
  rcases h3 with h3 | ⟨h3, r, hr, hs⟩
  · have hm := Mi.most_ok sortR_perm ha hb V hM h2 h3
    have ht := Mi.flat_top sortR_perm ha hb V hf M
    have e1 : (clG a b M).top.value = 0 := by show (Mi.cl sortR a b M).top.value = 0; rw [ht]; rfl
    have e2 : (clG a b M).top.walk = [] := by show (Mi.cl sortR a b M).top.walk = []; rw [ht]; rfl
    refine ⟨sortP (clG a b M).best, a, b, N, rfl, ha, hb, g, .inl ⟨M, (clG a b M).top.value, ⟨h1, h3, h2, fun i hi => cl_ok ha hb V (by omega)⟩, hm.t4, hm.t5, ?_⟩⟩
    rw [e1, e2]
  · obtain ⟨bf, hbf⟩ := Option.ne_none_iff_exists'.mp hs
    obtain ⟨_, k1, k2, k3⟩ := Mi.ever_ok sortR_perm ha hb V hM hr hbf
    have := Mi.flat_anc hf k2 k3
    omega
theorem nested_res {a b : Mi.Rl} (ha : Mi.okRl a) (hb : Mi.okRl b) (hab : a.places ≤ b.places) : ∃ y, preNested [eRl a, eRl b] y ∧ ((∃ z, y = .tup [.str "nested", z] ∧ Mi.Flat a b) ∨ ∃ ns, y = .tup [.str "apart", eI ns]) := by
  obtain ⟨N, g, hN, hN2⟩ := Mi.gOk_ex ha hb
  have V := Mi.vOk ha hb g hN2
  by_cases h : ∀ p ∈ Mi.gW a b N, within p.1 = true
  · refine ⟨_, ⟨a, b, N, rfl, ha, hb, hab, g, .inl ⟨h, rfl⟩⟩, .inl ⟨_, rfl, Mi.flat_within V fun n hn x hx => ?_⟩⟩
    obtain ⟨p, hp, rfl⟩ := List.mem_map.mp hn
    have := List.all_eq_true.mp (h p hp) x hx
    rcases Bool.or_eq_true_iff.mp this with q | q
    · exact .inl (of_decide_eq_true q)
    · exact .inr (of_decide_eq_true q)
  · have go : ∀ l : List (Mi.Nd × List Int), ¬ (∀ p ∈ l, within p.1 = true) → ∃ (i : Nat) (p : Mi.Nd × List Int), l[i]? = some p ∧ within p.1 = false ∧ ∀ j < i, ∀ q, l[j]? = some q → within q.1 = true := by
      intro l
      induction l with
      | nil => intro z; exact absurd (fun p hp => by cases hp) z
      | cons x l ih =>
        intro z
        cases hx : within x.1 with
        | false => exact ⟨0, x, rfl, hx, fun j hj => absurd hj (Nat.not_lt_zero _)⟩
        | true =>
          obtain ⟨i, p, h1, h2, h3⟩ := ih fun w => z fun p hp => by
            rcases List.mem_cons.mp hp with e | e
            · rw [e]; exact hx
            · exact w p e
          refine ⟨i + 1, p, by rw [List.getElem?_cons_succ]; exact h1, h2, fun j hj q hq => ?_⟩
          cases j with
          | zero =>
            have hq : x = q := by simpa using hq
            rw [← hq]; exact hx
          | succ j => exact h3 j (by omega) q (by rw [List.getElem?_cons_succ] at hq; exact hq)
    obtain ⟨i, p, h1, h2, h3⟩ := go _ h
    exact ⟨_, ⟨a, b, N, rfl, ha, hb, hab, g, .inr ⟨i, p, h1, h2, h3, rfl⟩⟩, .inr ⟨_, rfl⟩⟩
end G
set_option maxHeartbeats 4000000
/-! F29: more, most_right, right. -/
namespace G
open PySem PySem.Spec PyProof.Rows L2 LamX NdefX
abbrev sMore : Stmt := topS 87
theorem scMore : FnScope ["_law_one", "_law_other", "_law_wishes_here"] ["_law_one", "_law_other", "_law_wishes_here"] (defScope sMore) := ⟨rfl, rfl, rfl, by decide +kernel, rfl, by decide +kernel, by decide +kernel⟩
abbrev sMostR : Stmt := topS 88
abbrev nMostR : List Str := ["_law_one", "_law_other", "_law_told", "_law_every", "_law_word", "_law_most", "_law_walk", "_law_prices", "_law_mine", "_law_its", "_law_wishes_here", "_law_more_here"]
theorem scMostR : FnScope nMostR ["_law_one", "_law_other", "_law_told", "_law_every"] (defScope sMostR) := ⟨rfl, rfl, rfl, by decide +kernel, rfl, by decide +kernel, by decide +kernel⟩
abbrev sRight : Stmt := topS 89
abbrev nRight : List Str := ["_law_one", "_law_other", "_law_every", "_law_told", "_law_adds"]
theorem scRight : FnScope nRight ["_law_one", "_law_other", "_law_every"] (defScope sRight) := ⟨rfl, rfl, rfl, by decide +kernel, rfl, by decide +kernel, by decide +kernel⟩
section
variable {X : Cx} {B : Bs} {Γ : List Sl} {a b : Expr} {pos : Pos}
theorem gt_isnotB {c d : Bool} (ha : GE X B Γ a (.bl c)) (hb : GE X B Γ b (.bl d)) : GT X B Γ (.Compare a [.IsNot] [b] pos) (!decide (c = d)) :=
  gt_cmp op_isnot_bl ha hb (fun v u S H Q st q1 q2 k => ⟨c, d, q1, q2, k _ S H st.refl rfl⟩) (nomark _)
end
section
variable {P : Program} {w : World} {K : PySem.W.Frag} {mg : Str → Option Value} {base : Heap} {T : List NTab} {f : Addr} {fd : FuncData}
def preMore (xs : List Vl) (y : Vl) : Prop := ∃ (a b : Mi.Rl) (ns : List Int), xs = [eRl a, eRl b, eI ns] ∧ Mi.okRl a ∧ Mi.okRl b ∧ okReq ns ∧ y = .int (moreOf a b ns)
theorem ok_more (F : Fun K "_law_more" "_law_more" sMore f fd) (F1 : D P w K mg base T 10 "misses" ["rule", "requests"] preMisses) : FnOk P w K mg base CX0 11 f fd ["_law_one", "_law_other", "_law_wishes_here"] (spV K T preMore) := by
  refine okV F scMore (fun xs y ⟨_, _, _, e, _⟩ => by rw [e]; rfl) fun cdv A outer s H E B xs y hT hr ⟨a, b, ns, e1, ha, hb, hq, e2⟩ => ?_
  subst e1 e2 hT
  exact ⟨_, grs_one (gr_ret (ge_sub (ge_call F1 hr (by omega) rfl (ga_cons (gv 1) (ga_cons (gv 2) ga_nil)) ⟨b, ns, rfl, hb, hq, rfl⟩) (ge_call F1 hr (by omega) rfl (ga_cons (gv 0) (ga_cons (gv 2) ga_nil)) ⟨a, ns, rfl, ha, hq, rfl⟩)))⟩
def preMostR (xs : List Vl) (y : Vl) : Prop := ∃ (a b : Mi.Rl) (m : Int) (ns : List Int) (ps : List (Mi.Nd × Int)) (ws : List (List Int)), xs = [eRl a, eRl b, mostV m ns ps, .lst (ws.map eI)] ∧ Mi.okRl a ∧ Mi.okRl b ∧ ExMost a b m ns ps ∧ (∀ v ∈ ws, okReq v) ∧ y = .bl true
theorem ok_mostR (F : Fun K "_law_most_right" "_law_most_right" sMostR f fd) (Gm : Gf mg) (F1 : D P w K mg base T 10 "_law_both" ["_law_one", "_law_other", "_law_walk"] preBoth) (F2 : D P w K mg base T 11 "_law_more" ["_law_one", "_law_other", "_law_wishes_here"] preMore) :
    FnOk P w K mg base CX0 12 f fd ["_law_one", "_law_other", "_law_told", "_law_every"] (spV K T preMostR) := by
  refine okV F scMostR (fun xs y ⟨_, _, _, _, _, _, e, _⟩ => by rw [e]; rfl) fun cdv A outer s H E B xs y hT hr ⟨a, b, m, ns, ps, ws, e1, ha, hb, hM, hw, e2⟩ => ?_
  subst e1 e2 hT
  let mi : Int := Mi.mineS (Mi.pathS a b (Mi.fstNd a b) ns)
  let it : Int := Mi.itsS (Mi.pathS a b (Mi.fstNd a b) ns)
  have hg : it - mi = m := by
    have h1 := hM.g
    have h2 : Mi.gainOf (Mi.pathS a b (Mi.fstNd a b) ns) = m := h1
    rw [gainOf_mi] at h2
    exact h2
  let Γf : List Sl := [.va (eRl a), .va (eRl b), .va (mostV m ns ps), .va (.lst (ws.map eI)), .va (.str "most"), .va (.int m), .va (eI ns), .va (.tud (ps.map ePr)), .va (.int mi), .va (.int it), .no, .no]
  refine ⟨Γf, grs_cons (gs_unp (is := [4, 5, 6, 7]) (xs := [.str "most", .int m, eI ns, .tud (ps.map ePr)]) (gv 2) (pgNc (i := 4) scMostR.nd rfl (pgNc (i := 5) scMostR.nd rfl (pgNc (i := 6) scMostR.nd rfl (pgNc (i := 7) scMostR.nd rfl pgN0)))))
    (grs_cons (gs_to (Γ2 := Γf) (gs_unp (is := [8, 9]) (xs := [.int mi, .int it]) (ge_call F1 hr (by omega) rfl (ga_cons (gv 0) (ga_cons (gv 1) (ga_cons (gv 6) ga_nil))) ⟨a, b, ns, rfl, ha, hb, hM.p, rfl⟩) (pgNc (i := 8) scMostR.nd rfl (pgNc (i := 9) scMostR.nd rfl pgN0))) rfl)
    (grs_cons (gs_skip (gw_t (gw_orF (gt_is (gt_neI (ge_sub (gv 9) (gv 8)) (gv 5)) (by rw [decide_eq_true hg]; rfl)) (gw_or1 (gt_is (gt_lt (gv 5) ge_int) (decide_eq_false (by have := hM.m0; omega)))))))
    (grs_cons (gs_for (T := .nm 10) (xs := ws.map eI) (fun _ => Γf) PassesOwn.never rfl (gi_lst (gv 3)) (pg_name scMostR.nd rfl (Or.inl rfl)) (fun _ _ => trivial) (fun i hi j hj => ?_) (fun S1 i x hx => ?_))
    (grs_one (gr_ret ge_bl)))))⟩
  · have : j = 10 := by simpa [Tg.idx] using hj
    subst this
    exact Nat.le_of_ble_eq_true rfl
  · rw [List.getElem?_map] at hx
    cases hi : ws[i]? with
    | none => rw [hi] at hx; cases hx
    | some v =>
      rw [hi] at hx
      cases hx
      have hv := hw v (List.mem_of_getElem? hi)
      obtain ⟨q1, q2⟩ := hM.q v hv
      refine gss_weak (Γ1 := [.va (eRl a), .va (eRl b), .va (mostV m ns ps), .va (.lst (ws.map eI)), .va (.str "most"), .va (.int m), .va (eI ns), .va (.tud (ps.map ePr)), .va (.int mi), .va (.int it), .va (eI v), .va (.int (moreOf a b v))])
        (gss_cons (gs_asg (i := 11) (y := .int (moreOf a b v)) (ge_call F2 hr (by omega) rfl (ga_cons (gv 0) (ga_cons (gv 1) (ga_cons (gv 10) ga_nil))) ⟨a, b, v, rfl, ha, hb, hv, rfl⟩) (Nat.le_of_ble_eq_true rfl) scMostR.nd rfl (Or.inl rfl))
        (gss_cons (gs_skip (gw_t (gw_orF (gt_is (gt_gt (gv 11) (gv 5)) (decide_eq_false (by omega))) (gw_or1 ?tst)))) gss_nil)) ⟨.inr rfl, .inr rfl, .inr rfl, .inr rfl, .inr rfl, .inr rfl, .inr rfl, .inr rfl, .inr rfl, .inr rfl, .inl rfl, .inl rfl, trivial⟩
      by_cases z : v.length < ns.length
      · exact gw_t (gw_andT (gt_is (gt_lt (g_len (xs := v.map .int) Gm (gv 10)) (g_len (xs := ns.map .int) Gm (gv 6))) (by rw [List.length_map, List.length_map]; exact decide_eq_true (by omega))) (gw_and1 (gt_is (gt_eqI (gv 11) (gv 5)) (decide_eq_false (q2 z)))))
      · exact gw_t (gw_andF (gt_is (gt_lt (g_len (xs := v.map .int) Gm (gv 10)) (g_len (xs := ns.map .int) Gm (gv 6))) (by rw [List.length_map, List.length_map]; exact decide_eq_false (by omega))))
theorem tup_notB {xs : List Vl} (v : V) (S : Hp) (r : rep K S (.tup xs) v) : (!decide (v = .non)) = true := by
  obtain ⟨a, vs, e, _⟩ := r
  rw [e, decide_eq_false (fun z => by cases z)]; rfl
def preRight (xs : List Vl) (y : Vl) : Prop := ∃ (a b : Mi.Rl) (ws : List (List Int)), xs = [eRl a, eRl b, .lst (ws.map eI)] ∧ Mi.okRl a ∧ Mi.okRl b ∧ (∀ v ∈ ws, okReq v) ∧ y = .bl true
theorem ok_right (F : Fun K "_law_right" "_law_right" sRight f fd) (F1 : D P w K mg base T 9 "excess" ["one", "other"] preExcess) (F2 : D P w K mg base T 9 "shows_excess" ["one", "other", "thing"] preShowsE) (F3 : D P w K mg base T 12 "_law_most_right" ["_law_one", "_law_other", "_law_told", "_law_every"] preMostR)
    (F4 : D P w K mg base T 11 "_law_grows" ["_law_one", "_law_other", "_law_way", "_law_about"] preGrows) : FnOk P w K mg base CX0 13 f fd ["_law_one", "_law_other", "_law_every"] (spV K T preRight) := by
  refine okV F scRight (fun xs y ⟨_, _, _, e, _⟩ => by rw [e]; rfl) fun cdv A outer s H E B xs y hT hr ⟨a, b, ws, e1, ha, hb, hw, e2⟩ => ?_
  subst e1 e2 hT
  obtain ⟨yv, hy, h⟩ := excess_res ha hb
  rcases h with ⟨m, ns, ps, e, hM⟩ | ⟨ns, ls, e, hE⟩
  · subst e
    have hl := hM.l
    exact ⟨_, grs_cons (gs_asg (i := 3) (y := mostV m ns ps) (ge_call F1 hr (by omega) rfl (ga_cons (gv 0) (ga_cons (gv 1) ga_nil)) hy) (Nat.le_of_ble_eq_true rfl) scRight.nd rfl (Or.inl rfl))
      (grs_cons (gs_skip (gt_is (gt_isnotB (ge_call F2 hr (by omega) rfl (ga_cons (gv 0) (ga_cons (gv 1) (ga_cons (gv 3) ga_nil))) ⟨a, b, ha, hb, rfl, .inl ⟨m, ns, ps, rfl, hM.p, by omega, hM.g, hM.pr, hM.le⟩⟩) ge_bl) rfl))
      (grs_one (gr_ifT (gt_is (gt_eqS (ge_ixT (xs := [.str "most", .int m, eI ns, .tud (ps.map ePr)]) (gv 3) ge_int rfl) ge_str) rfl) (grs_one (gr_ret (ge_call F3 hr (by omega) rfl (ga_cons (gv 0) (ga_cons (gv 1) (ga_cons (gv 3) (ga_cons (gv 2) ga_nil)))) ⟨a, b, m, ns, ps, ws, rfl, ha, hb, hM, hw, rfl⟩))))))⟩
  · subst e
    have l1 := hE.l1
    have l2 := hE.l2
    have hg : grM a b ns ls < grI a b ns ls := by
      have h1 := hE.g
      rw [gainOf_mi] at h1
      unfold grM grI
      omega
    exact ⟨_, grs_cons (gs_asg (i := 3) (y := everV ns ls) (ge_call F1 hr (by omega) rfl (ga_cons (gv 0) (ga_cons (gv 1) ga_nil)) hy) (Nat.le_of_ble_eq_true rfl) scRight.nd rfl (Or.inl rfl))
      (grs_cons (gs_skip (gt_is (gt_isnotB (ge_call F2 hr (by omega) rfl (ga_cons (gv 0) (ga_cons (gv 1) (ga_cons (gv 3) ga_nil))) ⟨a, b, ha, hb, rfl, .inr ⟨ns, ls, rfl, hE.w1, hE.w2, hE.ne, hE.e, by omega, by omega, hE.g⟩⟩) ge_bl) rfl))
      (grs_cons (gs_skip (gt_is (gt_eqS (ge_ixT (xs := [.str "ever", eI ns, eI ls]) (gv 3) ge_int rfl) ge_str) (by decide)))
      (grs_cons (gs_asg (i := 4) (y := .tup [.int (1 * grM a b ns ls), .int (1 * grI a b ns ls)]) (ge_call F4 hr (by omega) rfl (ga_cons (gv 0) (ga_cons (gv 1) (ga_cons (ge_ixT (xs := [.str "ever", eI ns, eI ls]) (gv 3) ge_int rfl) (ga_cons (ge_ixT (xs := [.str "ever", eI ns, eI ls]) (gv 3) ge_int rfl) ga_nil)))) ⟨a, b, ns, ls, rfl, ha, hb, hE, rfl⟩) (Nat.le_of_ble_eq_true rfl) scRight.nd rfl (Or.inl rfl))
      (grs_one (gr_ret (ge_andT (ge_is (ge_eqS (ge_ixT (xs := [.str "ever", eI ns, eI ls]) (gv 3) ge_int rfl) ge_str) rfl) (ge_andT (ge_notN (d := true) (gv 4) tup_notB) (ge_one (ge_is (ge_gt (ge_ixT (xs := [.int (1 * grM a b ns ls), .int (1 * grI a b ns ls)]) (gv 4) ge_int rfl) (ge_ixT (xs := [.int (1 * grM a b ns ls), .int (1 * grI a b ns ls)]) (gv 4) ge_int rfl)) (by rw [Int.one_mul, Int.one_mul, decide_eq_true hg])))))))))) ⟩
end
end G
set_option maxHeartbeats 4000000
/-! F30: the law, walked. -/
namespace G
open PySem PySem.Spec PyProof.Rows L2 LamX NdefX
abbrev sLaw : Stmt := topS 90
abbrev nLaw : List Str := ["_law_script", "_law_every", "_law_k", "_law_pen_here", "_law_first", "_law_second", "_law_turn", "_law_drawn_here", "_law_one", "_law_other"]
theorem scLaw : FnScope nLaw ["_law_script"] (defScope sLaw) := ⟨rfl, rfl, rfl, by decide +kernel, rfl, by decide +kernel, by decide +kernel⟩
theorem dat_sMost {n : Nat} : Dat n (.str "most") := ⟨rfl, rfl, by decide +kernel, Nat.zero_le _, Nat.zero_le _⟩
theorem gr_try {X : Cx} {B : Bs} {Γ Γ' : List Sl} {y : Vl} {bd : List Stmt} {h₀ : ExceptHandler} {hs : List ExceptHandler} {pos : Pos} (h : GRs X.nox B Γ bd Γ' y) : GR X B Γ (.Try bd (h₀ :: hs) [] [] pos) Γ' y := ps_try_thru0 h
def most0 : Vl := .tup [.str "most", .int 0, .tup []]
theorem dat_most0 : Dat 2 most0 := Dat.tup fun x hx => by
  simp only [List.mem_cons, List.not_mem_nil, or_false] at hx
  rcases hx with rfl | rfl | rfl
  · exact dat_sMost
  · exact Dat.int _
  · exact Dat.tup fun y hy => by cases hy
/-- the pens behind the wishes -/
def dwP (p : Pen) : Nat → Pen
  | 0 => riseN p
  | i + 1 => wiN (dwP p i)
theorem dwP_ok {c : Int} {p : Pen} (hp : PenOk c p) : ∀ i : Nat, PenOk (c + 130 + 45 * i) (dwP p i)
  | 0 => (rise_ok hp).2.2.2.mono (by omega)
  | i + 1 => (wiL_req (dwP_ok hp i)).2.mono (by omega)
def dwL (p : Pen) : List (List Int) := (List.range 6).map fun i => wiL (dwP p i)
section
variable {P : Program} {w : World} {K : PySem.W.Frag} {mg : Str → Option Value} {base : Heap} {T : List NTab} {f : Addr} {fd : FuncData}
def preLaw (K : PySem.W.Frag) (xs : List Vl) (y : Vl) : Prop := ∃ ns : List Int, xs = [scV K ns] ∧ y = .bl true
theorem ok_law (F : Fun K "law" "law" sLaw f fd) (Gm : Gf mg) (F1 : D P w K mg base T 1 "_law_rows_up_to" ["_law_most"] preRowsUp) (F2 : FnG P w K mg base 1 "_law_pen" ["_law_cell"] (spO K T (prePen K))) (F3 : D P w K mg base T 1 "_law_cell_at" ["_law_script", "_law_k"] (preCellAt K))
    (F4 : DM P w K mg base T 5 "_law_rising_two" ["_law_pen_here", "_law_most"] preRise) (F5 : DM P w K mg base T 3 "_law_wishes" ["_law_pen_here", "_law_most", "_law_many"] preWishes) (F6 : D P w K mg base T 13 "_law_right" ["_law_one", "_law_other", "_law_every"] preRight)
    (F7 : D P w K mg base T 9 "excess" ["one", "other"] preExcess) (F8 : D P w K mg base T 10 "nested" ["one", "other"] preNested) : FnOk P w K mg base CX0 14 f fd ["_law_script"] (spV K T (preLaw K)) := by
  refine okV F scLaw (fun xs y ⟨_, e, _⟩ => by rw [e]; rfl) fun cdv A outer s H E B xs y hT hr ⟨ns, e1, e2⟩ => ?_
  subst e1 e2 hT
  let X := bX P w K mg base nLaw "law" sLaw f cdv A outer s H E
  let ev : Vl := .lst ((Mi.foundR 5).map eI)
  let Γa : List Sl := [.va (scV K ns), .va ev, .no, .no, .no, .no, .no, .no, .no, .no]
  let mn : Int := if (2 : Int) < ((ns.length : Nat) : Int) then 2 else ((ns.length : Nat) : Int)
  let mx : Int := if mn > 1 then mn else 1
  have hmx : 0 ≤ mx ∧ mx ≤ 2 := by
    show 0 ≤ (if mn > 1 then mn else 1) ∧ (if mn > 1 then mn else 1) ≤ 2
    have : mn ≤ 2 := by
      show (if (2 : Int) < ((ns.length : Nat) : Int) then 2 else ((ns.length : Nat) : Int)) ≤ 2
      split <;> omega
    split <;> omega
  refine ⟨Γa, grs_one (gr_try (grs_cons (gs_to (Γ2 := Γa) (gs_asg (i := 1) (y := ev) (ge_call F1 hr (by omega) rfl (ga_cons ge_int ga_nil) ⟨rfl, rfl⟩) (Nat.le_of_ble_eq_true rfl) scLaw.nd rfl (Or.inl rfl)) rfl)
    (grs_cons (gs_for (T := .nm 2) (xs := rng 0 mx.toNat) (fun _ => Γa) PassesOwn.never rfl (gi_rng1 (j := mx) rfl Gm.range (ga_cons (g_max2 Gm rfl ge_int (g_min2 Gm rfl (g_lenS Gm (gv 0)) ge_int)) ga_nil) (by omega)) (pg_name scLaw.nd rfl (Or.inl rfl)) (fun _ _ => trivial) (fun i hi j hj => ?_) (fun S1 i x hx => ?_))
    (grs_one (gr_ret ge_bl)))))⟩
  · have : j = 2 := by simpa [Tg.idx] using hj
    subst this
    exact Nat.le_of_ble_eq_true rfl
  · obtain ⟨hi, ex⟩ := rng_get hx
    subst ex
    have ek : Vl.int (0 + (i : Int)) = .int (i : Nat) := by rw [Int.zero_add]
    let p0 : Pen := penOf (ns.getD i 0)
    have hp : PenOk 0 p0 := penOf_ok _
    obtain ⟨ha, hb, hab, hN⟩ := rise_ok hp
    have dw := dwP_ok hp
    generalize hra : riseA p0 = a at ha hab
    generalize hrb : riseB p0 = b at hb hab
    let dl : Vl := .lst ((dwL p0).map eI)
    let Γp : Pen → List Sl := fun q => [.va (scV K ns), .va ev, .va (.int (i : Nat)), .ow none (penW K q), .no, .no, .no, .no, .no, .no]
    let Γq : Pen → List Sl := fun q => [.va (scV K ns), .va ev, .va (.int (i : Nat)), .ow none (penW K q), .va (eRl a), .va (eRl b), .no, .no, .no, .no]
    let Γr : List Sl := [.va (scV K ns), .va ev, .va (.int (i : Nat)), .no, .va (eRl a), .va (eRl b), .no, .va dl, .no, .no]
    let Γs : Vl → Vl → List Sl := fun c d => [.va (scV K ns), .va ev, .va (.int (i : Nat)), .no, .va (eRl a), .va (eRl b), .no, .va dl, .va c, .va d]
    have hws : ∀ v ∈ Mi.foundR 5 ++ dwL p0, okReq v := fun v hv => by
      rcases List.mem_append.mp hv with h | h
      · obtain ⟨h1, h2⟩ := Mi.foundR_ok v h
        exact ⟨by omega, h2⟩
      · obtain ⟨j, _, rfl⟩ := List.mem_map.mp h
        exact (wiL_req (dw j)).1
    have hlen : (Mi.foundR 5).length ≤ 76 := (Mi.layerR_sz 5 (by decide)).2
    have hdl : (dwL p0).length = 6 := by unfold dwL; rw [List.length_map, List.length_range]
    -- nothing to gain: ("most", 0, ())
    have sl3 : ∀ {Γ : List Sl} {e : Expr} {ps : List (Mi.Nd × Int)} {hi p2 pos : Pos}, GE X.nox (B.up S1) Γ e (mostV 0 [] ps) → GE X.nox (B.up S1) Γ (.Subscript e (.Slice none (some (.Constant (.int 3) 0 hi)) none p2) pos) most0 := fun h =>
      ge_is (ge_slT h gp_none (gp_some ge_int)) rfl
    have cmp0 : ∀ {Γ : List Sl} {e : Expr} {ps : List (Mi.Nd × Int)} {q0 q1 q2 q3 q4 q5 q6 q7 : Pos}, GE X.nox (B.up S1) Γ e (mostV 0 [] ps) → GT X.nox (B.up S1) Γ (.Compare (.Subscript e (.Slice none (some (.Constant (.int 3) 0 q0)) none q1) q2) [.NotEq] [.Tuple [.Constant (.str "most") 0 q3, .Constant (.int 0) 0 q4, .Tuple [] 0 q5] 0 q6] q7) false := fun h =>
      gt_neSame (n := 2) (sl3 h) (ge_is (y := most0) (ge_tup (ga_cons ge_str (ga_cons ge_int (ga_cons (ge_tup ga_nil (Nat.zero_le _)) ga_nil))) (Nat.le_of_ble_eq_true rfl)) rfl) dat_most0 dat_most0 (by decide) rfl hr.units
    refine gss_pre (Γ1 := [.va (scV K ns), .va ev, .va (.int (i : Nat)), .no, .no, .no, .no, .no, .no, .no]) ?main ?pre
    case pre =>
      refine ⟨.inr rfl, .inr rfl, .inr ?_, .inr rfl, .inr rfl, .inr rfl, .inr rfl, .inr rfl, .inr rfl, .inr rfl, trivial⟩
      rw [← ek]
    case main =>
      refine gss_cons (gs_to (Γ2 := Γp p0) (gs_asgO (i := 3) (o := penW K p0) (go_callO F2 hr (by omega) rfl (ga_cons (ge_call F3 hr (by omega) rfl (ga_cons (gv 0) (ga_cons (gv 2) ga_nil)) ⟨ns, i, rfl, rfl⟩) ga_nil) ⟨ns.getD i 0, rfl, rfl⟩) (Nat.le_of_ble_eq_true rfl) scLaw.nd rfl (Or.inr rfl)) rfl)
        (gss_cons (gs_to (Γ2 := Γq (riseN p0)) (gs_unpV (ip := 3) (Γ1 := Γp (riseN p0)) (is := [4, 5]) (xs := [eRl a, eRl b]) (gv_to (gv_callM (X := X.nox) (B := B.up S1) (Γ1 := Γp p0) F4 hr (by omega) rfl (gva_of (ga_cons ge_int ga_nil)) rfl ⟨_, _, rfl⟩ ⟨rfl, hp.mono (by omega), rfl, by rw [hra, hrb]⟩ (fun l z => by cases z)) rfl) (pgNc (i := 4) scLaw.nd rfl (pgNc (i := 5) scLaw.nd rfl pgN0))) rfl)
        (gss_cons (gs_to (Γ2 := [.va (scV K ns), .va ev, .va (.int (i : Nat)), .ow none (penW K (dwP p0 6)), .va (eRl a), .va (eRl b), .no, .va dl, .no, .no]) (gs_lcV (ip := 3) (iy := 7) (k := 6) (xs := rng 0 6) (fun j => Γq (dwP p0 j)) (fun j => eI (wiL (dwP p0 j))) rfl scLaw.nd rfl rfl rfl (Nat.le_of_ble_eq_true rfl) (gi_rng1 (j := 6) rfl Gm.range (ga_cons ge_int ga_nil) (by decide)) (blkOk_by (N := nLaw) (sc := defScope sLaw) (by decide +kernel)) rfl rfl (fun _ _ => rfl) (fun _ _ => rfl) ⟨_, _, rfl⟩ (fun j _ k g u h => ?own)
            (fun s H C cl fp j x hx => gv_to (gv_callM (ip := 3) (B := B.up S1) (Γ1 := (Γq (dwP p0 j)).set 6 (.va x)) F5 hr (by omega) rfl (gva_of (ga_cons ge_int (ga_cons ge_int ga_nil))) rfl ⟨_, _, rfl⟩ ⟨rfl, ?penj, rfl, rfl⟩ (fun l z => by cases z)) rfl) (by rw [rng_length, sizeLine_eq]; decide)) ?eDl)
        (gss_pre (Γ1 := Γr) (gss_cons (gs_to (Γ2 := Γr) (gs_for (T := .tp [8, 9]) (xs := [.tup [eRl a, eRl b], .tup [eRl b, eRl a]]) (fun _ => Γr) PassesOwn.never rfl (gi_lst (go_v (go_lst (ga_cons (ge_tup (ga_cons (gv 4) (ga_cons (gv 5) ga_nil)) (Nat.le_of_ble_eq_true rfl)) (ga_cons (ge_tup (ga_cons (gv 5) (ga_cons (gv 4) ga_nil)) (Nat.le_of_ble_eq_true rfl)) ga_nil)) (Nat.le_of_ble_eq_true rfl)))) (pg_tup rfl (pgNc (i := 8) scLaw.nd rfl (pgNc (i := 9) scLaw.nd rfl pgN0))) (fun x hx => ?okT) (fun j hj k hk => ?idx) (fun S2 j x hx => ?body)) rfl)
          (gss_weak (Γ1 := Γr) (gss_cons (gs_skip ?nst) gss_nil) ⟨.inr rfl, .inr rfl, .inl rfl, .inr rfl, .inl rfl, .inl rfl, .inr rfl, .inl rfl, .inr rfl, .inr rfl, trivial⟩)) ⟨.inr rfl, .inr rfl, .inr rfl, .inl rfl, .inr rfl, .inr rfl, .inr rfl, .inr rfl, .inr rfl, .inr rfl, trivial⟩)))
      case own =>
        match k, h with
        | 0, h => cases h
        | 1, h => cases h
        | 2, h => cases h
        | 3, _ => exact ⟨_, _, rfl⟩
        | 4, h => cases h
        | 5, h => cases h
        | 6, h => cases h
        | 7, h => cases h
        | 8, h => cases h
        | 9, h => cases h
        | n + 10, h => cases h
      case penj =>
        obtain ⟨hj, _⟩ := rng_get hx
        exact (dw j).mono (by omega)
      case eDl =>
        have e : Vl.lst ((List.range (rng 0 6).length).map fun j => eI (wiL (dwP p0 j))) = dl := by
          show _ = Vl.lst ((dwL p0).map eI)
          unfold dwL
          rw [rng_length, List.map_map]; rfl
        rw [e]; rfl
      case okT =>
        simp only [List.mem_cons, List.not_mem_nil, or_false] at hx
        rcases hx with rfl | rfl <;> exact ⟨_, rfl, rfl⟩
      case idx =>
        have : k = 8 ∨ k = 9 := by simpa [Tg.idx] using hk
        rcases this with rfl | rfl <;> exact Nat.le_of_ble_eq_true rfl
      case body =>
        have two : ∃ c d : Mi.Rl, x = .tup [eRl c, eRl d] ∧ Mi.okRl c ∧ Mi.okRl d := by
          have hm := List.mem_of_getElem? hx
          simp only [List.mem_cons, List.not_mem_nil, or_false] at hm
          rcases hm with rfl | rfl
          · exact ⟨a, b, rfl, ha, hb⟩
          · exact ⟨b, a, rfl, hb, ha⟩
        obtain ⟨c, d, rfl, hc, hd⟩ := two
        obtain ⟨ps, hps⟩ := excess_flat hc hc (Mi.flat_same c)
        refine gss_weak (Γ1 := Γs (eRl c) (eRl d)) (gss_cons (gs_skip (gt_is (gt_not (gt_val (ge_call F6 hr (by omega) rfl (ga_cons (gv 8) (ga_cons (gv 9) (ga_cons (go_v (go_catL (gv 1) (gv 7) (by rw [List.length_map, List.length_map, hdl, sizeLine_eq]; omega))) ga_nil))) ⟨c, d, Mi.foundR 5 ++ dwL p0, by rw [List.map_append], hc, hd, hws, rfl⟩))) rfl))
          (gss_cons (gs_skip ?c0) gss_nil)) ⟨.inr rfl, .inr rfl, .inr rfl, .inr rfl, .inr rfl, .inr rfl, .inr rfl, .inr rfl, .inl rfl, .inl rfl, trivial⟩
        case c0 =>
          exact gt_neSame (n := 2) (ge_is (y := most0) (ge_slT (ge_call F7 hr (by omega) rfl (ga_cons (gv 8) (ga_cons (gv 8) ga_nil)) hps) gp_none (gp_some ge_int)) rfl) (ge_is (y := most0) (ge_tup (ga_cons ge_str (ga_cons ge_int (ga_cons (ge_tup ga_nil (Nat.zero_le _)) ga_nil))) (Nat.le_of_ble_eq_true rfl)) rfl) dat_most0 dat_most0 (by decide) rfl hr.units
      case nst =>
        obtain ⟨yn, hn, h⟩ := nested_res ha hb hab
        rcases h with ⟨z, e, hf⟩ | ⟨zs, e⟩
        · subst e
          obtain ⟨ps, hps⟩ := excess_flat ha hb hf
          exact gw_t (gw_andT (gt_is (gt_eqS (ge_ixT (xs := [.str "nested", z]) (ge_call F8 hr (by omega) rfl (ga_cons (gv 4) (ga_cons (gv 5) ga_nil)) hn) ge_int rfl) ge_str) (decide_eq_true rfl)) (gw_and1 (cmp0 (ge_call F7 hr (by omega) rfl (ga_cons (gv 4) (ga_cons (gv 5) ga_nil)) hps))))
        · subst e
          exact gw_t (gw_andF (gt_is (gt_eqS (ge_ixT (xs := [.str "apart", eI zs]) (ge_call F8 hr (by omega) rfl (ga_cons (gv 4) (ga_cons (gv 5) ga_nil)) hn) ge_int rfl) ge_str) (by decide)))
end
end G
set_option maxHeartbeats 4000000
/-! H2: every function's promise behind the head. Written by h2.py. -/
namespace GH
open PySem PySem.Spec PyProof.Rows L2 LamX NdefX G
theorem funD_fun {K : PySem.W.Frag} {x qual : Str} {st : Stmt} {f : Addr} {fd : FuncData} (F : FunD K x qual (defArgs st) (defBody st) (defScope st) [] [] f fd) : Fun K x qual st f fd := by
  obtain ⟨oc, od, dV, kV, doc, pm, an, cdv, ct, osl, e, lk, hcd, hD, _⟩ := F.ex
  rcases hD with ⟨_, e2⟩ | ⟨z, _⟩
  · subst e2
    exact ⟨⟨oc, od, kV, doc, pm, an, cdv, ct, osl, e, lk, hcd⟩, F.kp⟩
  · exact absurd rfl z
theorem code_of {K : PySem.W.Frag} {x qual : Str} {st : Stmt} {p : He.Defn} {fd : FuncData} (F : Fun K x qual st (He.fAd K p) fd) : fd.code = .ref (He.codeOf K p) := by
  obtain ⟨oc, od, kV, doc, pm, an, cdv, ct, osl, e, lk, hcd⟩ := F.ex
  obtain ⟨c, rfl⟩ := He.codeIn_ref hcd
  have e2 : fd.code = .ref c := by rw [e]
  rw [He.codeOf_eq lk e2]
  exact e2
def TT (K : PySem.W.Frag) : List NTab := [((He.cT K ("steps_of", none)).2, nmSteps), ((He.cT K ("improved", none)).2, nmImp), ((He.cT K ("shows_most", none)).2, nmShows)]
section
variable {P : Program} {w : World} {K : PySem.W.Frag} {h : Heap} {mg : Str → Option Value} {base : Heap}
theorem mkD {x : Str} {t n : Nat} {ps : List Str} {sp : Sp} (X : K.In h) (G : h.Ns mainGlobals mg) (c : He.SaysD faA fnA K) (i j : Nat) (hd : fnA[i]? = some (dF x t)) (hg : faA[j]? = some (.glo x))
    (hb : ∀ (kV doc pm : Value) (an : Option Addr) (cdv ct : Value) (us : List Value), us.length = ps.length → bindArgs (PySem.W.fnOf x x (defArgs (topS t)) (defBody (topS t)) (defScope (topS t)) .none kV doc pm an cdv ct) ⟨us, []⟩ = pure (ps.zip us))
    (ok : ∀ fd : FuncData, Fun K x x (topS t) (He.fAd K (x, none)) fd → FnOk P w K mg base CX0 n (He.fAd K (x, none)) fd ps sp) : FnG P w K mg base n x ps sp := by
  obtain ⟨fd, F⟩ := c.def_ i hd
  exact ⟨_, fd, ok fd (funD_fun F), He.glo_ok X G (c.fact j hg), F.kp, F.bindsN hb⟩
theorem mkDL {x : Str} {t n : Nat} {ps : List Str} {T : List NTab} {pre : List Vl → Vl → Prop} (X : K.In h) (G : h.Ns mainGlobals mg) (c : He.SaysD faA fnA K) (i j : Nat) (hd : fnA[i]? = some (dF x t)) (hg : faA[j]? = some (.glo x))
    (hb : ∀ (kV doc pm : Value) (an : Option Addr) (cdv ct : Value) (us : List Value), us.length = ps.length → bindArgs (PySem.W.fnOf x x (defArgs (topS t)) (defBody (topS t)) (defScope (topS t)) .none kV doc pm an cdv ct) ⟨us, []⟩ = pure (ps.zip us))
    (ok : ∀ fd : FuncData, Fun K x x (topS t) (He.fAd K (x, none)) fd → FnOk P w K mg base CX0 n (He.fAd K (x, none)) fd ps (spV K T pre)) : DL P w K mg base T n x ps pre := by
  obtain ⟨fd, F⟩ := c.def_ i hd
  obtain ⟨oc, od, kV, doc, pm, an, cdv, ct, osl, e, lk, hcd⟩ := (funD_fun F).ex
  exact ⟨_, fd, ok fd (funD_fun F), He.glo_ok X G (c.fact j hg), F.kp, F.bindsN hb, oc, od, osl, lk⟩
theorem gf (X : K.In h) (G : h.Ns mainGlobals mg) (c : He.SaysD faA fnA K) : Gf mg where
  isinstance := He.free_ok X G (c.fact 0 (f := .free "isinstance") rfl)
  int := He.free_ok X G (c.fact 1 (f := .free "int") rfl)
  bool := He.free_ok X G (c.fact 2 (f := .free "bool") rfl)
  len := He.free_ok X G (c.fact 3 (f := .free "len") rfl)
  range := He.free_ok X G (c.fact 4 (f := .free "range") rfl)
  tuple := He.free_ok X G (c.fact 5 (f := .free "tuple") rfl)
  list := He.free_ok X G (c.fact 6 (f := .free "list") rfl)
  dict := He.free_ok X G (c.fact 7 (f := .free "dict") rfl)
  sorted := He.free_ok X G (c.fact 8 (f := .free "sorted") rfl)
  max := He.free_ok X G (c.fact 9 (f := .free "max") rfl)
  min := He.free_ok X G (c.fact 10 (f := .free "min") rfl)
  sum := He.free_ok X G (c.fact 11 (f := .free "sum") rfl)
  all := He.free_ok X G (c.fact 12 (f := .free "all") rfl)
  repr := He.free_ok X G (c.fact 13 (f := .free "repr") rfl)
  blank := He.int_ok X G (c.fact 14 (f := .int "BLANK" (-1)) rfl)
  mostP := He.int_ok X G (c.fact 15 (f := .int "MOST_PLACES" (4)) rfl)
  mostL := He.int_ok X G (c.fact 16 (f := .int "MOST_LABELS" (16)) rfl)
  mostT := He.int_ok X G (c.fact 17 (f := .int "MOST_THING" (99)) rfl)
  mostN := He.int_ok X G (c.fact 18 (f := .int "MOST_NODES" (2000)) rfl)
  mostR := He.int_ok X G (c.fact 19 (f := .int "MOST_REQUESTS" (60)) rfl)
theorem rcC (c : He.SaysD faA fnA K) : RecC K (He.ga K "Record") :=
  ⟨He.cls_ok (c.fact 21 (f := .cls "Record") rfl), He.noat_ok (c.fact 22 (f := .noat "Record" "node") rfl), He.noat_ok (c.fact 23 (f := .noat "Record" "value") rfl), He.noat_ok (c.fact 24 (f := .noat "Record" "before") rfl), He.noat_ok (c.fact 25 (f := .noat "Record" "walk") rfl)⟩
theorem rcF' (X : K.In h) (G : h.Ns mainGlobals mg) (c : He.SaysD faA fnA K) (T : List NTab) : RecF P w K mg base T (He.ga K "Record") := by
  have RC := rcC c
  obtain ⟨fd0, F0⟩ := c.def_ 68 (d := ⟨("Record", some "__init__"), "__init__", "Record.__init__", defArgs sInit, defBody sInit, defScope sInit, [], []⟩) rfl
  obtain ⟨fd1, F1⟩ := c.def_ 69 (d := ⟨("Record", some "since"), "since", "Record.since", defArgs sSince, defBody sSince, defScope sSince, [], []⟩) rfl
  exact ⟨RC, He.glo_ok X G (c.fact 20 (f := .glo "Record") rfl), ⟨_, fd0, He.mkr_ok (c.fact 27 (f := .mkr "Record") rfl), ok_init (funD_fun F0) RC, F0.bindsN fun _ _ _ _ _ _ us hl => match us, hl with | [_, _, _, _, _], _ => rfl⟩,
    ⟨_, fd1, He.meth_ok (c.fact 26 (f := .meth "Record" "since") rfl), ok_since (funD_fun F1) RC, F1.bindsN fun _ _ _ _ _ _ us hl => match us, hl with | [_], _ => rfl⟩⟩
theorem lawOk {fd : FuncData} (X : K.In h) (G : h.Ns mainGlobals mg) (c : He.SaysD faA fnA K) (hex : exA K = true) (TB : ∀ p ∈ tfA.map (He.cT K), TabB base mg p.1 p.2) (FL : Fun K "law" "law" sLaw (He.fAd K ("law", none)) fd) :
    FnOk P w K mg base CX0 14 (He.fAd K ("law", none)) fd ["_law_script"] (spV K (TT K) (preLaw K)) := by
  have Gm := gf X G c
  have RF := rcF' (P := P) (w := w) (base := base) X G c (TT K)
  obtain ⟨d1, d23⟩ := He.ba hex
  obtain ⟨d2, d3⟩ := He.ba d23
  have d1 := of_decide_eq_true d1
  have d2 := of_decide_eq_true d2
  have d3 := of_decide_eq_true d3
  have TB_steps_of : TabB base mg (He.codeOf K ("steps_of", none)) (He.cT K ("steps_of", none)).2 := TB (He.cT K ("steps_of", none)) (by simp [tfA])
  have TB_improved : TabB base mg (He.codeOf K ("improved", none)) (He.cT K ("improved", none)).2 := TB (He.cT K ("improved", none)) (by simp [tfA])
  have TB_shows_most : TabB base mg (He.codeOf K ("shows_most", none)) (He.cT K ("shows_most", none)).2 := TB (He.cT K ("shows_most", none)) (by simp [tfA])
  have hm_steps_of : ((He.cT K ("steps_of", none)).2, nmSteps) ∈ TT K := .head _
  have hm_improved : ((He.cT K ("improved", none)).2, nmImp) ∈ TT K := .tail _ (.head _)
  have hm_shows_most : ((He.cT K ("shows_most", none)).2, nmShows) ∈ TT K := .tail _ (.tail _ (.head _))
  have hu_steps_of : ∀ p ∈ TT K, p.1 = (He.cT K ("steps_of", none)).2 → p.2 = nmSteps := fun p hp e => by
    have hp : p ∈ [_, _, _] := hp
    simp only [List.mem_cons, List.not_mem_nil, or_false] at hp
    rcases hp with rfl | rfl | rfl
    · rfl
    · exact absurd e.symm d1
    · exact absurd e.symm d2
  have hu_improved : ∀ p ∈ TT K, p.1 = (He.cT K ("improved", none)).2 → p.2 = nmImp := fun p hp e => by
    have hp : p ∈ [_, _, _] := hp
    simp only [List.mem_cons, List.not_mem_nil, or_false] at hp
    rcases hp with rfl | rfl | rfl
    · exact absurd e d1
    · rfl
    · exact absurd e.symm d3
  have hu_shows_most : ∀ p ∈ TT K, p.1 = (He.cT K ("shows_most", none)).2 → p.2 = nmShows := fun p hp e => by
    have hp : p ∈ [_, _, _] := hp
    simp only [List.mem_cons, List.not_mem_nil, or_false] at hp
    rcases hp with rfl | rfl | rfl
    · exact absurd e d2
    · exact absurd e d3
    · rfl
  have D__law_rows_up_to := mkD (P := P) (w := w) (base := base) (x := "_law_rows_up_to") (t := 72) (ps := ["_law_most"]) X G c 49 77 rfl rfl (fun _ _ _ _ _ _ us hl => match us, hl with | [_], _ => rfl) (fun fd F => ok_rowsUp (T := TT K) F Gm)
  have D__law_pen := mkD (P := P) (w := w) (base := base) (x := "_law_pen") (t := 73) (ps := ["_law_cell"]) X G c 50 78 rfl rfl (fun _ _ _ _ _ _ us hl => match us, hl with | [_], _ => rfl) (fun fd F => ok_pen (T := TT K) F Gm)
  have D__law_cell_at := mkD (P := P) (w := w) (base := base) (x := "_law_cell_at") (t := 74) (ps := ["_law_script", "_law_k"]) X G c 51 79 rfl rfl (fun _ _ _ _ _ _ us hl => match us, hl with | [_, _], _ => rfl) (fun fd F => ok_cellAt (T := TT K) F Gm)
  have D__law_draw := mkD (P := P) (w := w) (base := base) (x := "_law_draw") (t := 75) (ps := ["_law_pen_here", "_law_many"]) X G c 52 80 rfl rfl (fun _ _ _ _ _ _ us hl => match us, hl with | [_, _], _ => rfl) (fun fd F => ok_draw (T := TT K) F )
  have D__law_mixed := mkD (P := P) (w := w) (base := base) (x := "_law_mixed") (t := 81) (ps := ["_law_pen_here", "_law_things"]) X G c 58 86 rfl rfl (fun _ _ _ _ _ _ us hl => match us, hl with | [_, _], _ => rfl) (fun fd F => ok_mixed (T := TT K) F Gm D__law_draw)
  have D__law_moves := mkD (P := P) (w := w) (base := base) (x := "_law_moves") (t := 82) (ps := ["_law_pen_here", "_law_places", "_law_labels"]) X G c 59 87 rfl rfl (fun _ _ _ _ _ _ us hl => match us, hl with | [_, _, _], _ => rfl) (fun fd F => ok_movesL (T := TT K) F Gm D__law_draw D__law_mixed)
  have D__law_drawn := mkD (P := P) (w := w) (base := base) (x := "_law_drawn") (t := 83) (ps := ["_law_pen_here", "_law_places", "_law_labels"]) X G c 60 88 rfl rfl (fun _ _ _ _ _ _ us hl => match us, hl with | [_, _, _], _ => rfl) (fun fd F => ok_drawn (T := TT K) F Gm D__law_draw D__law_moves)
  have D__law_pick := mkD (P := P) (w := w) (base := base) (x := "_law_pick") (t := 84) (ps := ["_law_pen_here", "_law_things"]) X G c 61 89 rfl rfl (fun _ _ _ _ _ _ us hl => match us, hl with | [_, _], _ => rfl) (fun fd F => ok_pick (T := TT K) F Gm D__law_draw)
  have D__law_front := mkD (P := P) (w := w) (base := base) (x := "_law_front") (t := 76) (ps := ["_law_place", "_law_places"]) X G c 53 81 rfl rfl (fun _ _ _ _ _ _ us hl => match us, hl with | [_, _], _ => rfl) (fun fd F => ok_front (T := TT K) F Gm)
  have D__law_one_label := mkD (P := P) (w := w) (base := base) (x := "_law_one_label") (t := 77) (ps := ["_law_places", "_law_hit_orders", "_law_out", "_law_come_orders"]) X G c 54 82 rfl rfl (fun _ _ _ _ _ _ us hl => match us, hl with | [_, _, _, _], _ => rfl) (fun fd F => ok_oneL (T := TT K) F Gm)
  have D__law_queue := mkD (P := P) (w := w) (base := base) (x := "_law_queue") (t := 78) (ps := ["_law_places"]) X G c 55 83 rfl rfl (fun _ _ _ _ _ _ us hl => match us, hl with | [_], _ => rfl) (fun fd F => ok_queue (T := TT K) F Gm D__law_front D__law_one_label)
  have D__law_recent := mkD (P := P) (w := w) (base := base) (x := "_law_recent") (t := 79) (ps := ["_law_places"]) X G c 56 84 rfl rfl (fun _ _ _ _ _ _ us hl => match us, hl with | [_], _ => rfl) (fun fd F => ok_recent (T := TT K) F Gm D__law_front D__law_one_label)
  have D__law_newest := mkD (P := P) (w := w) (base := base) (x := "_law_newest") (t := 80) (ps := ["_law_places"]) X G c 57 85 rfl rfl (fun _ _ _ _ _ _ us hl => match us, hl with | [_], _ => rfl) (fun fd F => ok_newest (T := TT K) F Gm D__law_front D__law_one_label)
  have D__law_rising_two := mkD (P := P) (w := w) (base := base) (x := "_law_rising_two") (t := 85) (ps := ["_law_pen_here", "_law_most"]) X G c 62 90 rfl rfl (fun _ _ _ _ _ _ us hl => match us, hl with | [_, _], _ => rfl) (fun fd F => ok_rise (T := TT K) F Gm D__law_draw D__law_drawn D__law_pick D__law_queue D__law_recent D__law_newest)
  have D__law_wishes := mkD (P := P) (w := w) (base := base) (x := "_law_wishes") (t := 86) (ps := ["_law_pen_here", "_law_most", "_law_many"]) X G c 63 91 rfl rfl (fun _ _ _ _ _ _ us hl => match us, hl with | [_, _, _], _ => rfl) (fun fd F => ok_wishes (T := TT K) F Gm D__law_draw D__law_mixed D__law_pick)
  have D_is_whole := mkD (P := P) (w := w) (base := base) (x := "is_whole") (t := 24) (ps := ["thing", "low", "high"]) X G c 7 35 rfl rfl (fun _ _ _ _ _ _ us hl => match us, hl with | [_, _, _], _ => rfl) (fun fd F => ok_whole (T := TT K) F Gm)
  have D_is_order := mkD (P := P) (w := w) (base := base) (x := "is_order") (t := 25) (ps := ["thing", "places"]) X G c 8 36 rfl rfl (fun _ _ _ _ _ _ us hl => match us, hl with | [_, _], _ => rfl) (fun fd F => ok_order (T := TT K) F Gm D_is_whole)
  have D_is_move := mkD (P := P) (w := w) (base := base) (x := "is_move") (t := 26) (ps := ["thing", "places", "labels"]) X G c 9 37 rfl rfl (fun _ _ _ _ _ _ us hl => match us, hl with | [_, _, _], _ => rfl) (fun fd F => ok_move (T := TT K) F Gm D_is_order D_is_whole)
  have D_are_moves := mkD (P := P) (w := w) (base := base) (x := "are_moves") (t := 27) (ps := ["thing", "places", "labels"]) X G c 10 38 rfl rfl (fun _ _ _ _ _ _ us hl => match us, hl with | [_, _, _], _ => rfl) (fun fd F => ok_moves (T := TT K) F Gm D_is_move)
  have D_is_label_row := mkD (P := P) (w := w) (base := base) (x := "is_label_row") (t := 28) (ps := ["thing", "places", "labels"]) X G c 11 39 rfl rfl (fun _ _ _ _ _ _ us hl => match us, hl with | [_, _, _], _ => rfl) (fun fd F => ok_LR (T := TT K) F Gm D_are_moves D_is_whole)
  have D_is_rule := mkD (P := P) (w := w) (base := base) (x := "is_rule") (t := 29) (ps := ["thing"]) X G c 12 40 rfl rfl (fun _ _ _ _ _ _ us hl => match us, hl with | [_], _ => rfl) (fun fd F => ok_rule (T := TT K) F Gm D_is_label_row D_is_whole)
  have D_need_rule := mkD (P := P) (w := w) (base := base) (x := "need_rule") (t := 30) (ps := ["rule"]) X G c 13 41 rfl rfl (fun _ _ _ _ _ _ us hl => match us, hl with | [_], _ => rfl) (fun fd F => ok_needR (T := TT K) F D_is_rule)
  have D_need_rules := mkD (P := P) (w := w) (base := base) (x := "need_rules") (t := 38) (ps := ["one", "other"]) X G c 20 48 rfl rfl (fun _ _ _ _ _ _ us hl => match us, hl with | [_, _], _ => rfl) (fun fd F => ok_needRs (T := TT K) F D_need_rule)
  have D_graph_of := mkD (P := P) (w := w) (base := base) (x := "graph_of") (t := 11) (ps := ["first", "steps_of"]) X G c 0 28 rfl rfl (fun _ _ _ _ _ _ us hl => match us, hl with | [_, _], _ => rfl) (fun fd F => ok_graph (T := TT K) F Gm)
  have D_first_state := mkD (P := P) (w := w) (base := base) (x := "first_state") (t := 32) (ps := ["rule"]) X G c 15 43 rfl rfl (fun _ _ _ _ _ _ us hl => match us, hl with | [_], _ => rfl) (fun fd F => ok_first (T := TT K) F Gm)
  have D_first_pair := mkD (P := P) (w := w) (base := base) (x := "first_pair") (t := 40) (ps := ["one", "other"]) X G c 22 50 rfl rfl (fun _ _ _ _ _ _ us hl => match us, hl with | [_, _], _ => rfl) (fun fd F => ok_firstP (T := TT K) F D_first_state)
  have D_how_many := mkD (P := P) (w := w) (base := base) (x := "how_many") (t := 43) (ps := ["arrangement"]) X G c 25 53 rfl rfl (fun _ _ _ _ _ _ us hl => match us, hl with | [_], _ => rfl) (fun fd F => ok_many (T := TT K) F Gm)
  have D_arranged := mkD (P := P) (w := w) (base := base) (x := "arranged") (t := 35) (ps := ["row", "order"]) X G c 18 46 rfl rfl (fun _ _ _ _ _ _ us hl => match us, hl with | [_, _], _ => rfl) (fun fd F => ok_arr (T := TT K) F Gm)
  have D_step := mkD (P := P) (w := w) (base := base) (x := "step") (t := 36) (ps := ["rule", "state", "thing"]) X G c 19 47 rfl rfl (fun _ _ _ _ _ _ us hl => match us, hl with | [_, _, _], _ => rfl) (fun fd F => ok_step (T := TT K) F Gm D_arranged)
  have D_named := mkD (P := P) (w := w) (base := base) (x := "named") (t := 39) (ps := ["mine", "its"]) X G c 21 49 rfl rfl (fun _ _ _ _ _ _ us hl => match us, hl with | [_, _], _ => rfl) (fun fd F => ok_named (T := TT K) F Gm)
  have D_moved_by := mkD (P := P) (w := w) (base := base) (x := "moved_by") (t := 44) (ps := ["one", "other", "arrangement", "number"]) X G c 26 54 rfl rfl (fun _ _ _ _ _ _ us hl => match us, hl with | [_, _, _, _], _ => rfl) (fun fd F => ok_movedBy (T := TT K) F D_step D_named)
  have D_steps_of := mkD (P := P) (w := w) (base := base) (x := "steps_of") (t := 45) (ps := ["one", "other"]) X G c 27 55 rfl rfl (fun _ _ _ _ _ _ us hl => match us, hl with | [_, _], _ => rfl) (fun fd F => ok_stepsOf (T := TT K) F Gm (code_of F) TB_steps_of hm_steps_of hu_steps_of D_how_many D_moved_by)
  have D_all_steps := mkD (P := P) (w := w) (base := base) (x := "all_steps") (t := 50) (ps := ["one", "other"]) X G c 32 60 rfl rfl (fun _ _ _ _ _ _ us hl => match us, hl with | [_, _], _ => rfl) (fun fd F => ok_allSteps (T := TT K) F D_graph_of D_first_pair D_steps_of)
  have D_improved := fun (a b : Mi.Rl) (best : List (Mi.Nd × Int)) => mkD (P := P) (w := w) (base := base) (x := "improved") (t := 16) (ps := ["graph", "layer", "best", "worth"]) X G c 4 32 rfl rfl (fun _ _ _ _ _ _ us hl => match us, hl with | [_, _, _, _], _ => rfl) (fun fd F => ok_imp (a := a) (b := b) (best := best) F Gm (code_of F) TB_improved hm_improved hu_improved RF)
  have D_climbed := mkD (P := P) (w := w) (base := base) (x := "climbed") (t := 17) (ps := ["graph", "first", "worth"]) X G c 5 33 rfl rfl (fun _ _ _ _ _ _ us hl => match us, hl with | [_, _, _], _ => rfl) (fun fd F => ok_climb (T := TT K) F Gm RF (fun a b best => D_improved a b best))
  have D_gain := mkDL (P := P) (w := w) (base := base) (x := "gain") (t := 52) (ps := ["mine", "its"]) X G c 33 61 rfl rfl (fun _ _ _ _ _ _ us hl => match us, hl with | [_, _], _ => rfl) (fun fd F => ok_gain (T := TT K) F )
  have D_excess := mkD (P := P) (w := w) (base := base) (x := "excess") (t := 53) (ps := ["one", "other"]) X G c 34 62 rfl rfl (fun _ _ _ _ _ _ us hl => match us, hl with | [_, _], _ => rfl) (fun fd F => ok_excess (T := TT K) F Gm D_need_rules D_all_steps D_first_pair D_climbed D_gain)
  have D_followed := mkD (P := P) (w := w) (base := base) (x := "followed") (t := 12) (ps := ["here", "steps_of", "names"]) X G c 1 29 rfl rfl (fun _ _ _ _ _ _ us hl => match us, hl with | [_, _, _], _ => rfl) (fun fd F => ok_followed (T := TT K) F Gm)
  have D_walk_of := mkD (P := P) (w := w) (base := base) (x := "walk_of") (t := 47) (ps := ["one", "other", "walk"]) X G c 29 57 rfl rfl (fun _ _ _ _ _ _ us hl => match us, hl with | [_, _, _], _ => rfl) (fun fd F => ok_walkOf (T := TT K) F D_followed D_first_pair D_steps_of)
  have D_excess_of := mkD (P := P) (w := w) (base := base) (x := "excess_of") (t := 54) (ps := ["steps"]) X G c 35 63 rfl rfl (fun _ _ _ _ _ _ us hl => match us, hl with | [_], _ => rfl) (fun fd F => ok_excOf (T := TT K) F Gm D_gain.d)
  have D_is_row := mkD (P := P) (w := w) (base := base) (x := "is_row") (t := 33) (ps := ["thing", "places"]) X G c 16 44 rfl rfl (fun _ _ _ _ _ _ us hl => match us, hl with | [_, _], _ => rfl) (fun fd F => ok_row (T := TT K) F Gm D_is_whole)
  have D_is_state_of := mkD (P := P) (w := w) (base := base) (x := "is_state_of") (t := 34) (ps := ["rule", "thing"]) X G c 17 45 rfl rfl (fun _ _ _ _ _ _ us hl => match us, hl with | [_, _], _ => rfl) (fun fd F => ok_stateOf (T := TT K) F Gm D_is_row D_is_whole)
  have D_is_pair := mkD (P := P) (w := w) (base := base) (x := "is_pair") (t := 42) (ps := ["one", "other", "thing"]) X G c 24 52 rfl rfl (fun _ _ _ _ _ _ us hl => match us, hl with | [_, _, _], _ => rfl) (fun fd F => ok_isPair (T := TT K) F Gm D_is_state_of D_named)
  have D_are_prices := mkD (P := P) (w := w) (base := base) (x := "are_prices") (t := 18) (ps := ["first", "steps_of", "is_node", "thing", "worth"]) X G c 6 34 rfl rfl (fun _ _ _ _ _ _ us hl => match us, hl with | [_, _, _, _, _], _ => rfl) (fun fd F => ok_prices (T := TT K) F Gm)
  have D_shows_most := mkD (P := P) (w := w) (base := base) (x := "shows_most") (t := 55) (ps := ["one", "other", "k", "walk", "prices"]) X G c 36 64 rfl rfl (fun _ _ _ _ _ _ us hl => match us, hl with | [_, _, _, _, _], _ => rfl) (fun fd F => ok_showsM (T := TT K) F Gm (code_of F) TB_shows_most hm_shows_most hu_shows_most D_walk_of D_excess_of D_first_pair D_steps_of D_is_pair D_are_prices D_gain)
  have D_end_of := mkD (P := P) (w := w) (base := base) (x := "end_of") (t := 13) (ps := ["first", "steps"]) X G c 2 30 rfl rfl (fun _ _ _ _ _ _ us hl => match us, hl with | [_, _], _ => rfl) (fun fd F => ok_endOf (T := TT K) F )
  have D_around_of := mkD (P := P) (w := w) (base := base) (x := "around_of") (t := 14) (ps := ["first", "steps_of", "way", "around"]) X G c 3 31 rfl rfl (fun _ _ _ _ _ _ us hl => match us, hl with | [_, _, _, _], _ => rfl) (fun fd F => ok_around (T := TT K) F D_followed D_end_of)
  have D_shows_excess := mkD (P := P) (w := w) (base := base) (x := "shows_excess") (t := 56) (ps := ["one", "other", "thing"]) X G c 37 65 rfl rfl (fun _ _ _ _ _ _ us hl => match us, hl with | [_, _, _], _ => rfl) (fun fd F => ok_showsE (T := TT K) F Gm D_need_rules D_shows_most D_excess_of D_first_pair D_steps_of D_around_of)
  have D_start := mkD (P := P) (w := w) (base := base) (x := "start") (t := 41) (ps := ["one", "other"]) X G c 23 51 rfl rfl (fun _ _ _ _ _ _ us hl => match us, hl with | [_, _], _ => rfl) (fun fd F => ok_start (T := TT K) F D_need_rules D_first_pair)
  have D_moved := mkD (P := P) (w := w) (base := base) (x := "moved") (t := 46) (ps := ["one", "other", "arrangement", "number"]) X G c 28 56 rfl rfl (fun _ _ _ _ _ _ us hl => match us, hl with | [_, _, _, _], _ => rfl) (fun fd F => ok_moved (T := TT K) F Gm D_need_rules D_is_pair D_is_whole D_how_many D_moved_by)
  have D__law_both := mkD (P := P) (w := w) (base := base) (x := "_law_both") (t := 70) (ps := ["_law_one", "_law_other", "_law_walk"]) X G c 47 75 rfl rfl (fun _ _ _ _ _ _ us hl => match us, hl with | [_, _, _], _ => rfl) (fun fd F => ok_both (T := TT K) F Gm D_start D_moved)
  have D_is_thing := mkD (P := P) (w := w) (base := base) (x := "is_thing") (t := 31) (ps := ["thing"]) X G c 14 42 rfl rfl (fun _ _ _ _ _ _ us hl => match us, hl with | [_], _ => rfl) (fun fd F => ok_thing (T := TT K) F Gm D_is_whole)
  have D_is_requests := mkD (P := P) (w := w) (base := base) (x := "is_requests") (t := 59) (ps := ["thing"]) X G c 38 66 rfl rfl (fun _ _ _ _ _ _ us hl => match us, hl with | [_], _ => rfl) (fun fd F => ok_isReq (T := TT K) F Gm D_is_thing)
  have D_need_requests := mkD (P := P) (w := w) (base := base) (x := "need_requests") (t := 60) (ps := ["requests"]) X G c 39 67 rfl rfl (fun _ _ _ _ _ _ us hl => match us, hl with | [_], _ => rfl) (fun fd F => ok_needReq (T := TT K) F D_is_requests)
  have D_run_of := mkD (P := P) (w := w) (base := base) (x := "run_of") (t := 61) (ps := ["rule", "requests"]) X G c 40 68 rfl rfl (fun _ _ _ _ _ _ us hl => match us, hl with | [_, _], _ => rfl) (fun fd F => ok_runOf (T := TT K) F Gm D_first_state D_step)
  have D_checked_run := mkD (P := P) (w := w) (base := base) (x := "checked_run") (t := 62) (ps := ["rule", "requests"]) X G c 41 69 rfl rfl (fun _ _ _ _ _ _ us hl => match us, hl with | [_, _], _ => rfl) (fun fd F => ok_ckRun (T := TT K) F D_need_rule D_need_requests D_run_of)
  have D_hits := mkD (P := P) (w := w) (base := base) (x := "hits") (t := 63) (ps := ["rule", "requests"]) X G c 42 70 rfl rfl (fun _ _ _ _ _ _ us hl => match us, hl with | [_, _], _ => rfl) (fun fd F => ok_hits (T := TT K) F D_checked_run)
  have D_misses := mkD (P := P) (w := w) (base := base) (x := "misses") (t := 64) (ps := ["rule", "requests"]) X G c 43 71 rfl rfl (fun _ _ _ _ _ _ us hl => match us, hl with | [_, _], _ => rfl) (fun fd F => ok_misses (T := TT K) F D_hits)
  have D__law_more := mkD (P := P) (w := w) (base := base) (x := "_law_more") (t := 87) (ps := ["_law_one", "_law_other", "_law_wishes_here"]) X G c 64 92 rfl rfl (fun _ _ _ _ _ _ us hl => match us, hl with | [_, _, _], _ => rfl) (fun fd F => ok_more (T := TT K) F D_misses)
  have D__law_most_right := mkD (P := P) (w := w) (base := base) (x := "_law_most_right") (t := 88) (ps := ["_law_one", "_law_other", "_law_told", "_law_every"]) X G c 65 93 rfl rfl (fun _ _ _ _ _ _ us hl => match us, hl with | [_, _, _, _], _ => rfl) (fun fd F => ok_mostR (T := TT K) F Gm D__law_both D__law_more)
  have D_need_walk := mkD (P := P) (w := w) (base := base) (x := "need_walk") (t := 48) (ps := ["one", "other", "walk"]) X G c 30 58 rfl rfl (fun _ _ _ _ _ _ us hl => match us, hl with | [_, _, _], _ => rfl) (fun fd F => ok_needW (T := TT K) F D_need_rules D_walk_of)
  have D_walked := mkD (P := P) (w := w) (base := base) (x := "walked") (t := 49) (ps := ["one", "other", "walk"]) X G c 31 59 rfl rfl (fun _ _ _ _ _ _ us hl => match us, hl with | [_, _, _], _ => rfl) (fun fd F => ok_walked (T := TT K) F D_need_walk D_first_pair D_end_of)
  have D__law_grows := mkD (P := P) (w := w) (base := base) (x := "_law_grows") (t := 71) (ps := ["_law_one", "_law_other", "_law_way", "_law_about"]) X G c 48 76 rfl rfl (fun _ _ _ _ _ _ us hl => match us, hl with | [_, _, _, _], _ => rfl) (fun fd F => ok_grows (T := TT K) F Gm D__law_both D_walked)
  have D__law_right := mkD (P := P) (w := w) (base := base) (x := "_law_right") (t := 89) (ps := ["_law_one", "_law_other", "_law_every"]) X G c 66 94 rfl rfl (fun _ _ _ _ _ _ us hl => match us, hl with | [_, _, _], _ => rfl) (fun fd F => ok_right (T := TT K) F D_excess D_shows_excess D__law_most_right D__law_grows)
  have D_need_greater := mkD (P := P) (w := w) (base := base) (x := "need_greater") (t := 66) (ps := ["one", "other"]) X G c 44 72 rfl rfl (fun _ _ _ _ _ _ us hl => match us, hl with | [_, _], _ => rfl) (fun fd F => ok_needG (T := TT K) F D_need_rules)
  have D_is_within := mkD (P := P) (w := w) (base := base) (x := "is_within") (t := 67) (ps := ["arrangement"]) X G c 45 73 rfl rfl (fun _ _ _ _ _ _ us hl => match us, hl with | [_], _ => rfl) (fun fd F => ok_within (T := TT K) F Gm)
  have D_nested := mkD (P := P) (w := w) (base := base) (x := "nested") (t := 68) (ps := ["one", "other"]) X G c 46 74 rfl rfl (fun _ _ _ _ _ _ us hl => match us, hl with | [_, _], _ => rfl) (fun fd F => ok_nested (T := TT K) F Gm D_need_greater D_all_steps D_is_within)
  exact ok_law FL Gm D__law_rows_up_to D__law_pen D__law_cell_at D__law_rising_two D__law_wishes D__law_right D_excess D_nested
end
end GH
set_option maxHeartbeats 0
/-! H3: the law holds. -/
namespace GH
open PySem PySem.Spec PyProof.Rows L2 LamX NdefX G
theorem law_sp {K : PySem.W.Frag} {H : Hp} {a : Addr} {ns : List Int} (hT : ∀ p ∈ tfA.map (He.cT K), H p.2 = some (.tbl #[])) (hS : SqL K H a (ns.map V.int)) : spV K (TT K) (preLaw K) [.ref a] H (fun v _ => v = .bl true) fun _ _ _ => False := by
  have tabs : TabsN (TT K) H := fun p hp => by
    have ht : H p.1 = some (.tbl #[]) := by
      have hp : p ∈ [_, _, _] := hp
      simp only [List.mem_cons, List.not_mem_nil, or_false] at hp
      rcases hp with rfl | rfl | rfl
      · exact hT (He.cT K ("steps_of", none)) (by simp [tfA])
      · exact hT (He.cT K ("improved", none)) (by simp [tfA])
      · exact hT (He.cT K ("shows_most", none)) (by simp [tfA])
    exact ⟨#[], ht, trivial, fun pos cv h => by cases h⟩
  have go : ∀ S : Hp, Same S H → (∀ b ps, S b ≠ some (.tbl ps)) → SqL K S a (ns.map V.int) → spV K (TT K) (preLaw K) [.ref a] H (fun v _ => v = .bl true) fun _ _ _ => False := fun S sm nt sq =>
    ⟨S, [scV K ns], .bl true, ⟨sm, tabs, nt⟩, ⟨.ref a, [], rfl, ⟨a, rfl, sq⟩, rfl⟩, ⟨ns, rfl, rfl⟩, fun v S' H' t r => r⟩
  rcases hS with h | h
  · refine go (fun b => if b = a then H a else none) (fun b u e => ?_) (fun b ps e => ?_) (.inl ?_)
    · have e : (if b = a then H a else none) = some u := e
      by_cases z : b = a
      · rw [if_pos z] at e; rw [z]; exact e
      · rw [if_neg z] at e; cases e
    · have e : (if b = a then H a else none) = some (.tbl ps) := e
      by_cases z : b = a
      · rw [if_pos z] at e
        rcases h with h | ⟨o, h⟩
        · rw [h] at e; cases e
        · rw [h] at e; cases e
      · rw [if_neg z] at e; cases e
    · rcases h with h | ⟨o, h⟩
      · exact .inl (by show (if a = a then H a else none) = _; rw [if_pos rfl]; exact h)
      · exact .inr ⟨o, by show (if a = a then H a else none) = _; rw [if_pos rfl]; exact h⟩
  · exact go (fun _ => none) (fun b u e => by cases e) (fun b ps e => by cases e) (.inr h)
end GH
open PySem PySem.W PySem.Calls PyProof.Rows
theorem PySem.Challenge.cw_goesout_k37_whole_excess_by_all_requests_holds : PySem.Challenge.rw_goesout_k37_whole_excess_by_all_requests.Holds := by
  w_on; o_law
  refine HandSHeadRun.head_any (r := GH.R) (q := GH.qv) (H := GH.hk) (ob := GH.ob) (M := 20000) (loose := GH.names) (d := GH.dL) (kwd := []) GH.ob_eq GH.h_open GH.h_fence GH.run GH.h_def GH.h_the GH.h_kw (by rfl) (by first | assumption | decide +kernel) (by decide +kernel) ⟨rfl, rfl, rfl, rfl, rfl, by decide +kernel⟩ ?hw ?hc
  case hw => w_witness2
  case hc =>
    refine LamX.walk_ofTsE (l := PySem.Challenge.rw_goesout_k37_whole_excess_by_all_requests) (n := 63) (k := 14) (x := "_law_script") (CX := fun _ => L2.CX0) rfl (by decide) GH.h_dflt ⟨rfl, by decide, by decide⟩ ?F (fun _ _ _ _ _ z => z)
    intro w mg fa h Y Gn hmg0
    obtain ⟨K, KX, c⟩ := Y
    have hmg : mg ("law" : PySem.Str) = some (.ref fa) := by
      have e := GH.h_name
      rw [← e]
      exact hmg0
    obtain ⟨fd, F⟩ := c.d.def_ 67 (d := GH.dF "law" 90) rfl
    have e := hmg.symm.trans (He.glo_ok KX Gn (c.d.fact 95 (f := .glo "law") rfl))
    have e2 : fa = He.fAd K ("law", none) := by
      have := Option.some.inj e
      exact Value.ref.inj this
    subst e2
    have b := L2.FunD.bindsA (ps := ["_law_script"]) F fun _ _ _ _ _ _ us hl => match us, hl with | [_], _ => rfl
    refine ⟨K, KX, fd, GH.tfA.map (He.cT K), G.spV K (GH.TT K) (G.preLaw K), fun p hp => ?_, fun p hp => ?_, fun p hp => ?_, fun s u => b s [u] rfl, fun H a ns hl _ hT hS => GH.law_sp hT hS, fun base _ _ TB => GH.lawOk KX Gn c.d c.more TB (GH.funD_fun F)⟩
    · obtain ⟨q, hq, rfl⟩ := List.mem_map.mp hp
      exact c.emp q hq
    · obtain ⟨q, hq, rfl⟩ := List.mem_map.mp hp
      exact c.out q hq
    · obtain ⟨q, hq, rfl⟩ := List.mem_map.mp hp
      exact PySem.W.codeHd_of_K KX (c.hd q hq)
