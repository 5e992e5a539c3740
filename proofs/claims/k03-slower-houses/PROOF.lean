import PyProof.Rows.All
import Wide.All
import OpenK.AllK
import Wide.FinOn
import HandS.Head0
import HandS.Head1
import HandS.Head2
import HandS.HeadHook1
import HandS.HeadHook2
import HandS.ForMost
import HandS.More
import HandS.Defaults
import HandS.HeadEnd
import HandS.WordsExc
import KE.KStateDown
import Lean
import PySem.Challenge.RW_bestatall_k03_main_across_slower_houses
import HandS.Star
import HandS.Wide
import HandS.IsInst
import HandS.TupMul
import HandS.TupAny
import HandS.Deep
import HandS.Conv
import HandS.Zip
import HandS.Walk
import HandS.Style
import KE.GoesNew
import KE.KTupSum
section
set_option Elab.async false
set_option linter.all false
set_option maxRecDepth 100000
set_option maxHeartbeats 0
/-! the head: what the top leaves, by names (printed by mkhead2.py) -/
namespace Wk
open PySem PySem.Spec PyProof.Rows L2
def top (i : Nat) : Stmt := PySem.Challenge.pw_bestatall_k03_main_across_slower_houses.main.body.getD i (.Pass ⟨0, 0, 0, 0⟩)
def dOf (c : Str) (m : Option Str) (n q : Str) (s : Stmt) : He.DefD := ⟨(c, m), n, q, defArgs s, defBody s, defScope s, [], []⟩
def hfn0 : List He.DefD := [dOf "is_number" none "is_number" "is_number" (top 10), dOf "is_between" none "is_between" "is_between" (top 11), dOf "is_list" none "is_list" "is_list" (top 12), dOf "is_row" none "is_row" "is_row" (top 13), dOf "is_count_row" none "is_count_row" "is_count_row" (top 14), dOf "divisor_of" none "divisor_of" "divisor_of" (top 15), dOf "multiple_of" none "multiple_of" "multiple_of" (top 16), dOf "least_pair" none "least_pair" "least_pair" (top 17), dOf "plain_row" none "plain_row" "plain_row" (top 18), dOf "is_index" none "is_index" "is_index" (top 19), dOf "ratio_of" none "ratio_of" "ratio_of" (top 21), dOf "is_ratio" none "is_ratio" "is_ratio" (top 22), dOf "sum_of" none "sum_of" "sum_of" (top 23), dOf "less_of" none "less_of" "less_of" (top 24), dOf "product_of" none "product_of" "product_of" (top 25), dOf "is_below" none "is_below" "is_below" (top 26), dOf "greatest_of" none "greatest_of" "greatest_of" (top 27), dOf "total_of" none "total_of" "total_of" (top 28), dOf "is_pair_of" none "is_pair_of" "is_pair_of" (top 30), dOf "is_share_of" none "is_share_of" "is_share_of" (top 31), dOf "need_share" none "need_share" "need_share" (top 32), dOf "divided" none "divided" "divided" (top 34), dOf "cleared" none "cleared" "cleared" (top 35), dOf "stepped_lines" none "stepped_lines" "stepped_lines" (top 36), dOf "bar_from" none "bar_from" "bar_from" (top 37), dOf "answer_from" none "answer_from" "answer_from" (top 38), dOf "answer_of" none "answer_of" "answer_of" (top 39), dOf "is_chance_row" none "is_chance_row" "is_chance_row" (top 42), dOf "Walk" (some "__init__") "__init__" "Walk.__init__" (inClass (top 43) 0), dOf "Walk" (some "__eq__") "__eq__" "Walk.__eq__" (inClass (top 43) 1)]
def hfn1 : List He.DefD := [dOf "are_ratios" none "are_ratios" "are_ratios" (top 45), dOf "mean_by" none "mean_by" "mean_by" (top 46), dOf "are_moves" none "are_moves" "are_moves" (top 48), dOf "House" (some "__init__") "__init__" "House.__init__" (inClass (top 49) 0), dOf "House" (some "__eq__") "__eq__" "House.__eq__" (inClass (top 49) 1), dOf "need_house" none "need_house" "need_house" (top 50), dOf "is_plan" none "is_plan" "is_plan" (top 51), dOf "need_plan" none "need_plan" "need_plan" (top 52), dOf "rows_of" none "rows_of" "rows_of" (top 53), dOf "stays_in" none "stays_in" "stays_in" (top 54), dOf "staying_lot" none "staying_lot" "staying_lot" (top 55), dOf "need_leaky" none "need_leaky" "need_leaky" (top 56), dOf "are_parts" none "are_parts" "are_parts" (top 57), dOf "need_gains" none "need_gains" "need_gains" (top 58), dOf "gained_by" none "gained_by" "gained_by" (top 59), dOf "sums_of_moves" none "sums_of_moves" "sums_of_moves" (top 60), dOf "first_best" none "first_best" "first_best" (top 61), dOf "gains_of" none "gains_of" "gains_of" (top 62), dOf "most_of" none "most_of" "most_of" (top 63), dOf "flow_by" none "flow_by" "flow_by" (top 64), dOf "begun_by" none "begun_by" "begun_by" (top 65), dOf "are_counts" none "are_counts" "are_counts" (top 66), dOf "walk_of" none "walk_of" "walk_of" (top 67), dOf "most" none "most" "most" (top 68), dOf "best_plan" none "best_plan" "best_plan" (top 69), dOf "is_most_paper" none "is_most_paper" "is_most_paper" (top 70), dOf "flow_of" none "flow_of" "flow_of" (top 71), dOf "is_flow" none "is_flow" "is_flow" (top 72), dOf "_law_mixed" none "_law_mixed" "_law_mixed" (top 75), dOf "_law_take" none "_law_take" "_law_take" (top 76)]
def hfn2 : List He.DefD := [dOf "_law_pick" none "_law_pick" "_law_pick" (top 77), dOf "_law_common" none "_law_common" "_law_common" (top 78), dOf "_law_ratio" none "_law_ratio" "_law_ratio" (top 79), dOf "_law_plus" none "_law_plus" "_law_plus" (top 80), dOf "_law_times" none "_law_times" "_law_times" (top 81), dOf "_law_total" none "_law_total" "_law_total" (top 82), dOf "_law_parts" none "_law_parts" "_law_parts" (top 83), dOf "_law_pair" none "_law_pair" "_law_pair" (top 84), dOf "_law_some_share" none "_law_some_share" "_law_some_share" (top 85), dOf "_law_dot" none "_law_dot" "_law_dot" (top 86), dOf "_law_stays" none "_law_stays" "_law_stays" (top 87), dOf "_law_slow" none "_law_slow" "_law_slow" (top 88), dOf "_law_longer" none "_law_longer" "_law_longer" (top 89), dOf "_law_shorter" none "_law_shorter" "_law_shorter" (top 90), dOf "_law_rows_of" none "_law_rows_of" "_law_rows_of" (top 91), dOf "_law_house" none "_law_house" "_law_house" (top 92), dOf "_law_slow_moves" none "_law_slow_moves" "_law_slow_moves" (top 93), dOf "_law_gain" none "_law_gain" "_law_gain" (top 94), dOf "_law_right" none "_law_right" "_law_right" (top 95), dOf "_law_begun" none "_law_begun" "_law_begun" (top 74), dOf "law" none "law" "law" (top 96)]
def hfn : List He.DefD := hfn0 ++ (hfn1 ++ (hfn2))
def hfa0 : List He.Fa := [.glo "is_number", .glo "is_between", .glo "is_list", .glo "is_row", .glo "is_count_row", .glo "divisor_of", .glo "multiple_of", .glo "least_pair", .glo "plain_row", .glo "is_index", .glo "ratio_of", .glo "is_ratio", .glo "sum_of", .glo "less_of", .glo "product_of", .glo "is_below", .glo "greatest_of", .glo "total_of", .glo "is_pair_of", .glo "is_share_of", .glo "need_share", .glo "divided", .glo "cleared", .glo "stepped_lines", .glo "bar_from", .glo "answer_from", .glo "answer_of", .glo "is_chance_row", .glo "are_ratios", .glo "mean_by"]
def hfa1 : List He.Fa := [.glo "are_moves", .glo "need_house", .glo "is_plan", .glo "need_plan", .glo "rows_of", .glo "stays_in", .glo "staying_lot", .glo "need_leaky", .glo "are_parts", .glo "need_gains", .glo "gained_by", .glo "sums_of_moves", .glo "first_best", .glo "gains_of", .glo "most_of", .glo "flow_by", .glo "begun_by", .glo "are_counts", .glo "walk_of", .glo "most", .glo "best_plan", .glo "is_most_paper", .glo "flow_of", .glo "is_flow", .glo "_law_mixed", .glo "_law_take", .glo "_law_pick", .glo "_law_common", .glo "_law_ratio", .glo "_law_plus"]
def hfa2 : List He.Fa := [.glo "_law_times", .glo "_law_total", .glo "_law_parts", .glo "_law_pair", .glo "_law_some_share", .glo "_law_dot", .glo "_law_stays", .glo "_law_slow", .glo "_law_longer", .glo "_law_shorter", .glo "_law_rows_of", .glo "_law_house", .glo "_law_slow_moves", .glo "_law_gain", .glo "_law_right", .glo "_law_begun", .glo "law", .glo "Walk", .cls "Walk", .mkr "Walk", .meth "Walk" "__eq__", .noat "Walk" "rows", .noat "Walk" "many", .glo "House", .cls "House", .mkr "House", .meth "House" "__eq__", .noat "House" "moves", .noat "House" "many", .int "MOST_PLACES" 8]
def hfa3 : List He.Fa := [.free "abs", .free "all", .free "any", .free "bool", .free "enumerate", .free "int", .free "isinstance", .free "len", .free "list", .free "min", .free "range", .free "sum", .free "tuple", .free "zip"]
def hfa : List He.Fa := hfa0 ++ (hfa1 ++ (hfa2 ++ (hfa3)))
def hnm0 : List PySem.Str := ["StopError", "BadGains", "BadHouse", "BadMoves", "BadPlan", "BadRows", "BadShare", "NotLeaky", "is_number", "is_between", "is_list", "is_row", "is_count_row", "divisor_of", "multiple_of", "least_pair", "plain_row", "is_index", "ratio_of", "is_ratio", "sum_of", "less_of", "product_of", "is_below", "greatest_of", "total_of", "is_pair_of", "is_share_of", "need_share", "divided"]
def hnm1 : List PySem.Str := ["cleared", "stepped_lines", "bar_from", "answer_from", "answer_of", "is_chance_row", "Walk", "are_ratios", "mean_by", "are_moves", "House", "need_house", "is_plan", "need_plan", "rows_of", "stays_in", "staying_lot", "need_leaky", "are_parts", "need_gains", "gained_by", "sums_of_moves", "first_best", "gains_of", "most_of", "flow_by", "begun_by", "are_counts", "walk_of", "most"]
def hnm2 : List PySem.Str := ["best_plan", "is_most_paper", "flow_of", "is_flow", "_law_begun", "_law_mixed", "_law_take", "_law_pick", "_law_common", "_law_ratio", "_law_plus", "_law_times", "_law_total", "_law_parts", "_law_pair", "_law_some_share", "_law_dot", "_law_stays", "_law_slow", "_law_longer", "_law_shorter", "_law_rows_of", "_law_house", "_law_slow_moves", "_law_gain", "_law_right", "MOST_PLACES"]
def hnm : List PySem.Str := hnm0 ++ (hnm1 ++ (hnm2))
/-- what more is asked of a class -/
def exC (K : PySem.W.Frag) (x : Str) : Bool := He.eqO (PySem.W.findIn K (.ref (He.ga K x)) "__class__") (some (some (.builtin "object.__class__"))) && (decide (PySem.W.mroIn K (He.ga K x) (.type "object") = some true) && He.eqO (PySem.W.findIn K (.ref (He.ga K x)) "__ne__") (some (some (.builtin "object.__ne__"))))
def exG (K : PySem.W.Frag) : Bool := He.eqO (PySem.W.specialIn K (.builtin "object.__class__") "__get__") (some (some (.builtin "getset_descriptor.__get__"))) && decide (PySem.W.takesIn K (.builtin "object.__class__") = some true)
def hex (K : PySem.W.Frag) : Bool := exG K && ((["Walk", "House"] : List Str).all fun x => exC K x)
abbrev AlE : Type := He.AlD × Bool
/-- the objects that are looked at: the module's, what they name, what a class's dict names (with doubles: no test of equality) -/
def rfG (g : Addr → Option Obj) (a : Addr) : List Addr := match g a with
  | some o => He.refsD o
  | none => []
def asH (g : Addr → Option Obj) : List Addr := mainGlobals :: (rfG g mainGlobals).flatMap fun a => a :: (rfG g a).flatMap fun b => b :: match g b with
  | some ⟨_, _, .dict _ _, _⟩ => (rfG g b).flatMap fun c => c :: rfG g c
  | _ => []
def obsE (_ : Nat) (g : Addr → Option Obj) : AlE := (He.obsD hfa hfn (He.frG g (asH g)), hex (He.frG g (asH g)))
def hookE (n : Nat) : PySem.W.Hook where
  α := AlE
  obs := fun s => obsE n s.heap.get?
  val := fun _ => (He.valD hfn, true)
  says := fun _ h => ∃ K : PySem.W.Frag, K.In h ∧ He.SaysD hfa hfn K ∧ hex K = true
  of := fun _ _ e => ⟨_, He.frG_in, congrArg (fun z : AlE => z.1) e, congrArg (fun z : AlE => z.2) e⟩
  keeps := fun _ _ _ ⟨K, hK, c⟩ k => ⟨K, PySem.W.Frag.In.keeps hK k, c⟩
theorem obsE_eq {n : Nat} {g : Addr → Option Obj} {s : Shared} (h : ∀ a, g a = s.heap.get? a) : obsE n g = (hookE n).obs s := by
  have e : g = s.heap.get? := funext h
  rw [e] <;> rfl
abbrev hR : PySem.W.OpenRow := PySem.W.OpenLaw.row PySem.Challenge.rw_bestatall_k03_main_across_slower_houses
abbrev hhk : PySem.W.Hook := hookE 5
def hob (s : PySem.W.SharedT) : AlE := obsE 5 (HandSHeadRun.getT s)
theorem hob_eq (s : PySem.W.SharedT) : hob s = hhk.obs s.abs := obsE_eq (HandSHeadRun.getT_eq s)
theorem hrun (w : World) : HandSHeadRun.RunEq hR (PySem.W.view hR.prog [96]) hhk hob 6000 hnm w := by
  intro os
  kernel_rfl
end Wk
end
section
set_option Elab.async false
set_option linter.all false
set_option maxRecDepth 100000
/-! L3a: data D, what represents it in an abstract heap, steps of the heap, the judgements of expressions over data. -/
namespace L3
open PySem PySem.Spec PyProof.Rows L2
abbrev St := L2.St
/-- data: a value without the heap. obj: an instance of the class with this number, its attributes in their order; drw: the state of the draws; scr: the script -/
inductive D where
  | non | bl (b : Bool) | int (i : Int) | str (x : Str)
  | lst (xs : List D) | tup (xs : List D)
  | obj (c : Nat) (fs : List D)
  | drw
  | scr
/-- what is fixed: the classes' addresses and attributes by number; the draws' three addresses (dict, large, cells) -/
structure Tabs where
  ca : Nat → Addr
  fn : Nat → List Str
  kk : PySem.W.Frag
structure Ctx where
  tb : Tabs
  dr : Option (Addr × Addr × Addr)
theorem SqL.same {K : PySem.W.Frag} {H H' : Hp} {a : Addr} {xs : List V} (h : SqL K H a xs) (e : Same H H') : SqL K H' a xs :=
  h.elim (fun h => .inl (h.elim (fun h => .inl (e _ _ h)) fun ⟨o, h⟩ => .inr ⟨o, e _ _ h⟩)) fun h => .inr h
mutual
def Rep (G : Ctx) (F : Hp) : V → D → Prop
  | v, .non => v = .non
  | v, .bl b => v = .bl b
  | v, .int i => v = .int i
  | v, .str x => v = .str x
  | v, .lst ds => ∃ a vs, v = .ref a ∧ F a = some (.lst vs) ∧ Reps G F vs ds
  | v, .tup ds => ∃ a vs, v = .ref a ∧ F a = some (.tup vs) ∧ Reps G F vs ds
  | v, .obj c ds => ∃ a dx vs, v = .ref a ∧ F a = some (.ins (G.tb.ca c) dx ((G.tb.fn c).zip vs)) ∧ vs.length ≤ (G.tb.fn c).length ∧ Reps G F vs ds
  | v, .drw => ∃ d, (∃ l c, G.dr = some (d, l, c)) ∧ v = .ref d
  | v, .scr => ∃ (a : Addr) (ns : List Int), v = .ref a ∧ SqL G.tb.kk F a (ns.map V.int) ∧ ns.length ≤ 63
def Reps (G : Ctx) (F : Hp) : List V → List D → Prop
  | vs, [] => vs = []
  | vs, d :: ds => ∃ v r, vs = v :: r ∧ Rep G F v d ∧ Reps G F r ds
end
section
variable {G : Ctx} {F F' : Hp}
theorem reps_nil {vs : List V} : Reps G F vs [] ↔ vs = [] := by unfold Reps; exact Iff.rfl
theorem reps_cons {v : V} {vs : List V} {d : D} {ds : List D} : Reps G F (v :: vs) (d :: ds) ↔ Rep G F v d ∧ Reps G F vs ds := by
  constructor
  · intro h
    unfold Reps at h
    obtain ⟨v', r, e, h1, h2⟩ := h
    cases e
    exact ⟨h1, h2⟩
  · rintro ⟨h1, h2⟩
    unfold Reps
    exact ⟨v, vs, rfl, h1, h2⟩
theorem Reps.nil : Reps G F [] [] := reps_nil.mpr rfl
theorem Reps.cons {v : V} {vs : List V} {d : D} {ds : List D} (h : Rep G F v d) (t : Reps G F vs ds) : Reps G F (v :: vs) (d :: ds) := reps_cons.mpr ⟨h, t⟩
theorem Reps.length : ∀ {ds : List D} {vs : List V}, Reps G F vs ds → vs.length = ds.length
  | [], vs, h => by
    have e := reps_nil.mp h
    subst e
    rfl
  | d :: ds, vs, h => by
    unfold Reps at h
    obtain ⟨v, r, rfl, _, h2⟩ := h
    rw [List.length_cons, List.length_cons, Reps.length h2]
mutual
theorem Rep.mono (s : Same F F') : ∀ {d : D} {v : V}, Rep G F v d → Rep G F' v d
  | .non, v, h => by unfold Rep at h ⊢; exact h
  | .bl b, v, h => by unfold Rep at h ⊢; exact h
  | .int i, v, h => by unfold Rep at h ⊢; exact h
  | .str x, v, h => by unfold Rep at h ⊢; exact h
  | .lst ds, v, h => by
    unfold Rep at h ⊢
    obtain ⟨a, vs, e, h1, h2⟩ := h
    exact ⟨a, vs, e, s _ _ h1, Reps.mono s h2⟩
  | .tup ds, v, h => by
    unfold Rep at h ⊢
    obtain ⟨a, vs, e, h1, h2⟩ := h
    exact ⟨a, vs, e, s _ _ h1, Reps.mono s h2⟩
  | .obj c ds, v, h => by
    unfold Rep at h ⊢
    obtain ⟨a, dx, vs, e, h1, h2, h3⟩ := h
    exact ⟨a, dx, vs, e, s _ _ h1, h2, Reps.mono s h3⟩
  | .drw, v, h => by unfold Rep at h ⊢; exact h
  | .scr, v, h => by
    unfold Rep at h ⊢
    obtain ⟨a, ns, e, h1, h2⟩ := h
    exact ⟨a, ns, e, SqL.same h1 s, h2⟩
theorem Reps.mono (s : Same F F') : ∀ {ds : List D} {vs : List V}, Reps G F vs ds → Reps G F' vs ds
  | [], vs, h => by rw [reps_nil] at h ⊢; exact h
  | d :: ds, vs, h => by
    unfold Reps at h ⊢
    obtain ⟨v, r, e, h1, h2⟩ := h
    exact ⟨v, r, e, Rep.mono s h1, Reps.mono s h2⟩
end
theorem Reps.get : ∀ {ds : List D} {vs : List V} {i : Nat} {d : D}, Reps G F vs ds → ds[i]? = some d → ∃ v, vs[i]? = some v ∧ Rep G F v d
  | [], _, _, _, _, e => by simp at e
  | x :: ds, vs, i, d, h, e => by
    unfold Reps at h
    obtain ⟨v, r, rfl, h1, h2⟩ := h
    cases i with
    | zero =>
      simp at e
      subst e
      exact ⟨v, rfl, h1⟩
    | succ i =>
      obtain ⟨u, e1, e2⟩ := Reps.get (i := i) h2 (by simpa using e)
      exact ⟨u, by simpa using e1, e2⟩
theorem Reps.get' : ∀ {ds : List D} {vs : List V} {i : Nat} {v : V}, Reps G F vs ds → vs[i]? = some v → ∃ d, ds[i]? = some d ∧ Rep G F v d
  | [], vs, i, v, h, e => by rw [reps_nil.mp h] at e; simp at e
  | x :: ds, vs, i, v, h, e => by
    unfold Reps at h
    obtain ⟨w, r, rfl, h1, h2⟩ := h
    cases i with
    | zero =>
      simp at e
      subst e
      exact ⟨x, rfl, h1⟩
    | succ i =>
      obtain ⟨d, e1, e2⟩ := Reps.get' (i := i) h2 (by simpa using e)
      exact ⟨d, by simpa using e1, e2⟩
theorem Reps.append : ∀ {ds es : List D} {vs ws : List V}, Reps G F vs ds → Reps G F ws es → Reps G F (vs ++ ws) (ds ++ es)
  | [], es, vs, ws, h, h' => by rw [reps_nil.mp h]; exact h'
  | d :: ds, es, vs, ws, h, h' => by
    unfold Reps at h
    obtain ⟨v, r, rfl, h1, h2⟩ := h
    exact Reps.cons h1 (Reps.append h2 h')
theorem Reps.set : ∀ {ds : List D} {vs : List V} {v : V} {d : D} (i : Nat), Reps G F vs ds → Rep G F v d → Reps G F (vs.set i v) (ds.set i d)
  | [], vs, v, d, i, h, _ => by rw [reps_nil.mp h]; exact Reps.nil
  | x :: ds, vs, v, d, i, h, hd => by
    unfold Reps at h
    obtain ⟨w, r, rfl, h1, h2⟩ := h
    cases i with
    | zero => exact Reps.cons hd h2
    | succ i => exact Reps.cons h1 (Reps.set i h2 hd)
theorem Reps.take : ∀ {ds : List D} {vs : List V} (n : Nat), Reps G F vs ds → Reps G F (vs.take n) (ds.take n)
  | _, _, 0, _ => Reps.nil
  | [], vs, n + 1, h => by rw [reps_nil.mp h]; exact Reps.nil
  | d :: ds, vs, n + 1, h => by
    unfold Reps at h
    obtain ⟨w, r, rfl, h1, h2⟩ := h
    exact Reps.cons h1 (Reps.take n h2)
theorem Reps.drop : ∀ {ds : List D} {vs : List V} (n : Nat), Reps G F vs ds → Reps G F (vs.drop n) (ds.drop n)
  | _, _, 0, h => h
  | [], vs, n + 1, h => by rw [reps_nil.mp h]; exact Reps.nil
  | d :: ds, vs, n + 1, h => by
    unfold Reps at h
    obtain ⟨w, r, rfl, h1, h2⟩ := h
    exact Reps.drop n h2
theorem Reps.ints : ∀ {ns : List Int} {vs : List V}, Reps G F vs (ns.map D.int) → vs = ns.map V.int
  | [], vs, h => reps_nil.mp h
  | n :: ns, vs, h => by
    unfold List.map Reps at h
    obtain ⟨v, r, rfl, h1, h2⟩ := h
    unfold Rep at h1
    rw [List.map_cons, h1, Reps.ints h2]
theorem Reps.of_ints : ∀ (ns : List Int), Reps G F (ns.map V.int) (ns.map D.int)
  | [] => Reps.nil
  | n :: ns => Reps.cons (by unfold Rep; rfl) (Reps.of_ints ns)
theorem Reps.bls : ∀ {ns : List Bool} {vs : List V}, Reps G F vs (ns.map D.bl) → vs = ns.map V.bl
  | [], vs, h => reps_nil.mp h
  | n :: ns, vs, h => by
    unfold List.map Reps at h
    obtain ⟨v, r, rfl, h1, h2⟩ := h
    unfold Rep at h1
    rw [List.map_cons, h1, Reps.bls h2]
theorem Rep.int_iff {v : V} {i : Int} : Rep G F v (.int i) ↔ v = .int i := by unfold Rep; exact Iff.rfl
theorem Rep.bl_iff {v : V} {b : Bool} : Rep G F v (.bl b) ↔ v = .bl b := by unfold Rep; exact Iff.rfl
theorem Rep.non_iff {v : V} : Rep G F v .non ↔ v = .non := by unfold Rep; exact Iff.rfl
theorem Rep.str_iff {v : V} {x : Str} : Rep G F v (.str x) ↔ v = .str x := by unfold Rep; exact Iff.rfl
theorem Rep.lst_iff {v : V} {ds : List D} : Rep G F v (.lst ds) ↔ ∃ a vs, v = .ref a ∧ F a = some (.lst vs) ∧ Reps G F vs ds := by unfold Rep; exact Iff.rfl
theorem Rep.tup_iff {v : V} {ds : List D} : Rep G F v (.tup ds) ↔ ∃ a vs, v = .ref a ∧ F a = some (.tup vs) ∧ Reps G F vs ds := by unfold Rep; exact Iff.rfl
theorem Rep.obj_iff {v : V} {c : Nat} {ds : List D} : Rep G F v (.obj c ds) ↔ ∃ a dx vs, v = .ref a ∧ F a = some (.ins (G.tb.ca c) dx ((G.tb.fn c).zip vs)) ∧ vs.length ≤ (G.tb.fn c).length ∧ Reps G F vs ds := by unfold Rep; exact Iff.rfl
end
/-! ### the draws -/
/-- the draws' dict stands at d, its list of great numbers at l, that of the cells at c -/
structure DrawAt (H : Hp) (d l c : Addr) : Prop where
  ex : ∃ (r t : Int) (ls cs : List Int), H d = some (.dK [(Sum.inr ("large" : Str), .ref l), (Sum.inr ("rest" : Str), .int r), (Sum.inr ("cells" : Str), .ref c), (Sum.inr ("turn" : Str), .int t)]) ∧
    H l = some (.lst (ls.map V.int)) ∧ H c = some (.lst (cs.map V.int)) ∧ 0 ≤ r ∧ 0 ≤ t ∧ (∀ x ∈ ls, 0 ≤ x) ∧ (∀ x ∈ cs, 0 ≤ x) ∧ ls.length ≤ 63 ∧ cs.length ≤ 63
theorem DrawAt.apart {H : Hp} {d l c : Addr} (h : DrawAt H d l c) : d ≠ l ∧ d ≠ c := by
  obtain ⟨r, t, ls, cs, h1, h2, h3, _⟩ := h.ex
  exact ⟨ne_of h1 h2 (by intro z; cases z), ne_of h1 h3 (by intro z; cases z)⟩
theorem DrawAt.some {H : Hp} {d l c : Addr} (h : DrawAt H d l c) : (∃ o, H d = Option.some o) ∧ (∃ o, H l = Option.some o) ∧ (∃ o, H c = Option.some o) := by
  obtain ⟨r, t, ls, cs, h1, h2, h3, _⟩ := h.ex
  exact ⟨⟨_, h1⟩, ⟨_, h2⟩, ⟨_, h3⟩⟩
/-- an address of the draws -/
def Dr (G : Ctx) (a : Addr) : Prop := ∃ d l c, G.dr = some (d, l, c) ∧ (a = d ∨ a = l ∨ a = c)
/-- the draws stand, apart from what is fixed; the cells are fixed -/
def DrOk (G : Ctx) (F H : Hp) : Prop := ∀ d l c, G.dr = some (d, l, c) → DrawAt H d l c ∧ F d = none ∧ F l = none ∧ ∃ o, F c = some o
/-- what was tracked is as it was, but for the draws -/
def SameD (G : Ctx) (H H' : Hp) : Prop := ∀ a o, H a = some o → ¬ Dr G a → H' a = some o
theorem SameD.refl {G : Ctx} (H : Hp) : SameD G H H := fun _ _ e _ => e
theorem SameD.trans {G : Ctx} {H H1 H2 : Hp} (a : SameD G H H1) (b : SameD G H1 H2) : SameD G H H2 := fun c o e n => b c o (a c o e n) n
theorem Same.toD {G : Ctx} {H H' : Hp} (s : Same H H') : SameD G H H' := fun a o e _ => s a o e
/-- a step: the fixed part F grows to F' by new objects alone; the heap is as it was but for the draws and new objects -/
structure Step (G : Ctx) (F H F' H' : Hp) : Prop where
  same : SameD G H H'
  grow : Same F F'
  new : ∀ a o, F' a = some o → F a = some o ∨ H a = none
  fix : Same F' H'
  dr : DrOk G F' H'
theorem Step.dom {G : Ctx} {F H F' H' : Hp} (s : Step G F H F' H') (d : DrOk G F H) {a : Addr} (h : H' a = none) : H a = none := by
  cases e : H a with
  | none => rfl
  | some o =>
    by_cases hd : Dr G a
    · obtain ⟨x, l, c, e1, e2⟩ := hd
      obtain ⟨⟨o1, h1⟩, ⟨o2, h2⟩, ⟨o3, h3⟩⟩ := (s.dr x l c e1).1.some
      rcases e2 with rfl | rfl | rfl
      · rw [h1] at h; cases h
      · rw [h2] at h; cases h
      · rw [h3] at h; cases h
    · rw [s.same a o e hd] at h
      cases h
theorem Step.refl {G : Ctx} {F H : Hp} (h : Same F H) (d : DrOk G F H) : Step G F H F H := ⟨SameD.refl H, fun _ _ e => e, fun _ _ e => .inl e, h, d⟩
theorem Step.trans {G : Ctx} {F H F1 H1 F2 H2 : Hp} (d : DrOk G F H) (a : Step G F H F1 H1) (b : Step G F1 H1 F2 H2) : Step G F H F2 H2 :=
  ⟨a.same.trans b.same, fun c o e => b.grow c o (a.grow c o e), fun c o e => by
    rcases b.new c o e with h | h
    · exact a.new c o h
    · exact .inr (a.dom d h), b.fix, b.dr⟩
/-- a new object, fixed at once -/
theorem Step.alloc {G : Ctx} {F H : Hp} {p : Addr} {o : HO} (h : Same F H) (d : DrOk G F H) (hp : H p = none) : Step G F H (upd F p o) (upd H p o) := by
  have hF : F p = none := h.free hp
  have nd : ∀ x l c, G.dr = some (x, l, c) → x ≠ p ∧ l ≠ p ∧ c ≠ p := fun x l c e => by
    obtain ⟨⟨o1, h1⟩, ⟨o2, h2⟩, ⟨o3, h3⟩⟩ := (d x l c e).1.some
    exact ⟨ne_of_none h1 hp, ne_of_none h2 hp, ne_of_none h3 hp⟩
  refine ⟨fun a u e _ => ?_, fun a u e => ?_, fun a u e => ?_, fun a u e => ?_, fun x l c e => ?_⟩
  · rw [upd_ne (ne_of_none e hp)]; exact e
  · rw [upd_ne (ne_of_none e hF)]; exact e
  · by_cases ha : a = p
    · rw [ha]; exact .inr hp
    · rw [upd_ne ha] at e; exact .inl e
  · by_cases ha : a = p
    · subst ha; rw [upd_same] at e ⊢; exact e
    · rw [upd_ne ha] at e ⊢; exact h a u e
  · obtain ⟨h1, h2, h3, h4⟩ := d x l c e
    obtain ⟨n1, n2, n3⟩ := nd x l c e
    refine ⟨?_, by rw [upd_ne n1]; exact h2, by rw [upd_ne n2]; exact h3, by rw [upd_ne n3]; exact h4⟩
    obtain ⟨r, t, ls, cs, g1, g2, g3, g⟩ := h1.ex
    exact ⟨r, t, ls, cs, by rw [upd_ne n1]; exact g1, by rw [upd_ne n2]; exact g2, by rw [upd_ne n3]; exact g3, g⟩
/-! ### the judgements of expressions -/
abbrev DEnv := List (Option D)
abbrev DK := D → Prop
/-- readings over data -/
abbrev DE := DEnv → DK → Prop
abbrev DT := DEnv → (Bool → Prop) → Prop
abbrev DA := DEnv → (List D → Prop) → Prop
/-- the slots show the environment -/
structure GE (G : Ctx) (F : Hp) (δ : DEnv) (σ : St) (H : Hp) : Prop where
  fix : Same F H
  dr : DrOk G F H
  sl : ∀ (i : Nat) (d : D), δ[i]? = some (some d) → ∃ v, σ[i]? = some (some v) ∧ Rep G F v d
  len : δ.length ≤ σ.length
theorem GE.step {G : Ctx} {F F' : Hp} {δ : DEnv} {σ : St} {H H' : Hp} (g : GE G F δ σ H) (s : Step G F H F' H') : GE G F' δ σ H' :=
  ⟨s.fix, s.dr, fun i d e => by
    obtain ⟨v, e1, e2⟩ := g.sl i d e
    exact ⟨v, e1, e2.mono s.grow⟩, g.len⟩
theorem GE.rfl {G : Ctx} {F : Hp} {δ : DEnv} {σ : St} {H : Hp} (g : GE G F δ σ H) : Step G F H F H := Step.refl g.fix g.dr
def teF (G : Ctx) (t : DE) : TE := fun σ H R => ∃ F δ Q, GE G F δ σ H ∧ t δ Q ∧ ∀ v H' F' d, Step G F H F' H' → Rep G F' v d → Q d → R v H'
def ttF (G : Ctx) (t : DT) : TT := fun σ H R => ∃ F δ Q, GE G F δ σ H ∧ t δ Q ∧ ∀ b H' F', Step G F H F' H' → Q b → R b H'
def taF (G : Ctx) (t : DA) : TA := fun σ H R => ∃ F δ Q, GE G F δ σ H ∧ t δ Q ∧ ∀ vs H' F' ds, Step G F H F' H' → Reps G F' vs ds → Q ds → R vs H'
abbrev FE (X : Cx) (G : Ctx) (e : Expr) (t : DE) : Prop := PE X e (teF G t)
abbrev FT (X : Cx) (G : Ctx) (e : Expr) (t : DT) : Prop := PT X e (ttF G t)
abbrev FA (X : Cx) (G : Ctx) (es : List Expr) (t : DA) : Prop := PA X es (taF G t)
section
variable {X : Cx} {G : Ctx} {e : Expr}
theorem PE.imp {t t' : TE} (h : PE X e t) (i : ∀ σ H Q, t' σ H Q → t σ H Q) : PE X e t' := ⟨fun pins s σ H Q I q => h.run pins s σ H Q I (i σ H Q q)⟩
theorem PT.imp {t t' : TT} (h : PT X e t) (i : ∀ σ H Q, t' σ H Q → t σ H Q) : PT X e t' := ⟨fun pins s σ H Q I q => h.run pins s σ H Q I (i σ H Q q)⟩
theorem PA.imp {es : List Expr} {t t' : TA} (h : PA X es t) (i : ∀ σ H Q, t' σ H Q → t σ H Q) : PA X es t' := ⟨fun p pins s σ H Q I q => h.run p pins s σ H Q I (i σ H Q q)⟩
end
/-! ### names, constants -/
section
variable {X : Cx} {G : Ctx} {pos : Pos}
def dVar (i : Nat) : DE := fun δ Q => match δ[i]? with
  | some (some d) => Q d
  | _ => False
theorem dVar_iff {i : Nat} {δ : DEnv} {Q : DK} : dVar i δ Q ↔ ∃ d, δ[i]? = some (some d) ∧ Q d := by
  unfold dVar
  split
  · rename_i d e
    exact ⟨fun q => ⟨d, e, q⟩, fun ⟨d', e', q⟩ => by rw [e] at e'; cases e'; exact q⟩
  · rename_i h
    exact ⟨fun q => q.elim, fun ⟨d, e, q⟩ => (h d e).elim⟩
/-- what a value must be: an int, a bool, a list or tuple -/
def asInt (x : D) (k : Int → Prop) : Prop := match x with
  | .int i => k i
  | _ => False
def asBl (x : D) (k : Bool → Prop) : Prop := match x with
  | .bl b => k b
  | _ => False
def asSeq (x : D) (k : List D → Prop) : Prop := match x with
  | .lst xs => k xs
  | .tup xs => k xs
  | _ => False
def asLst (x : D) (k : List D → Prop) : Prop := match x with
  | .lst xs => k xs
  | _ => False
def asTup (x : D) (k : List D → Prop) : Prop := match x with
  | .tup xs => k xs
  | _ => False
def asObj (x : D) (k : Nat → List D → Prop) : Prop := match x with
  | .obj c fs => k c fs
  | _ => False
theorem asInt_iff {x : D} {k : Int → Prop} : asInt x k ↔ ∃ i, x = .int i ∧ k i := by cases x <;> simp [asInt]
theorem asBl_iff {x : D} {k : Bool → Prop} : asBl x k ↔ ∃ i, x = .bl i ∧ k i := by cases x <;> simp [asBl]
theorem asLst_iff {x : D} {k : List D → Prop} : asLst x k ↔ ∃ i, x = .lst i ∧ k i := by cases x <;> simp [asLst]
theorem asTup_iff {x : D} {k : List D → Prop} : asTup x k ↔ ∃ i, x = .tup i ∧ k i := by cases x <;> simp [asTup]
theorem asSeq_iff {x : D} {k : List D → Prop} : asSeq x k ↔ ∃ i, (x = .lst i ∨ x = .tup i) ∧ k i := by cases x <;> simp [asSeq]
theorem asObj_iff {x : D} {k : Nat → List D → Prop} : asObj x k ↔ ∃ c fs, x = .obj c fs ∧ k c fs := by
  cases x with
  | obj c fs => exact ⟨fun q => ⟨c, fs, rfl, q⟩, fun ⟨_, _, e, q⟩ => by cases e; exact q⟩
  | _ => exact ⟨fun q => q.elim, fun ⟨_, _, e, _⟩ => by cases e⟩
def dC (d : D) : DE := fun _ Q => Q d
theorem fe_var {e : Expr} {i : Nat} (h : PE X e (tVar i)) : FE X G e (dVar i) := PE.imp h fun σ H R ⟨F, δ, Q, g, q, k⟩ => by
  obtain ⟨d, e1, z0⟩ := dVar_iff.mp q
  clear q
  have q := z0
  obtain ⟨v, e2, r⟩ := g.sl i d e1
  exact ⟨v, e2, k v H F d g.rfl r q⟩
theorem fe_const {e : Expr} {v : V} {d : D} (h : PE X e (tC v)) (r : ∀ F, Rep G F v d) : FE X G e (dC d) := PE.imp h fun σ H R ⟨F, δ, Q, g, q, k⟩ => k v H F d g.rfl (r F) q
theorem fe_int {i : Int} {j} : FE X G (.Constant (.int i) j pos) (dC (.int i)) := fe_const pe_int fun _ => Rep.int_iff.mpr rfl
theorem fe_bl {b : Bool} {j} : FE X G (.Constant (.bool b) j pos) (dC (.bl b)) := fe_const pe_bl fun _ => Rep.bl_iff.mpr rfl
theorem fe_non {j} : FE X G (.Constant .none j pos) (dC .non) := fe_const pe_non fun _ => Rep.non_iff.mpr rfl
theorem fe_str {x : Str} {j} : FE X G (.Constant (.str x) j pos) (dC (.str x)) := fe_const pe_str fun _ => Rep.str_iff.mpr rfl
end
/-! ### operators by values -/
/-- a reading of two values, over data -/
abbrev D2 := D → D → DK → Prop
def OpD (G : Ctx) (r : R2) (g : D2) : Prop := ∀ (F H : Hp) (x y : V) (d e : D) (Q : DK) (R : VK), Same F H → DrOk G F H → Rep G F x d → Rep G F y e → g d e Q →
  (∀ v H' F' z, Step G F H F' H' → Rep G F' v z → Q z → R v H') → r x y H R
def dBin (g : D2) (ta tb : DE) : DE := fun δ Q => ta δ fun x => tb δ fun y => g x y Q
section
variable {X : Cx} {G : Ctx} {a b c : Expr} {ta tb tc : DE} {pos : Pos}
theorem teF_bin {r : R2} {g : D2} (ho : OpD G r g) {σ : St} {H : Hp} {R : VK} (h : teF G (dBin g ta tb) σ H R) : tOp r (teF G ta) (teF G tb) σ H R := by
  obtain ⟨F, δ, Q, ge, q, k⟩ := h
  refine ⟨F, δ, _, ge, q, fun x H1 F1 d s1 r1 q1 => ?_⟩
  refine ⟨F1, δ, _, ge.step s1, q1, fun y H2 F2 e s2 r2 q2 => ?_⟩
  refine ho F2 H2 x y d e Q R s2.fix s2.dr (r1.mono s2.grow) r2 q2 fun v H3 F3 z s3 r3 q3 => ?_
  exact k v H3 F3 z ((s1.trans ge.dr s2).trans ge.dr s3) r3 q3
theorem fe_op {op : Operator} {r : R2} {g : D2} (ho : OpR X (binaryOp op) r) (hd : OpD G r g) (ha : FE X G a ta) (hb : FE X G b tb) : FE X G (.BinOp a op b pos) (dBin g ta tb) :=
  PE.imp (pe_op ho ha hb) fun σ H R h => teF_bin hd h
theorem fe_cmp {op : CmpOp} {r : R2} {g : D2} (ho : OpR X (compareOp op) r) (hd : OpD G r g) (ha : FE X G a ta) (hb : FE X G b tb) (hm : behindInMarks op b = false := by exact nomark _) : FE X G (.Compare a [op] [b] pos) (dBin g ta tb) :=
  PE.imp (pe_cmpR ho ha hb hm) fun σ H R h => teF_bin hd h
/-- a reading of a value as a test -/
def dTest (t : DE) : DT := fun δ Q => t δ fun x => asBl x Q
theorem ttF_test {t : TE} {td : DE} (ht : ∀ σ H R, teF G td σ H R → t σ H R) {σ : St} {H : Hp} {R : Bool → Hp → Prop} (h : ttF G (dTest td) σ H R) : tTest t σ H R := by
  obtain ⟨F, δ, Q, ge, q, k⟩ := h
  refine ht σ H _ ⟨F, δ, _, ge, q, fun v H1 F1 d s1 r1 q1 => ?_⟩
  obtain ⟨b, rfl, z0⟩ := asBl_iff.mp q1
  clear q1
  have q1 := z0
  exact ⟨b, Rep.bl_iff.mp r1, k b H1 F1 s1 q1⟩
theorem ft_cmp {op : CmpOp} {r : R2} {g : D2} (ho : OpR X (compareOp op) r) (hd : OpD G r g) (ha : FE X G a ta) (hb : FE X G b tb) (hm : behindInMarks op b = false := by exact nomark _) : FT X G (.Compare a [op] [b] pos) (dTest (dBin g ta tb)) :=
  PT.imp (pt_cmpR ho ha hb hm) fun σ H R h => ttF_test (fun _ _ _ z => teF_bin hd z) h
def dChain (g g' : D2) (ta tb tc : DE) : DE := fun δ Q => ta δ fun x => tb δ fun y => g x y fun z => asBl z fun k => (if k = true then tc δ fun w => g' y w Q else Q (.bl false))
theorem teF_chain {r r' : R2} {g g' : D2} (ho : OpD G r g) (ho' : OpD G r' g') {σ : St} {H : Hp} {R : VK} (h : teF G (dChain g g' ta tb tc) σ H R) : tChain r r' (teF G ta) (teF G tb) (teF G tc) σ H R := by
  obtain ⟨F, δ, Q, ge, q, k⟩ := h
  refine ⟨F, δ, _, ge, q, fun x H1 F1 d s1 r1 q1 => ?_⟩
  refine ⟨F1, δ, _, ge.step s1, q1, fun y H2 F2 e s2 r2 q2 => ?_⟩
  have s02 := s1.trans ge.dr s2
  refine ho F2 H2 x y d e _ _ s2.fix s2.dr (r1.mono s2.grow) r2 q2 fun v H3 F3 z s3 r3 q3 => ?_
  have s03 := s02.trans ge.dr s3
  obtain ⟨b, rfl, z0⟩ := asBl_iff.mp q3
  clear q3
  have q3 := z0
  refine ⟨b, Rep.bl_iff.mp r3, ?_⟩
  cases b with
  | false =>
    rw [if_neg Bool.false_ne_true] at q3 ⊢
    exact k _ H3 F3 _ s03 (Rep.bl_iff.mpr rfl) q3
  | true =>
    rw [if_pos rfl] at q3 ⊢
    refine ⟨F3, δ, _, ge.step s03, q3, fun w H4 F4 f s4 r4 q4 => ?_⟩
    refine ho' F4 H4 y w e f Q R s4.fix s4.dr ((r2.mono s3.grow).mono s4.grow) r4 q4 fun v H5 F5 z s5 r5 q5 => ?_
    exact k v H5 F5 z ((s03.trans ge.dr s4).trans ge.dr s5) r5 q5
theorem fe_chain {op op' : CmpOp} {r r' : R2} {g g' : D2} (ho : OpR X (compareOp op) r) (hd : OpD G r g) (ho' : OpR X (compareOp op') r') (hd' : OpD G r' g') (ha : FE X G a ta) (hb : FE X G b tb) (hc : FE X G c tc)
    (hm : lastMarks [op, op'] [b, c] = false := by with_unfolding_all rfl) : FE X G (.Compare a [op, op'] [b, c] pos) (dChain g g' ta tb tc) :=
  PE.imp (pe_chain ho ho' ha hb hc hm) fun σ H R h => teF_chain hd hd' h
theorem ft_chain {op op' : CmpOp} {r r' : R2} {g g' : D2} (ho : OpR X (compareOp op) r) (hd : OpD G r g) (ho' : OpR X (compareOp op') r') (hd' : OpD G r' g') (ha : FE X G a ta) (hb : FE X G b tb) (hc : FE X G c tc)
    (hm : lastMarks [op, op'] [b, c] = false := by with_unfolding_all rfl) : FT X G (.Compare a [op, op'] [b, c] pos) (dTest (dChain g g' ta tb tc)) :=
  PT.imp (pt_chain ho ho' ha hb hc hm) fun σ H R h => ttF_test (fun _ _ _ z => teF_chain hd hd' z) h
end
/-! ### whole numbers -/
def gI (C : Int → Int → Prop) (f : Int → Int → D) : D2 := fun x y Q => asInt x fun i => asInt y fun j => C i j ∧ Q (f i j)
def gI0 (f : Int → Int → D) : D2 := fun x y Q => asInt x fun i => asInt y fun j => Q (f i j)
theorem gI_iff {C : Int → Int → Prop} {f : Int → Int → D} {x y : D} {Q : DK} : gI C f x y Q ↔ ∃ i j, x = .int i ∧ y = .int j ∧ C i j ∧ Q (f i j) := by
  unfold gI
  rw [asInt_iff]
  constructor
  · rintro ⟨i, e, h⟩
    obtain ⟨j, e2, h⟩ := asInt_iff.mp h
    exact ⟨i, j, e, e2, h⟩
  · rintro ⟨i, j, e, e2, h⟩
    exact ⟨i, e, asInt_iff.mpr ⟨j, e2, h⟩⟩
theorem gI0_iff {f : Int → Int → D} {x y : D} {Q : DK} : gI0 f x y Q ↔ ∃ i j, x = .int i ∧ y = .int j ∧ Q (f i j) := by
  unfold gI0
  rw [asInt_iff]
  constructor
  · rintro ⟨i, e, h⟩
    obtain ⟨j, e2, h⟩ := asInt_iff.mp h
    exact ⟨i, j, e, e2, h⟩
  · rintro ⟨i, j, e, e2, h⟩
    exact ⟨i, e, asInt_iff.mpr ⟨j, e2, h⟩⟩
section
variable {G : Ctx}
theorem od_I {C : Int → Int → Prop} {f : Int → Int → Int} : OpD G (rI C fun i j => .int (f i j)) (gI C fun i j => .int (f i j)) := by
  intro F H x y d e Q R hs hd rx ry q k
  obtain ⟨i, j, rfl, rfl, c, z0⟩ := gI_iff.mp q
  clear q
  have q := z0
  exact ⟨i, j, Rep.int_iff.mp rx, Rep.int_iff.mp ry, c, k _ H F _ (Step.refl hs hd) (Rep.int_iff.mpr rfl) q⟩
theorem od_I0 {f : Int → Int → Int} : OpD G (rI0 fun i j => .int (f i j)) (gI0 fun i j => .int (f i j)) := by
  intro F H x y d e Q R hs hd rx ry q k
  obtain ⟨i, j, rfl, rfl, z0⟩ := gI0_iff.mp q
  clear q
  have q := z0
  exact ⟨i, j, Rep.int_iff.mp rx, Rep.int_iff.mp ry, k _ H F _ (Step.refl hs hd) (Rep.int_iff.mpr rfl) q⟩
theorem od_B0 {f : Int → Int → Bool} : OpD G (rI0 fun i j => .bl (f i j)) (gI0 fun i j => .bl (f i j)) := by
  intro F H x y d e Q R hs hd rx ry q k
  obtain ⟨i, j, rfl, rfl, z0⟩ := gI0_iff.mp q
  clear q
  have q := z0
  exact ⟨i, j, Rep.int_iff.mp rx, Rep.int_iff.mp ry, k _ H F _ (Step.refl hs hd) (Rep.bl_iff.mpr rfl) q⟩
abbrev gAdd : D2 := gI0 fun i j => .int (i + j)
abbrev gSub : D2 := gI0 fun i j => .int (i - j)
def CMulB (i j : Int) : Prop := CMul i j ∨ CMulW i j
theorem op_mulB {X : Cx} : OpR X (binaryOp .Mult) (rI CMulB fun i j => .int (i * j)) := opI fun _ _ _ _ _ _ _ hc q => mul_int q (hc.elim CMul.ok CMulW.ok)
abbrev gMul : D2 := gI CMulB fun i j => .int (i * j)
abbrev gDiv : D2 := gI CDivW fun i j => .int (i / j)
abbrev gMod : D2 := gI (fun _ j => 0 < j) fun i j => .int (i % j)
abbrev gPow : D2 := gI CPow fun i j => .int (i ^ j.toNat)
abbrev gLt : D2 := gI0 fun i j => .bl (decide (i < j))
abbrev gLe : D2 := gI0 fun i j => .bl (decide (i ≤ j))
abbrev gGt : D2 := gI0 fun i j => .bl (decide (j < i))
abbrev gGe : D2 := gI0 fun i j => .bl (decide (j ≤ i))
/-- is None, is not None -/
def dNone : D → Bool
  | .non => true
  | _ => false
theorem Rep.none {F : Hp} {v : V} {d : D} (h : Rep G F v d) : decide (v = .non) = dNone d := by
  cases d with
  | non => rw [Rep.non_iff.mp h]; rfl
  | bl b => rw [Rep.bl_iff.mp h]; rfl
  | int i => rw [Rep.int_iff.mp h]; rfl
  | str x => rw [Rep.str_iff.mp h]; rfl
  | lst ds => obtain ⟨a, vs, rfl, _⟩ := Rep.lst_iff.mp h; rfl
  | tup ds => obtain ⟨a, vs, rfl, _⟩ := Rep.tup_iff.mp h; rfl
  | obj c ds => obtain ⟨a, _, _, rfl, _⟩ := Rep.obj_iff.mp h; rfl
  | drw =>
    unfold Rep at h
    obtain ⟨d, _, rfl⟩ := h
    rfl
  | scr =>
    unfold Rep at h
    obtain ⟨a, ns, rfl, _⟩ := h
    rfl
def gIsN : D2 := fun x y Q => y = .non ∧ Q (.bl (dNone x))
def gNotN : D2 := fun x y Q => y = .non ∧ Q (.bl (!dNone x))
theorem od_isN : OpD G (fun x y H Q => y = .non ∧ Q (.bl (decide (x = .non))) H) gIsN := by
  rintro F H x y d e Q R hs hd rx ry ⟨rfl, q⟩ k
  refine ⟨Rep.non_iff.mp ry, ?_⟩
  rw [rx.none]
  exact k _ H F _ (Step.refl hs hd) (Rep.bl_iff.mpr rfl) q
theorem od_notN : OpD G (fun x y H Q => y = .non ∧ Q (.bl (!decide (x = .non))) H) gNotN := by
  rintro F H x y d e Q R hs hd rx ry ⟨rfl, q⟩ k
  refine ⟨Rep.non_iff.mp ry, ?_⟩
  rw [rx.none]
  exact k _ H F _ (Step.refl hs hd) (Rep.bl_iff.mpr rfl) q
def gIsB : D2 := fun x y Q => asBl x fun a => asBl y fun b => Q (.bl (decide (a = b)))
def gNotB : D2 := fun x y Q => asBl x fun a => asBl y fun b => Q (.bl (!decide (a = b)))
theorem od_isB : OpD G rIsB gIsB := by
  intro F H x y d e Q R hs hd rx ry q k
  obtain ⟨a, rfl, z0⟩ := asBl_iff.mp q
  obtain ⟨b, rfl, z1⟩ := asBl_iff.mp z0
  clear q
  have q := z1
  exact ⟨a, b, Rep.bl_iff.mp rx, Rep.bl_iff.mp ry, k _ H F _ (Step.refl hs hd) (Rep.bl_iff.mpr rfl) q⟩
theorem od_notB : OpD G rNotB gNotB := by
  intro F H x y d e Q R hs hd rx ry q k
  obtain ⟨a, rfl, z0⟩ := asBl_iff.mp q
  obtain ⟨b, rfl, z1⟩ := asBl_iff.mp z0
  clear q
  have q := z1
  exact ⟨a, b, Rep.bl_iff.mp rx, Rep.bl_iff.mp ry, k _ H F _ (Step.refl hs hd) (Rep.bl_iff.mpr rfl) q⟩
end
/-! ### equality of data -/
mutual
/-- plain data, as the library's data -/
def py : D → Option PyData
  | .non => some .none
  | .bl b => some (.bool b)
  | .int i => some (.int i)
  | .str x => some (.str x)
  | .lst xs => (pys xs).map .list
  | .tup xs => (pys xs).map .tuple
  | .obj _ _ => none
  | .drw => none
  | .scr => none
def pys : List D → Option (List PyData)
  | [] => some []
  | x :: xs => (py x).bind fun a => (pys xs).map fun b => a :: b
end
mutual
theorem py_dp {K : PySem.W.Frag} {G : Ctx} {F H : Hp} (s : Same F H) : ∀ {d : D} {v : V} {p : PyData}, Rep G F v d → py d = some p → Dp K H v p
  | .non, v, p, h, e => by unfold py at e; cases e; rw [Rep.non_iff.mp h]; exact .non
  | .bl b, v, p, h, e => by unfold py at e; cases e; rw [Rep.bl_iff.mp h]; exact .bl b
  | .int i, v, p, h, e => by unfold py at e; cases e; rw [Rep.int_iff.mp h]; exact .int i
  | .str x, v, p, h, e => by unfold py at e; cases e; rw [Rep.str_iff.mp h]; exact .str x
  | .lst ds, v, p, h, e => by
    unfold py at e
    obtain ⟨ps, e1, rfl⟩ := Option.map_eq_some_iff.mp e
    obtain ⟨a, vs, rfl, h1, h2⟩ := Rep.lst_iff.mp h
    exact .lst (SqL.of (s _ _ h1)) (pys_dp s h2 e1)
  | .tup ds, v, p, h, e => by
    unfold py at e
    obtain ⟨ps, e1, rfl⟩ := Option.map_eq_some_iff.mp e
    obtain ⟨a, vs, rfl, h1, h2⟩ := Rep.tup_iff.mp h
    exact .tup (SqT.of (s _ _ h1)) (pys_dp s h2 e1)
  | .obj c ds, v, p, h, e => by unfold py at e; cases e
  | .drw, v, p, h, e => by unfold py at e; cases e
  | .scr, v, p, h, e => by unfold py at e; cases e
theorem pys_dp {K : PySem.W.Frag} {G : Ctx} {F H : Hp} (s : Same F H) : ∀ {ds : List D} {vs : List V} {ps : List PyData}, Reps G F vs ds → pys ds = some ps → DpAll K H vs ps
  | [], vs, ps, h, e => by
    unfold pys at e
    cases e
    rw [reps_nil.mp h]
    exact .nil
  | d :: ds, vs, ps, h, e => by
    unfold pys at e
    obtain ⟨p, e1, e2⟩ := Option.bind_eq_some_iff.mp e
    obtain ⟨qs, e3, rfl⟩ := Option.map_eq_some_iff.mp e2
    unfold Reps at h
    obtain ⟨v, r, rfl, h1, h2⟩ := h
    exact .cons (py_dp s h1 e1) (pys_dp s h2 e3)
end
/-- x == y of plain data -/
def gEq : D2 := fun x y Q => ∃ p q, py x = some p ∧ py y = some q ∧ SeqAt.shaped p = true ∧ SeqAt.shaped q = true ∧ Q (.bl (PyData.eqv p q))
def gNe : D2 := fun x y Q => ∃ p q, py x = some p ∧ py y = some q ∧ SeqAt.shaped p = true ∧ SeqAt.shaped q = true ∧ Q (.bl (!PyData.eqv p q))
theorem od_eq {K : PySem.W.Frag} {G : Ctx} : OpD G (rEqD K) gEq := by
  rintro F H x y d e Q R hs hd rx ry ⟨p, q, e1, e2, s1, s2, hq⟩ k
  exact ⟨p, q, py_dp hs rx e1, py_dp hs ry e2, s1, s2, k _ H F _ (Step.refl hs hd) (Rep.bl_iff.mpr rfl) hq⟩
theorem od_ne {K : PySem.W.Frag} {G : Ctx} : OpD G (rNeD K) gNe := by
  rintro F H x y d e Q R hs hd rx ry ⟨p, q, e1, e2, s1, s2, hq⟩ k
  exact ⟨p, q, py_dp hs rx e1, py_dp hs ry e2, s1, s2, k _ H F _ (Step.refl hs hd) (Rep.bl_iff.mpr rfl) hq⟩
end L3
end
section
set_option Elab.async false
set_option linter.all false
set_option maxRecDepth 100000
/-! L3b: displays, subscripts, fields, calls, comprehensions over data. -/
namespace L3
open PySem PySem.Spec PyProof.Rows L2
/-! ### argument lists -/
def dNil : DA := fun _ Q => Q []
def dCons (t : DE) (r : DA) : DA := fun δ Q => t δ fun x => r δ fun xs => Q (x :: xs)
/-- *e -/
def dStar (t : DE) (r : DA) : DA := fun δ Q => t δ fun x => asSeq x fun xs => r δ fun ys => Q (xs ++ ys)
section
variable {X : Cx} {G : Ctx} {e : Expr} {es : List Expr} {t : DE} {r : DA} {pos p : Pos}
theorem fa_nil : FA X G [] dNil := PA.imp pa_nil fun σ H R ⟨F, δ, Q, g, q, k⟩ => k [] H F [] g.rfl Reps.nil q
theorem fa_cons (h : FE X G e t) (hr : FA X G es r) (hs : starEach (e :: es) X.env = (false, eval e X.env) :: starEach es X.env := by rfl) : FA X G (e :: es) (dCons t r) :=
  PA.imp (pa_cons h hr hs) fun σ H R ⟨F, δ, Q, g, q, k⟩ => ⟨F, δ, _, g, q, fun v H1 F1 d s1 r1 q1 => ⟨F1, δ, _, g.step s1, q1, fun vs H2 F2 ds s2 r2 q2 =>
    k (v :: vs) H2 F2 (d :: ds) (s1.trans g.dr s2) (.cons (r1.mono s2.grow) r2) q2⟩⟩
theorem fa_star (h : FE X G e t) (hr : FA X G es r) (hs : starEach (.Starred e p :: es) X.env = (true, eval e X.env) :: starEach es X.env := by rfl) : FA X G (.Starred e p :: es) (dStar t r) :=
  PA.imp (StX.pa_star h hr hs) fun σ H R ⟨F, δ, Q, g, q, k⟩ => ⟨F, δ, _, g, q, fun v H1 F1 d s1 r1 q1 => by
    obtain ⟨xs, hx, z0⟩ := asSeq_iff.mp q1
    clear q1
    have q1 := z0
    have go : ∀ vs, Reps G F1 vs xs → taF G r σ H1 fun ys H2 => R (vs ++ ys) H2 := fun vs rv => ⟨F1, δ, _, g.step s1, q1, fun ws H2 F2 ds s2 r2 q2 =>
      k (vs ++ ws) H2 F2 (xs ++ ds) (s1.trans g.dr s2) ((rv.mono s2.grow).append r2) q2⟩
    rcases hx with rfl | rfl
    · obtain ⟨a, vs, rfl, h1, rv⟩ := Rep.lst_iff.mp r1
      exact ⟨a, vs, rfl, .inr (SqL.of (s1.fix _ _ h1)), go vs rv⟩
    · obtain ⟨a, vs, rfl, h1, rv⟩ := Rep.tup_iff.mp r1
      exact ⟨a, vs, rfl, .inl (SqT.of (s1.fix _ _ h1)), go vs rv⟩⟩
end
/-! ### a fresh list -/
/-- a fresh list at p, not fixed yet -/
def toF (G : Ctx) (t : DA) : TE := fun σ H R => ∃ F δ Q, GE G F δ σ H ∧ t δ Q ∧ ∀ p vs H' F' ds, Step G F H F' H' → H p = none → F' p = none → ¬ Dr G p → H' p = some (.lst vs) → Reps G F' vs ds → Q ds → R (.ref p) H'
abbrev FO (X : Cx) (G : Ctx) (e : Expr) (t : DA) : Prop := PE X e (toF G t)
def dLst (t : DA) : DE := fun δ Q => t δ fun ds => Q (.lst ds)
def dTup (t : DA) : DE := fun δ Q => t δ fun ds => ds.length ≤ sizeLine ∧ Q (.tup ds)
/-- the display's length -/
def dLen (t : DA) : DA := fun δ Q => t δ fun ds => ds.length ≤ sizeLine ∧ Q ds
theorem DrOk.nd {G : Ctx} {F H : Hp} {p : Addr} (d : DrOk G F H) (hp : H p = none) : ¬ Dr G p := fun ⟨x, l, c, e1, e2⟩ => by
  obtain ⟨⟨o1, h1⟩, ⟨o2, h2⟩, ⟨o3, h3⟩⟩ := (d x l c e1).1.some
  rcases e2 with rfl | rfl | rfl
  · rw [hp] at h1; cases h1
  · rw [hp] at h2; cases h2
  · rw [hp] at h3; cases h3
/-- an object that is not fixed is fixed -/
theorem Step.freeze {G : Ctx} {F H F' H' : Hp} {p : Addr} {o : HO} (s : Step G F H F' H') (hp : H p = none) (hf : F' p = none) (nd : ¬ Dr G p) (h : H' p = some o) : Step G F H (upd F' p o) H' := by
  refine ⟨s.same, fun a u e => ?_, fun a u e => ?_, fun a u e => ?_, fun x l c e => ?_⟩
  · rw [upd_ne (ne_of_none (s.grow a u e) hf)]; exact s.grow a u e
  · by_cases ha : a = p
    · rw [ha]; exact .inr hp
    · rw [upd_ne ha] at e; exact s.new a u e
  · by_cases ha : a = p
    · subst ha; rw [upd_same] at e; rw [h]; exact e
    · rw [upd_ne ha] at e; exact s.fix a u e
  · obtain ⟨h1, h2, h3, h4⟩ := s.dr x l c e
    refine ⟨h1, ?_, ?_, ?_⟩
    · rw [upd_ne (fun z => nd ⟨x, l, c, e, .inl z.symm⟩)]; exact h2
    · rw [upd_ne (fun z => nd ⟨x, l, c, e, .inr (.inl z.symm)⟩)]; exact h3
    · rw [upd_ne (fun z => nd ⟨x, l, c, e, .inr (.inr z.symm)⟩)]; exact h4
theorem same_upd' {F : Hp} {p : Addr} {o : HO} (h : F p = none) : Same F (upd F p o) := fun a u e => by rw [upd_ne (ne_of_none e h)]; exact e
/-- a new object, not fixed -/
theorem Step.new_ {G : Ctx} {F H : Hp} {p : Addr} {o : HO} (h : Same F H) (d : DrOk G F H) (hp : H p = none) : Step G F H F (upd H p o) := by
  have s := Step.alloc (o := o) h d hp
  refine ⟨s.same, fun _ _ e => e, fun _ _ e => .inl e, fun a u e => ?_, fun x l c e => ?_⟩
  · rw [upd_ne (ne_of_none (h a u e) hp)]; exact h a u e
  · obtain ⟨h1, _⟩ := s.dr x l c e
    exact ⟨h1, (d x l c e).2⟩
section
variable {X : Cx} {G : Ctx} {e : Expr} {es : List Expr} {t : DE} {r : DA} {pos p : Pos}
theorem FO.fe (h : FO X G e r) : FE X G e (dLst r) := PE.imp h fun σ H R ⟨F, δ, Q, g, q, k⟩ => ⟨F, δ, _, g, q, fun p vs H' F' ds s hp hf nd hl hr qd =>
  k (.ref p) H' (upd F' p (.lst vs)) (.lst ds) (s.freeze hp hf nd hl) (Rep.lst_iff.mpr ⟨p, vs, rfl, upd_same, hr.mono (same_upd' hf)⟩) qd⟩
theorem fo_lst (h : FA X G es r) : FO X G (.List es pos) (dLen r) := PE.imp (pe_lst h) fun σ H R ⟨F, δ, Q, g, q, k⟩ => ⟨F, δ, _, g, q, fun vs H1 F1 ds s1 r1 q1 => by
  refine ⟨by rw [r1.length]; exact q1.1, fun p hp => ?_⟩
  have s2 := Step.new_ (o := .lst vs) s1.fix s1.dr hp
  exact k p vs _ F1 ds (s1.trans g.dr s2) (s1.dom g.dr hp) (s1.fix.free hp) (s1.dr.nd hp) upd_same r1 q1.2⟩
theorem fe_lst (h : FA X G es r) : FE X G (.List es pos) (dLst (dLen r)) := (fo_lst h).fe
theorem fe_tup {x1} (h : FA X G es r) : FE X G (.Tuple es x1 pos) (dTup r) := PE.imp (pe_tup h) fun σ H R ⟨F, δ, Q, g, q, k⟩ => ⟨F, δ, _, g, q, fun vs H1 F1 ds s1 r1 q1 => by
  refine ⟨by rw [r1.length]; exact q1.1, fun p hp => ?_⟩
  have s2 := Step.alloc (o := .tup vs) s1.fix s1.dr hp
  exact k (.ref p) _ _ (.tup ds) (s1.trans g.dr s2) (Rep.tup_iff.mpr ⟨p, vs, rfl, upd_same, r1.mono s2.grow⟩) q1.2⟩
end
/-! ### one-place operators, and, or, not, if -/
section
variable {X : Cx} {G : Ctx} {a b c : Expr} {ta tb : DE} {tc tA tB : DT} {pos : Pos} {rest : List Expr}
def dNeg (t : DE) : DE := fun δ Q => t δ fun x => asInt x fun i => Q (.int (-i))
theorem fe_neg (ha : FE X G a ta) : FE X G (.UnaryOp .USub a pos) (dNeg ta) := PE.imp (pe_un un_neg ha) fun σ H R ⟨F, δ, Q, g, q, k⟩ => ⟨F, δ, _, g, q, fun v H1 F1 d s1 r1 q1 => by
  obtain ⟨i, rfl, z0⟩ := asInt_iff.mp q1
  clear q1
  have q1 := z0
  exact ⟨i, Rep.int_iff.mp r1, k _ H1 F1 _ s1 (Rep.int_iff.mpr rfl) q1⟩⟩
theorem ft_val (h : FE X G a ta) (he : ∀ whole, isTrue a X.env whole = (do let v ← whole; standAt a.pos; holding [v] (truthy v)) := by intro _; rfl) : FT X G a (dTest ta) :=
  PT.imp (pt_val h he) fun σ H R h' => ttF_test (t := teF G ta) (fun _ _ _ z => z) h'
def dNot (t : DT) : DT := fun δ Q => t δ fun k => Q (!k)
theorem ft_not (h : FT X G a tA) : FT X G (.UnaryOp .Not a pos) (dNot tA) := PT.imp (pt_not h) fun σ H R ⟨F, δ, Q, g, q, k⟩ => ⟨F, δ, _, g, q, fun b H1 F1 s1 q1 => k _ H1 F1 s1 q1⟩
def dAnd (t u : DT) : DT := fun δ Q => t δ fun k => if k = true then u δ Q else Q false
def dOr (t u : DT) : DT := fun δ Q => t δ fun k => if k = true then Q true else u δ Q
/-- a test whatever its 'whole' is -/
abbrev FW (X : Cx) (G : Ctx) (e : Expr) (t : DT) : Prop := PW X e (ttF G t)
theorem PW.imp {e : Expr} {t t' : TT} (h : PW X e t) (i : ∀ σ H Q, t' σ H Q → t σ H Q) : PW X e t' := ⟨fun wh pins s σ H Q I q => h.run wh pins s σ H Q I (i σ H Q q)⟩
theorem fw_and1 (h : FT X G a tA) : FW X G (.BoolOp .And [a] pos) tA := pw_and1 h
theorem fw_or1 (h : FT X G a tA) : FW X G (.BoolOp .Or [a] pos) tA := pw_or1 h
theorem fw_and (h : FT X G a tA) (h2 : FW X G (.BoolOp .And (b :: rest) pos) tB) : FW X G (.BoolOp .And (a :: b :: rest) pos) (dAnd tA tB) :=
  PW.imp (pw_and h h2) fun σ H R ⟨F, δ, Q, g, q, k⟩ => ⟨F, δ, _, g, q, fun b H1 F1 s1 q1 => by
    cases b with
    | true =>
      rw [if_pos rfl] at q1 ⊢
      exact ⟨F1, δ, _, g.step s1, q1, fun b H2 F2 s2 q2 => k b H2 F2 (s1.trans g.dr s2) q2⟩
    | false =>
      rw [if_neg Bool.false_ne_true] at q1 ⊢
      exact k _ H1 F1 s1 q1⟩
theorem fw_or (h : FT X G a tA) (h2 : FW X G (.BoolOp .Or (b :: rest) pos) tB) : FW X G (.BoolOp .Or (a :: b :: rest) pos) (dOr tA tB) :=
  PW.imp (pw_or h h2) fun σ H R ⟨F, δ, Q, g, q, k⟩ => ⟨F, δ, _, g, q, fun b H1 F1 s1 q1 => by
    cases b with
    | false =>
      rw [if_neg Bool.false_ne_true] at q1 ⊢
      exact ⟨F1, δ, _, g.step s1, q1, fun b H2 F2 s2 q2 => k b H2 F2 (s1.trans g.dr s2) q2⟩
    | true =>
      rw [if_pos rfl] at q1 ⊢
      exact k _ H1 F1 s1 q1⟩
theorem FW.ft (h : FW X G a tA) : FT X G a tA := PW.pt h
/-- as values, all but the last one bools -/
def dAndV (ta tb : DE) : DE := fun δ Q => ta δ fun x => asBl x fun k => if k = true then tb δ Q else Q (.bl false)
def dOrV (ta tb : DE) : DE := fun δ Q => ta δ fun x => asBl x fun k => if k = true then Q (.bl true) else tb δ Q
def dNotV (ta : DE) : DE := fun δ Q => ta δ fun x => asBl x fun k => Q (.bl (!k))
theorem fe_one {op} (h : FE X G a ta) : FE X G (.BoolOp op [a] pos) ta := pe_one h
theorem fe_and (ha : FE X G a ta) (hb : FE X G (.BoolOp .And (b :: rest) pos) tb) : FE X G (.BoolOp .And (a :: b :: rest) pos) (dAndV ta tb) :=
  PE.imp (pe_and ha hb) fun σ H R ⟨F, δ, Q, g, q, k⟩ => ⟨F, δ, _, g, q, fun v H1 F1 d s1 r1 q1 => by
    obtain ⟨b, rfl, z0⟩ := asBl_iff.mp q1
    clear q1
    have q1 := z0
    refine ⟨b, Rep.bl_iff.mp r1, ?_⟩
    cases b with
    | true =>
      rw [if_pos rfl] at q1 ⊢
      exact ⟨F1, δ, _, g.step s1, q1, fun v H2 F2 d s2 r2 q2 => k v H2 F2 d (s1.trans g.dr s2) r2 q2⟩
    | false =>
      rw [if_neg Bool.false_ne_true] at q1 ⊢
      exact k _ H1 F1 _ s1 (Rep.bl_iff.mpr rfl) q1⟩
theorem fe_or (ha : FE X G a ta) (hb : FE X G (.BoolOp .Or (b :: rest) pos) tb) : FE X G (.BoolOp .Or (a :: b :: rest) pos) (dOrV ta tb) :=
  PE.imp (pe_or ha hb) fun σ H R ⟨F, δ, Q, g, q, k⟩ => ⟨F, δ, _, g, q, fun v H1 F1 d s1 r1 q1 => by
    obtain ⟨b, rfl, z0⟩ := asBl_iff.mp q1
    clear q1
    have q1 := z0
    refine ⟨b, Rep.bl_iff.mp r1, ?_⟩
    cases b with
    | false =>
      rw [if_neg Bool.false_ne_true] at q1 ⊢
      exact ⟨F1, δ, _, g.step s1, q1, fun v H2 F2 d s2 r2 q2 => k v H2 F2 d (s1.trans g.dr s2) r2 q2⟩
    | true =>
      rw [if_pos rfl] at q1 ⊢
      exact k _ H1 F1 _ s1 (Rep.bl_iff.mpr rfl) q1⟩
theorem fe_not (ha : FE X G a ta) : FE X G (.UnaryOp .Not a pos) (dNotV ta) :=
  PE.imp (pe_not ha) fun σ H R ⟨F, δ, Q, g, q, k⟩ => ⟨F, δ, _, g, q, fun v H1 F1 d s1 r1 q1 => by
    obtain ⟨b, rfl, z0⟩ := asBl_iff.mp q1
    clear q1
    have q1 := z0
    exact ⟨b, Rep.bl_iff.mp r1, k _ H1 F1 _ s1 (Rep.bl_iff.mpr rfl) q1⟩⟩
def dIf (tc : DT) (ta tb : DE) : DE := fun δ Q => tc δ fun k => if k = true then ta δ Q else tb δ Q
theorem fe_if (hc : FT X G c tc) (ha : FE X G a ta) (hb : FE X G b tb) : FE X G (.IfExp c a b pos) (dIf tc ta tb) :=
  PE.imp (pe_ifExp hc ha hb) fun σ H R ⟨F, δ, Q, g, q, k⟩ => ⟨F, δ, _, g, q, fun b H1 F1 s1 q1 => by
    cases b with
    | true =>
      rw [if_pos rfl] at q1 ⊢
      exact ⟨F1, δ, _, g.step s1, q1, fun v H2 F2 d s2 r2 q2 => k v H2 F2 d (s1.trans g.dr s2) r2 q2⟩
    | false =>
      rw [if_neg Bool.false_ne_true] at q1 ⊢
      exact ⟨F1, δ, _, g.step s1, q1, fun v H2 F2 d s2 r2 q2 => k v H2 F2 d (s1.trans g.dr s2) r2 q2⟩⟩
end
/-! ### subscripts, slices, list and tuple operators -/
section
variable {X : Cx} {G : Ctx} {a b : Expr} {ta tb : DE} {pos : Pos}
def gIx : D2 := fun x y Q => asSeq x fun ds => asInt y fun i => ∃ d, atI ds i = some d ∧ Q d
theorem Reps.atI {F : Hp} {vs : List V} {ds : List D} {i : Int} {d : D} (h : Reps G F vs ds) (e : L2.atI ds i = some d) : ∃ v, L2.atI vs i = some v ∧ Rep G F v d := by
  unfold L2.atI at e ⊢
  rw [h.length]
  obtain ⟨j, e1, e2⟩ := Option.bind_eq_some_iff.mp e
  obtain ⟨v, e3, r⟩ := h.get e2
  exact ⟨v, Option.bind_eq_some_iff.mpr ⟨j, e1, e3⟩, r⟩
theorem od_ix {K : PySem.W.Frag} : OpD G (rIx K) gIx := by
  intro F H x y d e Q R hs hd rx ry q k
  obtain ⟨ds, hx, z0⟩ := asSeq_iff.mp q
  obtain ⟨i, rfl, z, e1, z1⟩ := asInt_iff.mp z0
  clear q
  have q := z1
  rcases hx with rfl | rfl
  · obtain ⟨p, vs, rfl, h1, rv⟩ := Rep.lst_iff.mp rx
    obtain ⟨v, e2, r2⟩ := rv.atI e1
    exact .inl ⟨p, vs, i, v, rfl, Rep.int_iff.mp ry, SqL.of (hs _ _ h1), e2, k v H F z (Step.refl hs hd) r2 q⟩
  · obtain ⟨p, vs, rfl, h1, rv⟩ := Rep.tup_iff.mp rx
    obtain ⟨v, e2, r2⟩ := rv.atI e1
    exact .inr (.inl ⟨p, vs, i, v, rfl, Rep.int_iff.mp ry, SqT.of (hs _ _ h1), e2, k v H F z (Step.refl hs hd) r2 q⟩)
theorem fe_ix (ha : FE X G a ta) (hb : FE X G b tb) (hs : PlainIx b := by exact fun _ _ => rfl) : FE X G (.Subscript a b pos) (dBin gIx ta tb) :=
  PE.imp (pe_ix ix_seq ha hb hs) fun σ H R h => teF_bin od_ix h
/-- a slice's part -/
abbrev DO := DEnv → (Option Int → Prop) → Prop
def doF (G : Ctx) (t : DO) : TO := fun σ H R => ∃ F δ Q, GE G F δ σ H ∧ t δ Q ∧ ∀ o H' F', Step G F H F' H' → Q o → R o H'
abbrev FP (X : Cx) (G : Ctx) (e : Option Expr) (t : DO) : Prop := PO X e (doF G t)
theorem PO.imp {e : Option Expr} {t t' : TO} (h : PO X e t) (i : ∀ σ H Q, t' σ H Q → t σ H Q) : PO X e t' := ⟨fun pins s σ H Q I q => h.run pins s σ H Q I (i σ H Q q)⟩
def dNoP : DO := fun _ Q => Q none
def dSoP (t : DE) : DO := fun δ Q => t δ fun x => asInt x fun i => Q (some i)
theorem fp_none : FP X G none dNoP := PO.imp po_none fun σ H R ⟨F, δ, Q, g, q, k⟩ => k none H F g.rfl q
theorem fp_some (h : FE X G a ta) : FP X G (some a) (dSoP ta) := PO.imp (po_some h) fun σ H R ⟨F, δ, Q, g, q, k⟩ => ⟨F, δ, _, g, q, fun v H1 F1 d s1 r1 q1 => by
  obtain ⟨i, rfl, z0⟩ := asInt_iff.mp q1
  clear q1
  have q1 := z0
  exact ⟨i, Rep.int_iff.mp r1, k _ H1 F1 s1 q1⟩⟩
def cutD (xs : List D) (lo hi : Option Int) : List D := (xs.drop (HT.sIx xs.length 0 lo)).take (HT.sIx xs.length xs.length hi - HT.sIx xs.length 0 lo)
theorem Reps.cut {F : Hp} {vs : List V} {ds : List D} {lo hi : Option Int} (h : Reps G F vs ds) : Reps G F (cutV vs lo hi) (cutD ds lo hi) := by
  unfold cutV cutD
  rw [h.length]
  exact (h.drop _).take _
/-- xs[lo:hi], a list: fresh -/
def dSlL (t : DE) (tl th : DO) : DA := fun δ Q => t δ fun x => tl δ fun l => th δ fun u => asLst x fun ds => Q (cutD ds l u)
theorem fo_slice {lo hi : Option Expr} {tl th : DO} {p2 : Pos} (ha : FE X G a ta) (hl : FP X G lo tl) (hh : FP X G hi th) : FO X G (.Subscript a (.Slice lo hi none p2) pos) (dSlL ta tl th) :=
  PE.imp (pe_slice sl_list ha hl hh) fun σ H R ⟨F, δ, Q, g, q, k⟩ => ⟨F, δ, _, g, q, fun v H1 F1 d s1 r1 q1 => ⟨F1, δ, _, g.step s1, q1, fun o H2 F2 s2 q2 => ⟨F2, δ, _, (g.step s1).step s2, q2, fun u H3 F3 s3 q3 => by
    obtain ⟨ds, rfl, z0⟩ := asLst_iff.mp q3
    clear q3
    have q3 := z0
    obtain ⟨p, vs, rfl, h1, rv⟩ := Rep.lst_iff.mp ((r1.mono s2.grow).mono s3.grow)
    have s03 := (s1.trans g.dr s2).trans g.dr s3
    refine ⟨p, vs, rfl, SqL.of (s3.fix _ _ h1), fun c hc => ?_⟩
    have s4 := Step.new_ (o := .lst (cutV vs o u)) s3.fix s3.dr hc
    exact k c _ _ F3 _ (s03.trans g.dr s4) (s03.dom g.dr hc) (s3.fix.free hc) (s3.dr.nd hc) upd_same rv.cut q3⟩⟩⟩
/-- t[lo:hi], a tuple -/
def dSlT (t : DE) (tl th : DO) : DE := fun δ Q => t δ fun x => tl δ fun l => th δ fun u => asTup x fun ds => Q (.tup (cutD ds l u))
theorem cutV_whole {vs : List V} {lo hi : Option Int} (h : HT.sIx vs.length 0 lo = 0 ∧ HT.sIx vs.length vs.length hi = vs.length) : cutV vs lo hi = vs := by
  unfold cutV
  rw [h.1, h.2, List.drop_zero, Nat.sub_zero, List.take_length]
theorem fe_sliceT {lo hi : Option Expr} {tl th : DO} {p2 : Pos} (ha : FE X G a ta) (hl : FP X G lo tl) (hh : FP X G hi th) : FE X G (.Subscript a (.Slice lo hi none p2) pos) (dSlT ta tl th) :=
  PE.imp (pe_slice sl_tupA ha hl hh) fun σ H R ⟨F, δ, Q, g, q, k⟩ => ⟨F, δ, _, g, q, fun v H1 F1 d s1 r1 q1 => ⟨F1, δ, _, g.step s1, q1, fun o H2 F2 s2 q2 => ⟨F2, δ, _, (g.step s1).step s2, q2, fun u H3 F3 s3 q3 => by
    obtain ⟨ds, rfl, z0⟩ := asTup_iff.mp q3
    clear q3
    have q3 := z0
    obtain ⟨p, vs, rfl, h1, rv⟩ := Rep.tup_iff.mp ((r1.mono s2.grow).mono s3.grow)
    have s03 := (s1.trans g.dr s2).trans g.dr s3
    refine ⟨p, vs, rfl, SqT.of (s3.fix _ _ h1), fun hw => ?_, fun _ c hc => ?_⟩
    · refine k _ H3 F3 _ s03 (Rep.tup_iff.mpr ⟨p, vs, rfl, h1, ?_⟩) q3
      have := rv.cut (lo := o) (hi := u)
      rw [cutV_whole hw] at this
      exact this
    · have s4 := Step.alloc (o := .tup (cutV vs o u)) s3.fix s3.dr hc
      exact k _ _ _ _ (s03.trans g.dr s4) (Rep.tup_iff.mpr ⟨c, _, rfl, upd_same, (rv.cut).mono s4.grow⟩) q3⟩⟩⟩
/-- two values, a fresh list -/
abbrev DL2 := D → D → (List D → Prop) → Prop
def OpL (G : Ctx) (r : R2) (g : DL2) : Prop := ∀ (F H : Hp) (x y : V) (d e : D) (Q : List D → Prop) (R : VK), Same F H → DrOk G F H → Rep G F x d → Rep G F y e → g d e Q →
  (∀ p vs ds, H p = none → Reps G F vs ds → Q ds → R (.ref p) (upd H p (.lst vs))) → r x y H R
def dBinL (g : DL2) (ta tb : DE) : DA := fun δ Q => ta δ fun x => tb δ fun y => g x y Q
theorem toF_bin {r : R2} {g : DL2} (ho : OpL G r g) {σ : St} {H : Hp} {R : VK} (h : toF G (dBinL g ta tb) σ H R) : tOp r (teF G ta) (teF G tb) σ H R := by
  obtain ⟨F, δ, Q, ge, q, k⟩ := h
  refine ⟨F, δ, _, ge, q, fun x H1 F1 d s1 r1 q1 => ?_⟩
  refine ⟨F1, δ, _, ge.step s1, q1, fun y H2 F2 e s2 r2 q2 => ?_⟩
  have s02 := s1.trans ge.dr s2
  refine ho F2 H2 x y d e Q R s2.fix s2.dr (r1.mono s2.grow) r2 q2 fun p vs ds hp rv qd => ?_
  have s3 := Step.new_ (o := .lst vs) s2.fix s2.dr hp
  exact k p vs _ F2 ds (s02.trans ge.dr s3) (s02.dom ge.dr hp) (s2.fix.free hp) (s2.dr.nd hp) upd_same rv qd
def gCatL : DL2 := fun x y Q => asLst x fun xs => asLst y fun ys => xs.length + ys.length ≤ sizeLine ∧ Q (xs ++ ys)
theorem ol_cat : OpL G rCat gCatL := by
  intro F H x y d e Q R hs hd rx ry q k
  obtain ⟨xs, rfl, z0⟩ := asLst_iff.mp q
  obtain ⟨ys, rfl, hl, z1⟩ := asLst_iff.mp z0
  clear q
  have q := z1
  obtain ⟨p, vs, rfl, h1, rv⟩ := Rep.lst_iff.mp rx
  obtain ⟨p2, vs2, rfl, h2, rv2⟩ := Rep.lst_iff.mp ry
  exact ⟨p, p2, vs, vs2, rfl, rfl, hs _ _ h1, hs _ _ h2, by rw [rv.length, rv2.length]; exact hl, fun c hc => k c _ _ hc (rv.append rv2) q⟩
theorem fo_cat (ha : FE X G a ta) (hb : FE X G b tb) : FO X G (.BinOp a .Add b pos) (dBinL gCatL ta tb) := PE.imp (pe_op op_cat ha hb) fun σ H R h => toF_bin ol_cat h
def gRepL : DL2 := fun x y Q => asLst x fun xs => asInt y fun k => -(2 ^ 63) ≤ k ∧ k < 2 ^ 63 ∧ xs.length * k.toNat ≤ sizeLine ∧ Q ((List.replicate k.toNat xs).flatten)
theorem Reps.rep {F : Hp} {vs : List V} {ds : List D} (h : Reps G F vs ds) : ∀ n : Nat, Reps G F ((List.replicate n vs).flatten) ((List.replicate n ds).flatten)
  | 0 => Reps.nil
  | n + 1 => by
    rw [List.replicate_succ, List.replicate_succ, List.flatten_cons, List.flatten_cons]
    exact h.append (Reps.rep h n)
end
end L3
end
section
set_option Elab.async false
set_option linter.all false
set_option maxRecDepth 100000
/-! L3c: fields, built-in calls, calls of defs and classes. -/
namespace L3
open PySem PySem.Spec PyProof.Rows L2
section
variable {X : Cx} {G : Ctx} {a b : Expr} {ta tb : DE} {pos : Pos}
theorem ol_rep : OpL G rRep gRepL := by
  intro F H x y d e Q R hs hd rx ry q k
  obtain ⟨xs, rfl, z0⟩ := asLst_iff.mp q
  obtain ⟨n, rfl, h1, h2, hl, z1⟩ := asInt_iff.mp z0
  clear q
  have q := z1
  obtain ⟨p, vs, rfl, h0, rv⟩ := Rep.lst_iff.mp rx
  exact ⟨p, n, vs, rfl, Rep.int_iff.mp ry, hs _ _ h0, h1, h2, by rw [rv.length]; exact hl, fun c hc => k c _ _ hc (rv.rep _) q⟩
theorem fo_rep (ha : FE X G a ta) (hb : FE X G b tb) : FO X G (.BinOp a .Mult b pos) (dBinL gRepL ta tb) := PE.imp (pe_op op_rep ha hb) fun σ H R h => toF_bin ol_rep h
/-- t + u -/
def gCatT : D2 := fun x y Q => asTup x fun xs => asTup y fun ys => xs.length + ys.length ≤ sizeLine ∧ Q (.tup (xs ++ ys))
theorem od_catT {K : PySem.W.Frag} : OpD G (rCatA K) gCatT := by
  intro F H x y d e Q R hs hd rx ry q k
  obtain ⟨xs, rfl, z0⟩ := asTup_iff.mp q
  obtain ⟨ys, rfl, hl, z1⟩ := asTup_iff.mp z0
  clear q
  have q := z1
  obtain ⟨p, vs, rfl, h1, rv⟩ := Rep.tup_iff.mp rx
  obtain ⟨p2, vs2, rfl, h2, rv2⟩ := Rep.tup_iff.mp ry
  refine ⟨p, p2, vs, vs2, rfl, rfl, SqT.of (hs _ _ h1), SqT.of (hs _ _ h2), by rw [rv.length, rv2.length]; exact hl, fun e => ?_, fun _ e => ?_, fun _ _ c hc => ?_⟩
  · subst e
    have : xs = [] := List.length_eq_zero_iff.mp (by rw [← rv.length]; rfl)
    subst this
    exact k _ H F _ (Step.refl hs hd) ry q
  · subst e
    have : ys = [] := List.length_eq_zero_iff.mp (by rw [← rv2.length]; rfl)
    subst this
    rw [List.append_nil] at q
    exact k _ H F _ (Step.refl hs hd) rx q
  · have s := Step.alloc (o := .tup (vs ++ vs2)) hs hd hc
    exact k _ _ _ _ s (Rep.tup_iff.mpr ⟨c, _, rfl, upd_same, (rv.append rv2).mono s.grow⟩) q
/-- t * n, n from 2 on -/
def gRepT : D2 := fun x y Q => asTup x fun xs => asInt y fun n => xs ≠ [] ∧ 2 ≤ n ∧ n ≤ 1000 ∧ xs.length ≤ 1000 ∧ Q (.tup (List.replicate n.toNat xs).flatten)
theorem od_repT {K : PySem.W.Frag} : OpD G (rRepT K) gRepT := by
  intro F H x y d e Q R hs hd rx ry q k
  obtain ⟨xs, rfl, z0⟩ := asTup_iff.mp q
  obtain ⟨n, rfl, h0, h2, h3, hl, z1⟩ := asInt_iff.mp z0
  clear q
  have q := z1
  obtain ⟨p, vs, rfl, h1, rv⟩ := Rep.tup_iff.mp rx
  refine ⟨p, n, vs, rfl, Rep.int_iff.mp ry, SqT.of (hs _ _ h1), fun e => h0 ?_, h2, h3, by rw [rv.length]; exact hl, fun c hc => ?_⟩
  · subst e
    exact List.length_eq_zero_iff.mp (by rw [← rv.length]; rfl)
  · have s := Step.alloc (o := .tup (List.replicate n.toNat vs).flatten) hs hd hc
    exact k _ _ _ _ s (Rep.tup_iff.mpr ⟨c, _, rfl, upd_same, (rv.rep _).mono s.grow⟩) q
end
/-! ### fields -/
/-- the classes of the table are plain, their attributes are no class's -/
structure TabOk (K : PySem.W.Frag) (T : Tabs) : Prop where
  nd : ∀ c, (T.fn c).Nodup
  cl : ∀ c, T.fn c ≠ [] → Cls K (T.ca c)
  no : ∀ c f, f ∈ T.fn c → NoAttr K (T.ca c) f
theorem lookup_zip : ∀ {N : List Str} {vs : List V} {i : Nat} {f : Str} {v : V}, N.Nodup → N[i]? = some f → vs[i]? = some v → (N.zip vs).lookup f = some v
  | [], _, _, _, _, _, h, _ => by simp at h
  | _ :: _, [], _, _, _, _, _, h => by simp at h
  | n :: N, w :: vs, 0, f, v, nd, h1, h2 => by
    simp at h1 h2
    subst h1 h2
    rw [List.zip_cons_cons, List.lookup_cons]
    simp
  | n :: N, w :: vs, i + 1, f, v, nd, h1, h2 => by
    have h1' : N[i]? = some f := by simpa using h1
    have ne : (f == n) = false := by
      rw [beq_eq_false_iff_ne]
      rintro rfl
      exact (List.nodup_cons.mp nd).1 (List.mem_of_getElem? h1')
    rw [List.zip_cons_cons, List.lookup_cons, ne]
    exact lookup_zip (List.nodup_cons.mp nd).2 h1' (by simpa using h2)
section
variable {X : Cx} {G : Ctx} {e : Expr} {t : DE} {pos : Pos} {f : Str}
def dFld (T : Tabs) (f : Str) (t : DE) : DE := fun δ Q => t δ fun x => asObj x fun c ds => ∃ (i : Nat) (d : D), (T.fn c)[i]? = some f ∧ ds[i]? = some d ∧ Q d
theorem fe_fld (O : TabOk X.K G.tb) (h : FE X G e t) (hb : attributeBase e f X.env (eval e X.env) = eval e X.env := by rfl) : FE X G (.Attribute e f pos) (dFld G.tb f t) :=
  PE.imp (pe_fld h hb) fun σ H R ⟨F, δ, Q, g, q, k⟩ => ⟨F, δ, _, g, q, fun v H1 F1 d s1 r1 q1 => by
    obtain ⟨c, ds, rfl, i, z, hf, hd, z0⟩ := asObj_iff.mp q1
    clear q1
    have q1 := z0
    obtain ⟨a, dx, vs, rfl, h1, hl, rv⟩ := Rep.obj_iff.mp r1
    obtain ⟨u, hu, ru⟩ := rv.get hd
    have hm := List.mem_of_getElem? hf
    exact ⟨a, _, dx, _, u, rfl, s1.fix _ _ h1, O.cl c (List.ne_nil_of_mem hm), O.no c f hm, lookup_zip (O.nd c) hf hu, k u H1 F1 z s1 ru q1⟩⟩
end
/-! ### calls of built-ins -/
abbrev DLK := List D → DK → Prop
def CallD (G : Ctx) (r : List V → Hp → VK → Prop) (g : DLK) : Prop := ∀ (F H : Hp) (xs : List V) (ds : List D) (Q : DK) (R : VK), Same F H → DrOk G F H → Reps G F xs ds → g ds Q →
  (∀ v H' F' z, Step G F H F' H' → Rep G F' v z → Q z → R v H') → r xs H R
def dCall (g : DLK) (t : DA) : DE := fun δ Q => t δ fun ds => g ds Q
section
variable {X : Cx} {G : Ctx} {e : Expr} {es : List Expr} {t : DE} {r : DA} {pos p : Pos} {x : Str} {idb T : String}
theorem teF_call {rr : List V → Hp → VK → Prop} {g : DLK} (hd : CallD G rr g) {σ : St} {H : Hp} {R : VK} (h : teF G (dCall g r) σ H R) : taF G r σ H fun vs H1 => rr vs H1 R := by
  obtain ⟨F, δ, Q, ge, q, k⟩ := h
  exact ⟨F, δ, _, ge, q, fun vs H1 F1 ds s1 r1 q1 => hd F1 H1 vs ds Q R s1.fix s1.dr r1 q1 fun v H2 F2 z s2 r2 q2 => k v H2 F2 z (s1.trans ge.dr s2) r2 q2⟩
theorem fe_callB {rr : List V → Hp → VK → Prop} {g : DLK} (hc : CallR X (.builtin idb) rr) (hd : CallD G rr g) (hg : Gl X x) (hm : X.mg x = none) (hv : bootBuiltins x = some (.builtin idb)) (ha : FA X G (e :: es) r) (hn : x ≠ "__name__" := by decide) (hdb : (x == ("__debug__" : Str)) = false := by decide)
    (he : starEach (e :: es) X.env = (false, eval e X.env) :: starEach es X.env := by rfl) (hpl : (backTo pos (starEach es X.env)).any (·.1) = false := by rfl) : FE X G (.Call (.Name x p) (e :: es) [] pos) (dCall g r) :=
  PE.imp (pe_callB hc hg hm hv ha hn hdb he hpl) fun σ H R h => teF_call hd h
theorem fe_callTy {rr : List V → Hp → VK → Prop} {g : DLK} (hc : CallR X (.type T) rr) (hd : CallD G rr g) (hg : Gl X x) (hm : X.mg x = none) (hv : bootBuiltins x = some (.type T)) (ha : FA X G (e :: es) r) (hn : x ≠ "__name__" := by decide) (hdb : (x == ("__debug__" : Str)) = false := by decide)
    (he : starEach (e :: es) X.env = (false, eval e X.env) :: starEach es X.env := by rfl) (hpl : (backTo pos (starEach es X.env)).any (·.1) = false := by rfl) : FE X G (.Call (.Name x p) (e :: es) [] pos) (dCall g r) :=
  PE.imp (pe_callTy hc hg hm hv ha hn hdb he hpl) fun σ H R h => teF_call hd h
theorem reps1 {F : Hp} {vs : List V} {d : D} (h : Reps G F vs [d]) : ∃ v, vs = [v] ∧ Rep G F v d := by
  unfold Reps at h
  obtain ⟨v, r, rfl, h1, h2⟩ := h
  rw [reps_nil.mp h2]
  exact ⟨v, rfl, h1⟩
theorem reps2 {F : Hp} {vs : List V} {d e : D} (h : Reps G F vs [d, e]) : ∃ v w, vs = [v, w] ∧ Rep G F v d ∧ Rep G F w e := by
  unfold Reps at h
  obtain ⟨v, r, rfl, h1, h2⟩ := h
  obtain ⟨w, rfl, h3⟩ := reps1 h2
  exact ⟨v, w, rfl, h1, h3⟩
def arg1 (ds : List D) (k : D → Prop) : Prop := match ds with
  | [x] => k x
  | _ => False
def arg2 (ds : List D) (k : D → D → Prop) : Prop := match ds with
  | [x, y] => k x y
  | _ => False
theorem arg1_iff {ds : List D} {k : D → Prop} : arg1 ds k ↔ ∃ x, ds = [x] ∧ k x := by
  unfold arg1
  split
  · simp
  · rename_i h
    exact ⟨fun q => q.elim, fun ⟨x, e, _⟩ => h x e⟩
theorem arg2_iff {ds : List D} {k : D → D → Prop} : arg2 ds k ↔ ∃ x y, ds = [x, y] ∧ k x y := by
  unfold arg2
  split
  · rename_i a b
    exact ⟨fun q => ⟨a, b, rfl, q⟩, fun ⟨x, y, e, q⟩ => by cases e; exact q⟩
  · rename_i h
    exact ⟨fun q => q.elim, fun ⟨x, y, e, _⟩ => h x y e⟩
/-- len, of lists and tuples -/
def gLen : DLK := fun ds Q => arg1 ds fun x => asSeq x fun xs => Q (.int xs.length)
theorem cd_len {K : PySem.W.Frag} : CallD G (fun xs H Q => ∃ p ys, xs = [.ref p] ∧ (SqL K H p ys ∨ SqT K H p ys) ∧ Q (.int ys.length) H) gLen := by
  intro F H vs ds Q R hs hd rv q k
  obtain ⟨x, rfl, z0⟩ := arg1_iff.mp q
  obtain ⟨xs, e, z1⟩ := asSeq_iff.mp z0
  clear q
  have q := z1
  rcases e with rfl | rfl
  · obtain ⟨v, rfl, r1⟩ := reps1 rv
    obtain ⟨p, us, rfl, h1, r2⟩ := Rep.lst_iff.mp r1
    refine ⟨p, us, rfl, .inl (SqL.of (hs _ _ h1)), ?_⟩
    rw [r2.length]
    exact k _ H F _ (Step.refl hs hd) (Rep.int_iff.mpr rfl) q
  · obtain ⟨v, rfl, r1⟩ := reps1 rv
    obtain ⟨p, us, rfl, h1, r2⟩ := Rep.tup_iff.mp r1
    refine ⟨p, us, rfl, .inr (SqT.of (hs _ _ h1)), ?_⟩
    rw [r2.length]
    exact k _ H F _ (Step.refl hs hd) (Rep.int_iff.mpr rfl) q
def gAbs : DLK := fun ds Q => arg1 ds fun x => asInt x fun i => Q (.int (if i < 0 then -i else i))
theorem cd_abs : CallD G (fun xs H Q => ∃ i, xs = [.int i] ∧ Q (.int (if i < 0 then -i else i)) H) gAbs := by
  intro F H vs ds Q R hs hd rv q k
  obtain ⟨x, rfl, z0⟩ := arg1_iff.mp q
  obtain ⟨i, rfl, z1⟩ := asInt_iff.mp z0
  clear q
  have q := z1
  obtain ⟨v, rfl, r1⟩ := reps1 rv
  exact ⟨i, by rw [Rep.int_iff.mp r1], k _ H F _ (Step.refl hs hd) (Rep.int_iff.mpr rfl) q⟩
def gMax2 : DLK := fun ds Q => arg2 ds fun x y => asInt x fun i => asInt y fun j => Q (.int (if j > i then j else i))
theorem cd_max2 : CallD G (fun xs H Q => ∃ i j, xs = [.int i, .int j] ∧ Q (.int (if j > i then j else i)) H) gMax2 := by
  intro F H vs ds Q R hs hd rv q k
  obtain ⟨x, y, rfl, z0⟩ := arg2_iff.mp q
  obtain ⟨i, rfl, z1⟩ := asInt_iff.mp z0
  obtain ⟨j, rfl, z2⟩ := asInt_iff.mp z1
  clear q
  have q := z2
  obtain ⟨v, w, rfl, r1, r2⟩ := reps2 rv
  exact ⟨i, j, by rw [Rep.int_iff.mp r1, Rep.int_iff.mp r2], k _ H F _ (Step.refl hs hd) (Rep.int_iff.mpr rfl) q⟩
def gMin2 : DLK := fun ds Q => arg2 ds fun x y => asInt x fun i => asInt y fun j => Q (.int (if j < i then j else i))
theorem cd_min2 : CallD G (fun xs H Q => ∃ i j, xs = [.int i, .int j] ∧ Q (.int (if j < i then j else i)) H) gMin2 := by
  intro F H vs ds Q R hs hd rv q k
  obtain ⟨x, y, rfl, z0⟩ := arg2_iff.mp q
  obtain ⟨i, rfl, z1⟩ := asInt_iff.mp z0
  obtain ⟨j, rfl, z2⟩ := asInt_iff.mp z1
  clear q
  have q := z2
  obtain ⟨v, w, rfl, r1, r2⟩ := reps2 rv
  exact ⟨i, j, by rw [Rep.int_iff.mp r1, Rep.int_iff.mp r2], k _ H F _ (Step.refl hs hd) (Rep.int_iff.mpr rfl) q⟩
/-- int of an int, of a bool -/
def gInt : DLK := fun ds Q => arg1 ds fun x => match x with
  | .int i => Q (.int i)
  | .bl b => Q (.int (if b then 1 else 0))
  | _ => False
theorem cd_int : CallD G (fun xs H Q => (∃ i, xs = [.int i] ∧ Q (.int i) H) ∨ ∃ k, xs = [.bl k] ∧ Q (.int (if k then 1 else 0)) H) gInt := by
  intro F H vs ds Q R hs hd rv q k
  obtain ⟨x, rfl, z0⟩ := arg1_iff.mp q
  clear q
  have q := z0
  obtain ⟨v, rfl, r1⟩ := reps1 rv
  cases x with
  | int i => exact .inl ⟨i, by rw [Rep.int_iff.mp r1], k _ H F _ (Step.refl hs hd) (Rep.int_iff.mpr rfl) q⟩
  | bl i => exact .inr ⟨i, by rw [Rep.bl_iff.mp r1], k _ H F _ (Step.refl hs hd) (Rep.int_iff.mpr rfl) q⟩
  | _ => exact q.elim
/-- sum, all, any of lists -/
def gSum : DLK := fun ds Q => ∃ ns : List Int, ds = [.lst (ns.map D.int)] ∧ Q (.int ns.sum)
theorem cd_sum {K : PySem.W.Frag} : CallD G (rSum K) gSum := by
  rintro F H vs ds Q R hs hd rv ⟨ns, rfl, q⟩ k
  obtain ⟨v, rfl, r1⟩ := reps1 rv
  obtain ⟨p, us, rfl, h1, r2⟩ := Rep.lst_iff.mp r1
  rw [r2.ints] at h1
  exact ⟨p, ns, rfl, SqL.of (hs _ _ h1), k _ H F _ (Step.refl hs hd) (Rep.int_iff.mpr rfl) q⟩
def gAll : DLK := fun ds Q => ∃ bs : List Bool, ds = [.lst (bs.map D.bl)] ∧ Q (.bl (bs.all id))
def gAny : DLK := fun ds Q => ∃ bs : List Bool, ds = [.lst (bs.map D.bl)] ∧ Q (.bl (bs.any id))
theorem cd_all {K : PySem.W.Frag} : CallD G (rAll K) gAll := by
  rintro F H vs ds Q R hs hd rv ⟨ns, rfl, q⟩ k
  obtain ⟨v, rfl, r1⟩ := reps1 rv
  obtain ⟨p, us, rfl, h1, r2⟩ := Rep.lst_iff.mp r1
  rw [r2.bls] at h1
  exact ⟨p, ns, rfl, SqL.of (hs _ _ h1), k _ H F _ (Step.refl hs hd) (Rep.bl_iff.mpr rfl) q⟩
theorem cd_any {K : PySem.W.Frag} : CallD G (rAny K) gAny := by
  rintro F H vs ds Q R hs hd rv ⟨ns, rfl, q⟩ k
  obtain ⟨v, rfl, r1⟩ := reps1 rv
  obtain ⟨p, us, rfl, h1, r2⟩ := Rep.lst_iff.mp r1
  rw [r2.bls] at h1
  exact ⟨p, ns, rfl, SqL.of (hs _ _ h1), k _ H F _ (Step.refl hs hd) (Rep.bl_iff.mpr rfl) q⟩
/-- tuple(xs), tuple(t) -/
def gTuple : DLK := fun ds Q => arg1 ds fun x => asSeq x fun xs => Q (.tup xs)
theorem cd_tuple {K : PySem.W.Frag} : CallD G (fun xs H Q => ∃ p ys, xs = [.ref p] ∧ ((SqL K H p ys ∧ ∀ l, H l = none → Q (.ref l) (upd H l (.tup ys))) ∨ (SqT K H p ys ∧ Q (.ref p) H))) gTuple := by
  intro F H vs ds Q R hs hd rv q k
  obtain ⟨x, rfl, z0⟩ := arg1_iff.mp q
  obtain ⟨xs, e, z1⟩ := asSeq_iff.mp z0
  clear q
  have q := z1
  rcases e with rfl | rfl
  · obtain ⟨v, rfl, r1⟩ := reps1 rv
    obtain ⟨p, us, rfl, h1, r2⟩ := Rep.lst_iff.mp r1
    refine ⟨p, us, rfl, .inl ⟨SqL.of (hs _ _ h1), fun c hc => ?_⟩⟩
    have s := Step.alloc (o := .tup us) hs hd hc
    exact k _ _ _ _ s (Rep.tup_iff.mpr ⟨c, us, rfl, upd_same, r2.mono s.grow⟩) q
  · obtain ⟨v, rfl, r1⟩ := reps1 rv
    obtain ⟨p, us, rfl, h1, r2⟩ := Rep.tup_iff.mp r1
    exact ⟨p, us, rfl, .inr ⟨SqT.of (hs _ _ h1), k _ H F _ (Step.refl hs hd) r1 q⟩⟩
/-- list(xs), list(t): fresh -/
abbrev DLL := List D → (List D → Prop) → Prop
def dCallL (g : DLL) (t : DA) : DA := fun δ Q => t δ fun ds => g ds Q
def gList : DLL := fun ds Q => arg1 ds fun x => asSeq x fun xs => Q xs
theorem fo_list (hg : Gl X "list") (hm : X.mg "list" = none) (ha : FA X G [e] r) (he : starEach [e] X.env = (false, eval e X.env) :: starEach [] X.env := by rfl) : FO X G (.Call (.Name "list" p) [e] [] pos) (dCallL gList r) :=
  PE.imp (pe_callTy call_list_of hg hm (by decide +kernel) ha (by decide) (by decide) he rfl) fun σ H R ⟨F, δ, Q, ge, q, k⟩ => ⟨F, δ, _, ge, q, fun vs H1 F1 ds s1 r1 q1 => by
    obtain ⟨x, rfl, z0⟩ := arg1_iff.mp q1
    obtain ⟨xs, e, z1⟩ := asSeq_iff.mp z0
    clear q1
    have q1 := z1
    have go : ∀ us, Reps G F1 us xs → ∀ l, H1 l = none → R (.ref l) (upd H1 l (.lst us)) := fun us r2 l hl => by
      have s2 := Step.new_ (o := .lst us) s1.fix s1.dr hl
      exact k l us _ F1 xs (s1.trans ge.dr s2) (s1.dom ge.dr hl) (s1.fix.free hl) (s1.dr.nd hl) upd_same r2 q1
    rcases e with rfl | rfl
    · obtain ⟨v, rfl, r2⟩ := reps1 r1
      obtain ⟨p, us, rfl, h1, r3⟩ := Rep.lst_iff.mp r2
      exact ⟨p, us, rfl, .inl (SqL.of (s1.fix _ _ h1)), go us r3⟩
    · obtain ⟨v, rfl, r2⟩ := reps1 r1
      obtain ⟨p, us, rfl, h1, r3⟩ := Rep.tup_iff.mp r2
      exact ⟨p, us, rfl, .inr (SqT.of (s1.fix _ _ h1)), go us r3⟩⟩
/-! ### isinstance -/
/-- the built-in type of plain data -/
def tyD : D → Option String
  | .non => some "NoneType"
  | .bl _ => some "bool"
  | .int _ => some "int"
  | .str _ => some "str"
  | .lst _ => some "list"
  | .tup _ => some "tuple"
  | _ => none
theorem Rep.ty {K : PySem.W.Frag} {F H : Hp} {v : V} {d : D} {T : String} (s : Same F H) (h : Rep G F v d) (e : tyD d = some T) : TyX K H v (.type T) := by
  cases d with
  | non => cases e; rw [Rep.non_iff.mp h]; exact .base .non
  | bl b => cases e; rw [Rep.bl_iff.mp h]; exact .base (.bl _)
  | int i => cases e; rw [Rep.int_iff.mp h]; exact .base (.int _)
  | str x => cases e; rw [Rep.str_iff.mp h]; exact .base (.str _)
  | lst ds => cases e; obtain ⟨a, vs, rfl, h1, _⟩ := Rep.lst_iff.mp h; exact .base (.lst (s _ _ h1))
  | tup ds => cases e; obtain ⟨a, vs, rfl, h1, _⟩ := Rep.tup_iff.mp h; exact .base (.tup (s _ _ h1))
  | obj c ds => cases e
  | drw => cases e
  | scr => cases e
def dIsi (T : String) (t : DE) : DE := fun δ Q => t δ fun x => ∃ k b, tyD x = some k ∧ kitB k T = some b ∧ Q (.bl b)
theorem fe_isi {eT : Expr} (hg : Gl X "isinstance") (hm : X.mg "isinstance" = none) (h : FE X G e t) (hT : PE X eT (tC (.ty T)))
    (he : starEach [e, eT] X.env = (false, eval e X.env) :: starEach [eT] X.env := by rfl) (he2 : starEach [eT] X.env = (false, eval eT X.env) :: starEach [] X.env := by rfl) (hpl : (backTo pos (starEach [eT] X.env)).any (·.1) = false := by rfl) : FE X G (.Call (.Name "isinstance" p) [e, eT] [] pos) (dIsi T t) :=
  PE.imp (pe_callB call_isi hg hm (by decide +kernel) (pa_cons h (pa_cons hT pa_nil he2) he) (by decide) (by decide) he hpl) fun σ H R ⟨F, δ, Q, ge, q, k⟩ => ⟨F, δ, _, ge, q, fun v H1 F1 d s1 r1 q1 => by
    obtain ⟨c, b, e1, e2, q1⟩ := q1
    exact ⟨v, .ty T, .type c, .type T, b, rfl, .ty T, r1.ty s1.fix e1, kit_ty e2, k _ H1 F1 _ s1 (Rep.bl_iff.mpr rfl) q1⟩⟩
/-- an instance of the class itself -/
structure InsOk (K : PySem.W.Frag) (C : Addr) : Prop where
  cl : Cls K C
  ha : PySem.W.findIn K (.ref C) "__class__" = some (some (.builtin "object.__class__"))
  hn : PySem.W.specialIn K (.builtin "object.__class__") "__get__" = some (some (.builtin "getset_descriptor.__get__"))
  ht : PySem.W.takesIn K (.builtin "object.__class__") = some true
  hm : PySem.W.mroIn K C (.type "object") = some true
def dIsC (c : Nat) (t : DE) : DE := fun δ Q => t δ fun x => ∃ ds, x = .obj c ds ∧ Q (.bl true)
theorem fe_isC {eT : Expr} {c : Nat} {C : Addr} (I : InsOk X.K (G.tb.ca c)) (hC : C = G.tb.ca c) (hg : Gl X "isinstance") (hm : X.mg "isinstance" = none) (h : FE X G e t) (hT : PE X eT (tC (.ref C)))
    (he : starEach [e, eT] X.env = (false, eval e X.env) :: starEach [eT] X.env := by rfl) (he2 : starEach [eT] X.env = (false, eval eT X.env) :: starEach [] X.env := by rfl) (hpl : (backTo pos (starEach [eT] X.env)).any (·.1) = false := by rfl) : FE X G (.Call (.Name "isinstance" p) [e, eT] [] pos) (dIsC c t) := by
  subst hC
  exact PE.imp (pe_callB call_isi hg hm (by decide +kernel) (pa_cons h (pa_cons hT pa_nil he2) he) (by decide) (by decide) he hpl) fun σ H R ⟨F, δ, Q, ge, q, k⟩ => ⟨F, δ, _, ge, q, fun v H1 F1 d s1 r1 q1 => by
    obtain ⟨ds, rfl, q1⟩ := q1
    obtain ⟨a, dx, vs, rfl, h1, hl, rv⟩ := Rep.obj_iff.mp r1
    refine ⟨_, .ref (G.tb.ca c), .ref (G.tb.ca c), .ref (G.tb.ca c), true, rfl, .own _, .base (.ins (s1.fix _ _ h1) I.cl I.ha I.hn I.ht I.hm), ?_, k _ H1 F1 _ s1 (Rep.bl_iff.mpr rfl) q1⟩
    unfold PySem.W.kitOne
    rw [if_pos (by simp)]⟩
/-- isinstance(x, (S, T)) -/
def kitAnyB (k : String) : List String → Option Bool
  | [] => some false
  | T :: r => match kitB k T with
    | some true => some true
    | some false => kitAnyB k r
    | none => none
theorem kitAnyB_ok {K : PySem.W.Frag} {k : String} : ∀ {Ts : List String} {b : Bool}, kitAnyB k Ts = some b → PySem.W.kitAny K (.type k) (Ts.map Value.type) = some b
  | [], b, h => h
  | T :: r, b, h => by
    unfold kitAnyB at h
    unfold List.map PySem.W.kitAny
    cases e : kitB k T with
    | none => rw [e] at h; cases h
    | some c =>
      rw [e] at h
      rw [kit_ty e]
      cases c with
      | true => exact h
      | false => exact kitAnyB_ok h
def dIsiT (Ts : List String) (t : DE) : DE := fun δ Q => t δ fun x => ∃ k b, tyD x = some k ∧ kitAnyB k Ts = some b ∧ Q (.bl b)
theorem cls_all : ∀ Ts : List String, Paired ClsV (Ts.map V.ty) (Ts.map Value.type)
  | [] => .nil
  | T :: r => .cons (.ty T) (cls_all r)
theorem fe_isiT2 {e1 e2 : Expr} {T1 T2 : String} {kk : Nat} {tp : Pos} (hg : Gl X "isinstance") (hm : X.mg "isinstance" = none) (h : FE X G e t) (h1 : PE X e1 (tC (.ty T1))) (h2 : PE X e2 (tC (.ty T2)))
    (he : starEach [e, .Tuple [e1, e2] kk tp] X.env = (false, eval e X.env) :: starEach [.Tuple [e1, e2] kk tp] X.env := by rfl) (he2 : starEach [.Tuple [e1, e2] kk tp] X.env = (false, eval (.Tuple [e1, e2] kk tp) X.env) :: starEach [] X.env := by rfl) (hpl : (backTo pos (starEach [.Tuple [e1, e2] kk tp] X.env)).any (·.1) = false := by rfl)
    (hq1 : starEach [e1, e2] X.env = (false, eval e1 X.env) :: starEach [e2] X.env := by rfl) (hq2 : starEach [e2] X.env = (false, eval e2 X.env) :: starEach [] X.env := by rfl) :
    FE X G (.Call (.Name "isinstance" p) [e, .Tuple [e1, e2] kk tp] [] pos) (dIsiT [T1, T2] t) :=
  PE.imp (pe_callB call_isiT hg hm (by decide +kernel) (pa_cons h (pa_cons (pe_tup (pa_cons h1 (pa_cons h2 pa_nil hq2) hq1)) pa_nil he2) he) (by decide) (by decide) he hpl) fun σ H R ⟨F, δ, Q, ge, q, k⟩ => ⟨F, δ, _, ge, q, fun v H1 F1 d s1 r1 q1 => by
    obtain ⟨c, b, e1, e2, q1⟩ := q1
    refine ⟨by show 2 ≤ sizeLine; decide, fun tp htp => ?_⟩
    have s2 := Step.alloc (o := .tup [V.ty T1, V.ty T2]) s1.fix s1.dr htp
    exact ⟨v, tp, [V.ty T1, V.ty T2], .type c, [.type T1, .type T2], b, rfl, upd_same, cls_all [T1, T2], (r1.mono s2.grow).ty s2.fix e1, kitAnyB_ok e2, k _ _ _ _ (s1.trans ge.dr s2) (Rep.bl_iff.mpr rfl) q1⟩⟩
/-! ### calls of defs -/
/-- a def's promise over data -/
def spF (T : Tabs) (n : Nat) (sd : DLK) : Sp := fun vs H Q _ => ∃ (dr : Option (Addr × Addr × Addr)) (F : Hp) (ds : List D) (Qd : DK), Same F H ∧ DrOk ⟨T, dr⟩ F H ∧ Reps ⟨T, dr⟩ F vs ds ∧ ds.length = n ∧ sd ds Qd ∧
  ∀ v H' F' d, Step ⟨T, dr⟩ F H F' H' → Rep ⟨T, dr⟩ F' v d → Qd d → Q v H'
theorem spF_len {T : Tabs} {n : Nat} {sd : DLK} {vs : List V} {H : Hp} {Q : VK} {E : XK} (h : spF T n sd vs H Q E) : vs.length = n := by
  obtain ⟨_, _, _, _, _, _, r, e, _⟩ := h
  rw [r.length, e]
def gDef (n : Nat) (sd : DLK) : DLK := fun ds Q => ds.length = n ∧ sd ds Q
theorem cd_def {n : Nat} {sd : DLK} : CallD G (fun vs H Q => spF G.tb n sd (vs ++ []) H Q E0) (gDef n sd) := by
  rintro F H vs ds Q R hs hd rv ⟨hl, q⟩ k
  obtain ⟨T, dr⟩ := G
  refine ⟨dr, F, ds, Q, hs, hd, ?_, hl, q, k⟩
  rw [List.append_nil]
  exact rv
theorem fe_call {k n : Nat} {f : Addr} {fd : FuncData} {ps : List Str} {sd : DLK} (F : FnOk X.prog X.w X.K X.mg X.base CX0 k f fd ps (spF G.tb n sd)) (hr : Room k X.A) (hg : Gl X x) (hm : X.mg x = some (.ref f)) (hk : PySem.W.keepIn X.K (.ref f) = true) (hb : Binds X.K fd ps [])
    (ha : FA X G (e :: es) r) (hdb : (x == ("__debug__" : Str)) = false := by decide) (he : starEach (e :: es) X.env = (false, eval e X.env) :: starEach es X.env := by rfl) (hpl : (backTo pos (starEach es X.env)).any (·.1) = false := by rfl) :
    FE X G (.Call (.Name x p) (e :: es) [] pos) (dCall (gDef n sd) r) :=
  PE.imp (pe_call (E := E0) F hr hg hm hk hb .nil pass0 ha hdb he hpl) fun σ H R h => teF_call cd_def h
/-- an __init__'s promise over data: the arguments in, the attributes out -/
def spI (T : Tabs) (c n : Nat) (sd : DLL) : Sp := fun vs H Q _ => ∃ (dr : Option (Addr × Addr × Addr)) (F : Hp) (x dx : Addr) (us : List V) (ds : List D) (Qd : List D → Prop), vs = .ref x :: us ∧ H x = some (.ins (T.ca c) dx []) ∧ H dx = some (.own x) ∧ F x = none ∧ F dx = none ∧ ¬ Dr ⟨T, dr⟩ x ∧ ¬ Dr ⟨T, dr⟩ dx ∧
  Same F H ∧ DrOk ⟨T, dr⟩ F H ∧ Reps ⟨T, dr⟩ F us ds ∧ ds.length = n ∧ sd ds Qd ∧
  ∀ H' F' ws fs, Step ⟨T, dr⟩ F (fun a => if a = x then none else H a) F' H' → H' x = some (.ins (T.ca c) dx ((T.fn c).zip ws)) → F' x = none → ws.length ≤ (T.fn c).length → Reps ⟨T, dr⟩ F' ws fs → Qd fs → Q .non H'
def gMake (c n : Nat) (sd : DLL) : DLK := fun ds Q => ds.length = n ∧ sd ds fun fs => Q (.obj c fs)
theorem fe_make {k n c : Nat} {f : Addr} {C : Addr} {fd : FuncData} {ps : List Str} {sd : DLL} (hC : C = G.tb.ca c) (M : Mk X.K C f) (F : FnOk X.prog X.w X.K X.mg X.base CX0 k f fd ps (spI G.tb c n sd)) (hr : Room (k + 1) X.A) (hg : Gl X x) (hm : X.mg x = some (.ref C)) (hb : Binds X.K fd ps [])
    (ha : FA X G (e :: es) r) (hdb : (x == ("__debug__" : Str)) = false := by decide) (he : starEach (e :: es) X.env = (false, eval e X.env) :: starEach es X.env := by rfl) (hpl : (backTo pos (starEach es X.env)).any (·.1) = false := by rfl) :
    FE X G (.Call (.Name x p) (e :: es) [] pos) (dCall (gMake c n sd) r) := by
  subst hC
  refine PE.imp (pe_make (E := E0) M F hr hg hm hb .nil pass0 ha hdb he hpl) fun σ H R ⟨F0, δ, Q, ge, q, k⟩ => ⟨F0, δ, _, ge, q, fun vs H1 F1 ds s1 r1 q1 => ?_⟩
  obtain ⟨hl, q1⟩ := q1
  intro x dx hx hdx ne
  obtain ⟨T, dr⟩ := G
  have n1 : ¬ Dr ⟨T, dr⟩ x := s1.dr.nd hx
  have n2 : ¬ Dr ⟨T, dr⟩ dx := s1.dr.nd hdx
  have fx : F1 x = none := s1.fix.free hx
  have fdx : F1 dx = none := s1.fix.free hdx
  have sm : Same F1 (upd (upd H1 dx (.own x)) x (.ins (T.ca c) dx [])) := fun a o e => by
    rw [upd_ne (ne_of_none e fx), upd_ne (ne_of_none e fdx)]
    exact s1.fix a o e
  have drk : DrOk ⟨T, dr⟩ F1 (upd (upd H1 dx (.own x)) x (.ins (T.ca c) dx [])) := fun d l c' e => by
    obtain ⟨h1, h2, h3, h4⟩ := s1.dr d l c' e
    refine ⟨?_, h2, h3, h4⟩
    obtain ⟨⟨o1, g1⟩, ⟨o2, g2⟩, ⟨o3, g3⟩⟩ := h1.some
    obtain ⟨r, t, ls, cs, h5, h6, h7, h8⟩ := h1.ex
    exact ⟨r, t, ls, cs, by rw [upd_ne (ne_of_none g1 hx), upd_ne (ne_of_none g1 hdx)]; exact h5, by rw [upd_ne (ne_of_none g2 hx), upd_ne (ne_of_none g2 hdx)]; exact h6, by rw [upd_ne (ne_of_none g3 hx), upd_ne (ne_of_none g3 hdx)]; exact h7, h8⟩
  refine ⟨dr, F1, x, dx, vs, ds, _, by rw [List.append_nil], upd_same, by rw [upd_ne ne, upd_same], fx, fdx, n1, n2, sm, drk, r1, hl, q1, fun H' F' ws fs s2 hx' fx' hws rw_ qd => ⟨rfl, ?_⟩⟩
  -- the whole step from H1
  have big : Step ⟨T, dr⟩ F1 H1 F' H' := by
    refine ⟨fun a o e nd => s2.same a o ?_ nd, s2.grow, fun a o e => ?_, s2.fix, s2.dr⟩
    · rw [if_neg (ne_of_none e hx), upd_ne (ne_of_none e hx), upd_ne (ne_of_none e hdx)]
      exact e
    · rcases s2.new a o e with h | h
      · exact .inl h
      · right
        by_cases ha : a = x
        · rw [ha]; exact hx
        · rw [if_neg ha, upd_ne ha] at h
          by_cases hb : a = dx
          · rw [hb]; exact hdx
          · rw [upd_ne hb] at h; exact h
  have fz := big.freeze (o := .ins (T.ca c) dx ((T.fn c).zip ws)) hx fx' n1 hx'
  exact k (.ref x) H' _ (.obj c fs) (s1.trans ge.dr fz) (Rep.obj_iff.mpr ⟨x, dx, ws, rfl, upd_same, hws, rw_.mono (same_upd' fx')⟩) qd
end
end L3
end
section
set_option Elab.async false
set_option linter.all false
set_option maxRecDepth 100000
/-! L3z: what loops walk: enumerate and zip (two, three) over lists and tuples in any mix. -/
namespace L3
open PySem PySem.Spec PyProof.Rows L2
/-- a list (k false) or a tuple (k true) that is read -/
def SqK (k : Bool) (K : PySem.W.Frag) (H : Hp) (a : Addr) (xs : List V) : Prop := match k with
  | true => SqT K H a xs
  | false => SqL K H a xs
def ItK (k : Bool) (h : Heap) (it a : Addr) (i : Nat) : Prop := match k with
  | true => h.IsTupleIter it a i
  | false => h.IsListIter it a i
def AtK (k : Bool) (h : Heap) (a : Addr) (its : List Value) : Prop := match k with
  | true => h.IsTuple a its.toArray
  | false => h.IsList a its.toArray
def objK (k : Bool) (a : Addr) : Obj := match k with
  | true => { cls := .type "tuple_iterator", data := .fields #[.ref a, .int 0 0] }
  | false => { cls := .type "list_iterator", data := .fields #[.ref a, .int 0 0] }
section
variable {X : Cx} {pins : List (Addr × Obj)} {σ : St} {H : Hp} {s : Shared} {k : Bool} {a : Addr} {xs ys : List V}
theorem seqK (I : Inv X pins σ H s) (h : SqK k X.K H a xs) : ∃ its : List Value, Vals xs its ∧ AtK k s.heap a its := by
  cases k with
  | true =>
    obtain ⟨its, r, p, _⟩ := I.tuple h
    exact ⟨its, r, p⟩
  | false =>
    obtain ⟨its, r, p, _⟩ := I.list h
    exact ⟨its, r, p.isList⟩
theorem seqK_inj (I : Inv X pins σ H s) (h : SqK k X.K H a xs) (h' : SqK k X.K H a ys) : xs = ys := by
  cases k with
  | true => exact I.tuple_inj h h'
  | false => exact I.list_inj h h'
theorem AtK.lt {h : Heap} {its : List Value} (x : AtK k h a its) : a < h.objs.size := by
  cases k with
  | true =>
    obtain ⟨o, e, _⟩ := (show h.IsTuple a its.toArray from x)
    exact Heap.lt_size e
  | false =>
    obtain ⟨o, e, _⟩ := (show h.IsList a its.toArray from x)
    exact Heap.lt_size e
theorem ItK.at {h h' : Heap} {it : Addr} {i : Nat} (x : ItK k h it a i) (q : ∀ o, h.get? it = some o → h'.get? it = some o) : ItK k h' it a i := by
  cases k with
  | true => exact Heap.IsTupleIter.at (show h.IsTupleIter it a i from x) fun o e => q o e
  | false => exact Heap.IsListIter.at (show h.IsListIter it a i from x) fun o e => q o e
theorem ItK.new {h : Heap} {it : Addr} (e : h.get? it = some (objK k a)) : ItK k h it a 0 := by
  cases k with
  | true => exact ⟨_, e, rfl, rfl⟩
  | false => exact ⟨_, e, rfl, rfl⟩
theorem ItK.obj {h : Heap} {it : Addr} {i : Nat} (x : ItK k h it a i) : ∃ o, h.get? it = some o ∧ ∀ v, o.data ≠ .cell v := by
  cases k with
  | true =>
    obtain ⟨o, e, _, d⟩ := (show h.IsTupleIter it a i from x)
    exact ⟨o, e, fun v q => by rw [d] at q; cases q⟩
  | false =>
    obtain ⟨o, e, _, d⟩ := (show h.IsListIter it a i from x)
    exact ⟨o, e, fun v q => by rw [d] at q; cases q⟩
theorem drawsK {prog : Program} {w : World} {A : Around} (hh : A.handled = none) (it : Addr) (hne : a ≠ it) (its : List Value) :
    Draws prog w A it [it, a] its.length (fun i v => its[i]? = some v) (fun i h => ItK k h it a i ∧ AtK k h a its) := by
  cases k with
  | true =>
    have D := Draws.tuple (prog := prog) (w := w) hh it a hne its.toArray
    simp only [List.size_toArray, List.getElem?_toArray] at D
    exact D
  | false =>
    have D := Draws.list (prog := prog) (w := w) hh it a hne its.toArray
    simp only [List.size_toArray, List.getElem?_toArray] at D
    exact D
theorem beginsK (its : List Value) : Begins (.ref a) (objK k a) fun h => AtK k h a its := by
  cases k with
  | true => exact begins_tuple a its.toArray
  | false => exact begins_list a its.toArray
end
/-! ### zip of two -/
def Itz2 (K : PySem.W.Frag) (k1 k2 : Bool) (a b : Addr) : It :=
  ⟨fun i H => ∃ (xs ys : List V) (x y : V), SqK k1 K H a xs ∧ SqK k2 K H b ys ∧ xs[i]? = some x ∧ ys[i]? = some y,
    fun i H v H' => ∃ T x y, v = .ref T ∧ H T = none ∧ H' = upd H T (.tup [x, y]) ∧ (∀ xs, SqK k1 K H a xs → xs[i]? = some x) ∧ ∀ ys, SqK k2 K H b ys → ys[i]? = some y,
    fun i H => ∃ xs ys : List V, SqK k1 K H a xs ∧ SqK k2 K H b ys ∧ i = min xs.length ys.length⟩
theorem turn_zip2 {P : Program} {w : World} {K : PySem.W.Frag} {elts : List Expr} {kk : Nat} {tpos : Pos} {k1 k2 : Bool} {a b : Addr} (N : Nat) (ha : a < N) (hb : b < N) :
    Turn P w K (.Tuple elts kk tpos) (Itz2 K k1 k2 a b) [N + 4, N + 2, N + 3, N, N + 1] (N + 4)
      (fun i h => IsZip h (N + 4) (N + 2) (N + 3) .none ∧ IsTupOf2 h (N + 2) (.ref N) (.ref (N + 1)) ∧ (∃ x y, IsTupOf2 h (N + 3) x y) ∧ ItK k1 h N a i ∧ ItK k2 h (N + 1) b i) where
  mem := by simp
  obj := fun i h st c hc => by
    obtain ⟨hz, hTI, ⟨x, y, hTO⟩, h1, h2⟩ := st
    have e' : c = N + 4 ∨ c = N + 2 ∨ c = N + 3 ∨ c = N ∨ c = N + 1 := by simpa using hc
    rcases e' with q | q | q | q | q
    · rw [q]; exact ⟨_, hz, fun v q => nomatch q⟩
    · rw [q]; exact ⟨_, hTI, fun v q => nomatch q⟩
    · rw [q]; exact ⟨_, hTO, fun v q => nomatch q⟩
    · rw [q]; exact h1.obj
    · rw [q]; exact h2.obj
  keep := fun i h h' st k => by
    obtain ⟨hz, hTI, ⟨x, y, hTO⟩, h1, h2⟩ := st
    exact ⟨k (N + 4) (by simp) _ hz, k (N + 2) (by simp) _ hTI, ⟨x, y, k (N + 3) (by simp) _ hTO⟩, h1.at fun o q => k N (by simp) o q, h2.at fun o q => k (N + 1) (by simp) o q⟩
  item := by
    intro X hP hw hK hc i pins s σ H E I hf st hg
    subst hP hw hK
    obtain ⟨hz, hTI, hTO, h1, h2⟩ := st
    obtain ⟨xs, ys, x, y, hqx, hqy, hx, hy⟩ := hg
    obtain ⟨its, rv, p⟩ := seqK I hqx
    obtain ⟨its2, rv2, p2⟩ := seqK I hqy
    have W := GoesN.zip2 (prog := X.prog) (w := X.w) (A := X.A) (elts := elts) (x1 := kk) (pos := tpos) (zip_sep2 (N := N) (fp1 := [a]) (fp2 := [b]) (by simpa using ha) (by simpa using hb))
      (drawsK (k := k1) (A := X.A.in1) (I.ok.hd hc) N (Nat.ne_of_lt ha) its) (drawsK (k := k2) (A := X.A.in1) (I.ok.hd hc) (N + 1) (Nat.ne_of_lt (Nat.lt_succ_of_lt hb)) its2)
    have l1 := rv.length
    have l2 := rv2.length
    have hi : i < min its.length its2.length := by
      have q1 := (List.getElem?_eq_some_iff.mp hx).1
      have q2 := (List.getElem?_eq_some_iff.mp hy).1
      omega
    refine thn (W.goes i s (fun v s2 => ∃ x H', Inv X pins σ H' s2 ∧ RelV x v ∧ (Itz2 X.K k1 k2 a b).yld i H x H' ∧
      (IsZip s2.heap (N + 4) (N + 2) (N + 3) .none ∧ IsTupOf2 s2.heap (N + 2) (.ref N) (.ref (N + 1)) ∧ (∃ x y, IsTupOf2 s2.heap (N + 3) x y) ∧ ItK k1 s2.heap N a (i + 1) ∧ ItK k2 s2.heap (N + 1) b (i + 1)) ∧ ∀ c ∈ [N + 4, N + 2, N + 3, N, N + 1], H' c = none) E hi ⟨hz, hTI, hTO, ⟨h1, p⟩, ⟨h2, p2⟩⟩ fun v h' tk hY st' hk htk => ?_) fun r s1 hr => hr
    obtain ⟨T, u, u2, rfl, hT, hu, hu2, hTT⟩ := hY
    obtain ⟨z1, z2, z3, ⟨z4, _⟩, ⟨z5, _⟩⟩ := st'
    obtain ⟨u', hu', ru⟩ := rv.get hx
    obtain ⟨u2', hu2', ru2⟩ := rv2.get hy
    rw [hu] at hu'
    cases hu'
    rw [hu2] at hu2'
    cases hu2'
    have new : ObjOk X.prog X.w (upd H T (.tup [x, y])) h' T (.tup [x, y]) := ⟨by show 2 ≤ sizeLine; decide, [u, u2], .cons ru (.cons ru2 .nil), hTT⟩
    have I1 : Inv X pins σ (upd H T (.tup [x, y])) { s with heap := h', toks := tk } := I.turnedNew (ch := [N + 4, N + 2, N + 3, N, N + 1]) (fun c o hb q => hk c o (fun q' => hb (by
      have e' : c = N + 4 ∨ c = N + 3 ∨ c = N ∨ c = N + 1 := by simpa using q'
      rcases e' with q | q | q | q
      · simp [q]
      · simp [q]
      · simp [q]
      · simp [q])) q) hf hT new
    refine ⟨.ref T, _, I1, rfl, ⟨T, x, y, rfl, I.hok.fresh hT, rfl, fun l hl => by rw [seqK_inj I hl hqx]; exact hx, fun l hl => by rw [seqK_inj I hl hqy]; exact hy⟩, ⟨z1, z2, z3, z4, z5⟩, fun c hcm => ?_⟩
    have hlt : c < s.heap.objs.size := by
      have q : ∃ o, s.heap.get? c = some o := by
        have e' : c = N + 4 ∨ c = N + 2 ∨ c = N + 3 ∨ c = N ∨ c = N + 1 := by simpa using hcm
        obtain ⟨x', y', hTO⟩ := hTO
        obtain ⟨o4, g4, _⟩ := h1.obj
        obtain ⟨o5, g5, _⟩ := h2.obj
        rcases e' with q | q | q | q | q
        · rw [q]; exact ⟨_, hz⟩
        · rw [q]; exact ⟨_, hTI⟩
        · rw [q]; exact ⟨_, hTO⟩
        · rw [q]; exact ⟨_, g4⟩
        · rw [q]; exact ⟨_, g5⟩
      obtain ⟨o, q⟩ := q
      exact Heap.lt_size q
    rw [upd_ne (Nat.ne_of_lt (Nat.lt_of_lt_of_le hlt hT))]
    exact (hf c hcm).1
  done := by
    intro X hP hw hK hc i pins s σ H E I hf st hg
    subst hP hw hK
    obtain ⟨hz, hTI, hTO, h1, h2⟩ := st
    obtain ⟨xs, ys, hqx, hqy, hi⟩ := hg
    obtain ⟨its, rv, p⟩ := seqK I hqx
    obtain ⟨its2, rv2, p2⟩ := seqK I hqy
    have W := GoesN.zip2 (prog := X.prog) (w := X.w) (A := X.A) (elts := elts) (x1 := kk) (pos := tpos) (zip_sep2 (N := N) (fp1 := [a]) (fp2 := [b]) (by simpa using ha) (by simpa using hb))
      (drawsK (k := k1) (A := X.A.in1) (I.ok.hd hc) N (Nat.ne_of_lt ha) its) (drawsK (k := k2) (A := X.A.in1) (I.ok.hd hc) (N + 1) (Nat.ne_of_lt (Nat.lt_succ_of_lt hb)) its2)
    have l1 := rv.length
    have l2 := rv2.length
    have hi2 : i = min its.length its2.length := by omega
    subst hi2
    refine W.stops s (fun s1 => Inv X pins σ H s1) E ⟨hz, hTI, hTO, ⟨h1, p⟩, ⟨h2, p2⟩⟩ fun h' tk hk htk => ?_
    exact I.turnedL (ch := [N + 4, N + 2, N + 3, N, N + 1]) (fun c o hb q => hk c o (fun q' => hb (by
      have e' : c = N + 4 ∨ c = N + 3 ∨ c = N ∨ c = N + 1 := by simpa using q'
      rcases e' with q | q | q | q
      · simp [q]
      · simp [q]
      · simp [q]
      · simp [q])) q) hf
  self := fun A i s Q E st h => wpAny_pyIter_zip st.1 h
def iZip2 (K : PySem.W.Frag) (ta : TA) : TI := fun σ H R => ta σ H fun vs H1 => ∃ k1 k2 a b xs ys, vs = [.ref a, .ref b] ∧ SqK k1 K H1 a xs ∧ SqK k2 K H1 b ys ∧ R (Itz2 K k1 k2 a b) H1
theorem pi_zip2 {X : Cx} {e e2 : Expr} {ta : TA} {p pos tpos : Pos} {elts : List Expr} {kk : Nat} (hg : Gl X "zip") (hm : X.mg "zip" = none) (ha : PA X [e, e2] ta)
    (hs : starEach [e, e2] X.env = (false, eval e X.env) :: starEach [e2] X.env := by rfl) (hpl : (backTo pos (starEach [e2] X.env)).any (·.1) = false := by rfl) :
    PI X (.Tuple elts kk tpos) (.Call (.Name "zip" p) [e, e2] [] pos) (iZip2 X.K ta) := by
  refine ⟨fun pins s σ H R I h => ?_⟩
  refine Call_ (ld_blt I hg hm PyProof.Rows.boot_zip (PyProof.Rows.callWith_type1 (thn (ha.run pos pins s σ H _ I h) fun us s1 ⟨vs, H1, I1, r1, q1⟩ => ?_) hs hpl))
  obtain ⟨k1, k2, a, b, xs, ys, ex, hqx, hqy, q⟩ := q1
  subst ex
  obtain ⟨u1, u2, rfl, r1, r2⟩ := vals2 r1
  cases r1
  cases r2
  obtain ⟨its, rv, p1⟩ := seqK I1 hqx
  obtain ⟨its2, rv2, p2⟩ := seqK I1 hqy
  refine zip_begins2 (beginsK its) (beginsK its2) p1 p2 fun h' hz hTI hTO h1 h2 hsz hk => wpAny_pyIter_zip hz ?_
  have I2 : Inv X pins σ H1 { s1 with heap := h' } := I1.kept (t' := s1.toks) hk
  refine ⟨s1.heap.objs.size + 4, _, _, _, H1, rfl, I2, turn_zip2 s1.heap.objs.size p1.lt p2.lt, ⟨hz, hTI, ⟨_, _, hTO⟩, ItK.new h1, ItK.new h2⟩, fun c hcm => ?_, q⟩
  have hle : s1.heap.objs.size ≤ c := by
    have e' : c = s1.heap.objs.size + 4 ∨ c = s1.heap.objs.size + 2 ∨ c = s1.heap.objs.size + 3 ∨ c = s1.heap.objs.size ∨ c = s1.heap.objs.size + 1 := by simpa using hcm
    rcases e' with z | z | z | z | z
    · rw [z]; exact Nat.le_add_right _ _
    · rw [z]; exact Nat.le_add_right _ _
    · rw [z]; exact Nat.le_add_right _ _
    · rw [z]; exact Nat.le_refl _
    · rw [z]; exact Nat.le_add_right _ _
  exact I1.fpOk hle (I1.hok.fresh hle)
/-! ### zip of three -/
def Itz3 (K : PySem.W.Frag) (k1 k2 k3 : Bool) (a b c : Addr) : It :=
  ⟨fun i H => ∃ (xs ys zs : List V) (x y z : V), SqK k1 K H a xs ∧ SqK k2 K H b ys ∧ SqK k3 K H c zs ∧ xs[i]? = some x ∧ ys[i]? = some y ∧ zs[i]? = some z,
    fun i H v H' => ∃ T x y z, v = .ref T ∧ H T = none ∧ H' = upd H T (.tup [x, y, z]) ∧ (∀ xs, SqK k1 K H a xs → xs[i]? = some x) ∧ (∀ ys, SqK k2 K H b ys → ys[i]? = some y) ∧ ∀ zs, SqK k3 K H c zs → zs[i]? = some z,
    fun i H => ∃ xs ys zs : List V, SqK k1 K H a xs ∧ SqK k2 K H b ys ∧ SqK k3 K H c zs ∧ i = min (min xs.length ys.length) zs.length⟩
theorem turn_zip3 {P : Program} {w : World} {K : PySem.W.Frag} {elts : List Expr} {kk : Nat} {tpos : Pos} {k1 k2 k3 : Bool} {a b c : Addr} (N : Nat) (ha : a < N) (hb : b < N) (hc3 : c < N) :
    Turn P w K (.Tuple elts kk tpos) (Itz3 K k1 k2 k3 a b c) [N + 5, N + 3, N + 4, N, N + 1, N + 2] (N + 5)
      (fun i h => IsZip h (N + 5) (N + 3) (N + 4) .none ∧ IsTupOf3 h (N + 3) (.ref N) (.ref (N + 1)) (.ref (N + 2)) ∧ (∃ x y z, IsTupOf3 h (N + 4) x y z) ∧ ItK k1 h N a i ∧ ItK k2 h (N + 1) b i ∧ ItK k3 h (N + 2) c i) where
  mem := by simp
  obj := fun i h st c hc => by
    obtain ⟨hz, hTI, ⟨x, y, z, hTO⟩, h1, h2, h3⟩ := st
    have e' : c = N + 5 ∨ c = N + 3 ∨ c = N + 4 ∨ c = N ∨ c = N + 1 ∨ c = N + 2 := by simpa using hc
    rcases e' with q | q | q | q | q | q
    · rw [q]; exact ⟨_, hz, fun v q => nomatch q⟩
    · rw [q]; exact ⟨_, hTI, fun v q => nomatch q⟩
    · rw [q]; exact ⟨_, hTO, fun v q => nomatch q⟩
    · rw [q]; exact h1.obj
    · rw [q]; exact h2.obj
    · rw [q]; exact h3.obj
  keep := fun i h h' st k => by
    obtain ⟨hz, hTI, ⟨x, y, z, hTO⟩, h1, h2, h3⟩ := st
    exact ⟨k (N + 5) (by simp) _ hz, k (N + 3) (by simp) _ hTI, ⟨x, y, z, k (N + 4) (by simp) _ hTO⟩, h1.at fun o q => k N (by simp) o q, h2.at fun o q => k (N + 1) (by simp) o q, h3.at fun o q => k (N + 2) (by simp) o q⟩
  item := by
    intro X hP hw hK hc i pins s σ H E I hf st hg
    subst hP hw hK
    obtain ⟨hz, hTI, hTO, h1, h2, h3⟩ := st
    obtain ⟨xs, ys, zs, x, y, z, hqx, hqy, hqz, hx, hy, hz3⟩ := hg
    obtain ⟨its, rv, p⟩ := seqK I hqx
    obtain ⟨its2, rv2, p2⟩ := seqK I hqy
    obtain ⟨its3, rv3, p3⟩ := seqK I hqz
    have W := GoesN.zip3 (prog := X.prog) (w := X.w) (A := X.A) (elts := elts) (x1 := kk) (pos := tpos) (zip_sep3 (N := N) (fp1 := [a]) (fp2 := [b]) (fp3 := [c]) (by simpa using ha) (by simpa using hb) (by simpa using hc3))
      (drawsK (k := k1) (A := X.A.in1) (I.ok.hd hc) N (Nat.ne_of_lt ha) its) (drawsK (k := k2) (A := X.A.in1) (I.ok.hd hc) (N + 1) (Nat.ne_of_lt (Nat.lt_succ_of_lt hb)) its2) (drawsK (k := k3) (A := X.A.in1) (I.ok.hd hc) (N + 2) (Nat.ne_of_lt (Nat.lt_succ_of_lt (Nat.lt_succ_of_lt hc3))) its3)
    have l1 := rv.length
    have l2 := rv2.length
    have l3 := rv3.length
    have hi : i < min (min its.length its2.length) its3.length := by
      have q1 := (List.getElem?_eq_some_iff.mp hx).1
      have q2 := (List.getElem?_eq_some_iff.mp hy).1
      have q3 := (List.getElem?_eq_some_iff.mp hz3).1
      omega
    refine thn (W.goes i s (fun v s2 => ∃ x H', Inv X pins σ H' s2 ∧ RelV x v ∧ (Itz3 X.K k1 k2 k3 a b c).yld i H x H' ∧
      (IsZip s2.heap (N + 5) (N + 3) (N + 4) .none ∧ IsTupOf3 s2.heap (N + 3) (.ref N) (.ref (N + 1)) (.ref (N + 2)) ∧ (∃ x y z, IsTupOf3 s2.heap (N + 4) x y z) ∧ ItK k1 s2.heap N a (i + 1) ∧ ItK k2 s2.heap (N + 1) b (i + 1) ∧ ItK k3 s2.heap (N + 2) c (i + 1)) ∧ ∀ c ∈ [N + 5, N + 3, N + 4, N, N + 1, N + 2], H' c = none) E hi ⟨hz, hTI, hTO, ⟨h1, p⟩, ⟨h2, p2⟩, ⟨h3, p3⟩⟩ fun v h' tk hY st' hk htk => ?_) fun r s1 hr => hr
    obtain ⟨T, u, u2, u3, rfl, hT, hu, hu2, hu3, hTT⟩ := hY
    obtain ⟨z1, z2, z3, ⟨z4, _⟩, ⟨z5, _⟩, ⟨z6, _⟩⟩ := st'
    obtain ⟨u', hu', ru⟩ := rv.get hx
    obtain ⟨u2', hu2', ru2⟩ := rv2.get hy
    obtain ⟨u3', hu3', ru3⟩ := rv3.get hz3
    rw [hu] at hu'
    cases hu'
    rw [hu2] at hu2'
    cases hu2'
    rw [hu3] at hu3'
    cases hu3'
    have new : ObjOk X.prog X.w (upd H T (.tup [x, y, z])) h' T (.tup [x, y, z]) := ⟨by show 3 ≤ sizeLine; decide, [u, u2, u3], .cons ru (.cons ru2 (.cons ru3 .nil)), hTT⟩
    have I1 : Inv X pins σ (upd H T (.tup [x, y, z])) { s with heap := h', toks := tk } := I.turnedNew (ch := [N + 5, N + 3, N + 4, N, N + 1, N + 2]) (fun c o hb q => hk c o (fun q' => hb (by
      have e' : c = N + 5 ∨ c = N + 4 ∨ c = N ∨ c = N + 1 ∨ c = N + 2 := by simpa using q'
      rcases e' with q | q | q | q | q
      · simp [q]
      · simp [q]
      · simp [q]
      · simp [q]
      · simp [q])) q) hf hT new
    refine ⟨.ref T, _, I1, rfl, ⟨T, x, y, z, rfl, I.hok.fresh hT, rfl, fun l hl => by rw [seqK_inj I hl hqx]; exact hx, fun l hl => by rw [seqK_inj I hl hqy]; exact hy, fun l hl => by rw [seqK_inj I hl hqz]; exact hz3⟩, ⟨z1, z2, z3, z4, z5, z6⟩, fun c hcm => ?_⟩
    have hlt : c < s.heap.objs.size := by
      have q : ∃ o, s.heap.get? c = some o := by
        have e' : c = N + 5 ∨ c = N + 3 ∨ c = N + 4 ∨ c = N ∨ c = N + 1 ∨ c = N + 2 := by simpa using hcm
        obtain ⟨x', y', z', hTO⟩ := hTO
        obtain ⟨o4, g4, _⟩ := h1.obj
        obtain ⟨o5, g5, _⟩ := h2.obj
        obtain ⟨o6, g6, _⟩ := h3.obj
        rcases e' with q | q | q | q | q | q
        · rw [q]; exact ⟨_, hz⟩
        · rw [q]; exact ⟨_, hTI⟩
        · rw [q]; exact ⟨_, hTO⟩
        · rw [q]; exact ⟨_, g4⟩
        · rw [q]; exact ⟨_, g5⟩
        · rw [q]; exact ⟨_, g6⟩
      obtain ⟨o, q⟩ := q
      exact Heap.lt_size q
    rw [upd_ne (Nat.ne_of_lt (Nat.lt_of_lt_of_le hlt hT))]
    exact (hf c hcm).1
  done := by
    intro X hP hw hK hc i pins s σ H E I hf st hg
    subst hP hw hK
    obtain ⟨hz, hTI, hTO, h1, h2, h3⟩ := st
    obtain ⟨xs, ys, zs, hqx, hqy, hqz, hi⟩ := hg
    obtain ⟨its, rv, p⟩ := seqK I hqx
    obtain ⟨its2, rv2, p2⟩ := seqK I hqy
    obtain ⟨its3, rv3, p3⟩ := seqK I hqz
    have W := GoesN.zip3 (prog := X.prog) (w := X.w) (A := X.A) (elts := elts) (x1 := kk) (pos := tpos) (zip_sep3 (N := N) (fp1 := [a]) (fp2 := [b]) (fp3 := [c]) (by simpa using ha) (by simpa using hb) (by simpa using hc3))
      (drawsK (k := k1) (A := X.A.in1) (I.ok.hd hc) N (Nat.ne_of_lt ha) its) (drawsK (k := k2) (A := X.A.in1) (I.ok.hd hc) (N + 1) (Nat.ne_of_lt (Nat.lt_succ_of_lt hb)) its2) (drawsK (k := k3) (A := X.A.in1) (I.ok.hd hc) (N + 2) (Nat.ne_of_lt (Nat.lt_succ_of_lt (Nat.lt_succ_of_lt hc3))) its3)
    have l1 := rv.length
    have l2 := rv2.length
    have l3 := rv3.length
    have hi2 : i = min (min its.length its2.length) its3.length := by omega
    subst hi2
    refine W.stops s (fun s1 => Inv X pins σ H s1) E ⟨hz, hTI, hTO, ⟨h1, p⟩, ⟨h2, p2⟩, ⟨h3, p3⟩⟩ fun h' tk hk htk => ?_
    exact I.turnedL (ch := [N + 5, N + 3, N + 4, N, N + 1, N + 2]) (fun c o hb q => hk c o (fun q' => hb (by
      have e' : c = N + 5 ∨ c = N + 4 ∨ c = N ∨ c = N + 1 ∨ c = N + 2 := by simpa using q'
      rcases e' with q | q | q | q | q
      · simp [q]
      · simp [q]
      · simp [q]
      · simp [q]
      · simp [q])) q) hf
  self := fun A i s Q E st h => wpAny_pyIter_zip st.1 h
def iZip3 (K : PySem.W.Frag) (ta : TA) : TI := fun σ H R => ta σ H fun vs H1 => ∃ k1 k2 k3 a b c xs ys zs, vs = [.ref a, .ref b, .ref c] ∧ SqK k1 K H1 a xs ∧ SqK k2 K H1 b ys ∧ SqK k3 K H1 c zs ∧ R (Itz3 K k1 k2 k3 a b c) H1
theorem pi_zip3 {X : Cx} {e e2 e3 : Expr} {ta : TA} {p pos tpos : Pos} {elts : List Expr} {kk : Nat} (hg : Gl X "zip") (hm : X.mg "zip" = none) (ha : PA X [e, e2, e3] ta)
    (hs : starEach [e, e2, e3] X.env = (false, eval e X.env) :: starEach [e2, e3] X.env := by rfl) (hpl : (backTo pos (starEach [e2, e3] X.env)).any (·.1) = false := by rfl) :
    PI X (.Tuple elts kk tpos) (.Call (.Name "zip" p) [e, e2, e3] [] pos) (iZip3 X.K ta) := by
  refine ⟨fun pins s σ H R I h => ?_⟩
  refine Call_ (ld_blt I hg hm PyProof.Rows.boot_zip (PyProof.Rows.callWith_type1 (thn (ha.run pos pins s σ H _ I h) fun us s1 ⟨vs, H1, I1, r1, q1⟩ => ?_) hs hpl))
  obtain ⟨k1, k2, k3, a, b, c, xs, ys, zs, ex, hqx, hqy, hqz, q⟩ := q1
  subst ex
  cases r1 with
  | cons r1 rr =>
    obtain ⟨u2, u3, rfl, r2, r3⟩ := vals2 rr
    cases r1
    cases r2
    cases r3
    obtain ⟨its, rv, p1⟩ := seqK I1 hqx
    obtain ⟨its2, rv2, p2⟩ := seqK I1 hqy
    obtain ⟨its3, rv3, p3⟩ := seqK I1 hqz
    refine zip_begins3 (beginsK its) (beginsK its2) (beginsK its3) p1 p2 p3 fun h' hz hTI hTO h1 h2 h3 hsz hk => wpAny_pyIter_zip hz ?_
    have I2 : Inv X pins σ H1 { s1 with heap := h' } := I1.kept (t' := s1.toks) hk
    refine ⟨s1.heap.objs.size + 5, _, _, _, H1, rfl, I2, turn_zip3 s1.heap.objs.size p1.lt p2.lt p3.lt, ⟨hz, hTI, ⟨_, _, _, hTO⟩, ItK.new h1, ItK.new h2, ItK.new h3⟩, fun c hcm => ?_, q⟩
    have hle : s1.heap.objs.size ≤ c := by
      have e' : c = s1.heap.objs.size + 5 ∨ c = s1.heap.objs.size + 3 ∨ c = s1.heap.objs.size + 4 ∨ c = s1.heap.objs.size ∨ c = s1.heap.objs.size + 1 ∨ c = s1.heap.objs.size + 2 := by simpa using hcm
      rcases e' with z | z | z | z | z | z
      · rw [z]; exact Nat.le_add_right _ _
      · rw [z]; exact Nat.le_add_right _ _
      · rw [z]; exact Nat.le_add_right _ _
      · rw [z]; exact Nat.le_refl _
      · rw [z]; exact Nat.le_add_right _ _
      · rw [z]; exact Nat.le_add_right _ _
    exact I1.fpOk hle (I1.hok.fresh hle)
/-! ### enumerate -/
set_option maxHeartbeats 1000000 in
theorem meets_enum1 {v : Value} {o : Obj} {H : Heap → Prop} (B : Begins v o H) :
    Meets (Builtin.«enumerate.__new__» ⟨[.type "enumerate", v], []⟩) (fun _ R s => H s.heap ∧
      R (.ok (.ret (.ref (s.heap.push o).objs.size))) { s with heap := (s.heap.push o).push { cls := .type "enumerate", data := .fields #[.none, .bool false, .ref s.heap.objs.size, rawInt 0, .none, .none] } }) :=
  .of_wp fun prog w A R s h => by
    obtain ⟨hp, g, d, tk, os⟩ := s; obtain ⟨h1, h⟩ := h
    have hsub := sub_enumerate
    have q1 : ∀ {A' : Around} {E : Value → Shared → Prop} {Q : Value → Shared → Prop}, Q (.ref hp.objs.size) ⟨hp.push o, g, d, tk, os⟩ → wpAny (model prog w) A' (pyIter v) Q E ⟨hp, g, d, tk, os⟩ :=
      fun q => B.iter prog w _ _ ⟨hp, g, d, tk, os⟩ _ h1 q
    wp_walk using q1
    refine wpAny_stack_any fun st => wpAny_pure ?_
    split
    · rename_i c _ _ _ _ _
      cases (c == Value.type "enumerate")
      · wp_walk using q1
        exact ⟨_, rfl, h⟩
      · wp_walk using q1
        exact ⟨_, rfl, h⟩
    · wp_walk using q1
      exact ⟨_, rfl, h⟩
theorem enum_begins1 {prog : Program} {w : World} {A : Around} {E : Value → Shared → Prop} {s : Shared} {v : Value} {o : Obj} {H : Heap → Prop} {Q : Value → Shared → Prop} (B : Begins v o H) (h1 : H s.heap)
    (h : ∀ h', IsEnum h' (s.heap.objs.size + 1) s.heap.objs.size 0 .none → h'.get? s.heap.objs.size = some o → h'.objs.size = s.heap.objs.size + 2 →
      (∀ b o, s.heap.get? b = some o → h'.get? b = some o) → Q (.ref (s.heap.objs.size + 1)) { s with heap := h' }) :
    wpAny (model prog w) A (call (.type "enumerate") [v]) Q E s := by
  refine callType_new F.called_enumerate (by decide) (F.typeCall_enumerate_1 _) (F.newCall_enumerate_1 _) (fun obj => F.args_object_init_2 obj _) F.entry_enumerate_new
    (meets_enum1 B) ⟨h1, ?_⟩
  have hz : (s.heap.push o).objs.size = s.heap.objs.size + 1 := Heap.size_push ..
  show _ ∧ _
  rw [hz]
  have he : IsEnum ((s.heap.push o).push { cls := .type "enumerate", data := .fields #[.none, .bool false, .ref s.heap.objs.size, rawInt 0, .none, .none] }) (s.heap.objs.size + 1) s.heap.objs.size 0 .none := by
    have := Heap.get?_push_size (s.heap.push o) (o := { cls := .type "enumerate", data := .fields #[.none, .bool false, .ref s.heap.objs.size, rawInt 0, .none, .none] }) rfl
    rw [hz] at this; exact this
  refine ⟨⟨_, he, rfl⟩, h _ he (Heap.get?_push_of_some _ (Heap.get?_push_size _ B.free)) (by rw [Heap.size_push, hz]) fun b o x => Heap.get?_push_of_some _ (Heap.get?_push_of_some _ x)⟩
def IteK (K : PySem.W.Frag) (k : Bool) (a : Addr) : It :=
  ⟨fun i H => ∃ (xs : List V) (x : V), SqK k K H a xs ∧ xs[i]? = some x,
    fun i H v H' => ∃ T x, v = .ref T ∧ H T = none ∧ H' = upd H T (.tup [.int i, x]) ∧ ∀ xs, SqK k K H a xs → xs[i]? = some x,
    fun i H => ∃ xs : List V, SqK k K H a xs ∧ i = xs.length⟩
theorem turn_enumK {P : Program} {w : World} {K : PySem.W.Frag} {elts : List Expr} {kk : Nat} {tpos : Pos} {k : Bool} {a : Addr} (N : Nat) (ha : a < N) :
    Turn P w K (.Tuple elts kk tpos) (IteK K k a) [N + 1, N] (N + 1) (fun i h => (∃ old, IsEnum h (N + 1) N (0 + (i : Int)) old) ∧ ItK k h N a i) where
  mem := by simp
  obj := fun i h st c hc => by
    obtain ⟨⟨old, he⟩, h1⟩ := st
    have e' : c = N + 1 ∨ c = N := by simpa using hc
    rcases e' with q | q
    · rw [q]; exact ⟨_, he, fun v q => nomatch q⟩
    · rw [q]; exact h1.obj
  keep := fun i h h' st k => by
    obtain ⟨⟨old, he⟩, h1⟩ := st
    exact ⟨⟨old, k (N + 1) (by simp) _ he⟩, h1.at fun o q => k N (by simp) o q⟩
  item := by
    intro X hP hw hK hc i pins s σ H E I hf st hg
    subst hP hw hK
    obtain ⟨he, h1⟩ := st
    obtain ⟨xs, x, hqx, hx⟩ := hg
    obtain ⟨its, rv, p⟩ := seqK I hqx
    have W := GoesN.enumFrom (prog := X.prog) (w := X.w) (A := X.A) (elts := elts) (x1 := kk) (pos := tpos) 0 (drawsK (k := k) (A := X.A.in1) (I.ok.hd hc) N (Nat.ne_of_lt ha) its) (N + 1) (Nat.succ_ne_self _) (fun hm => by
      have e' : (N + 1 : Nat) = N ∨ (N + 1 : Nat) = a := by simpa using hm
      rcases e' with q | q
      · exact Nat.succ_ne_self N q
      · rw [← q] at ha
        exact absurd ha (Nat.not_lt.mpr (Nat.le_succ N))) (by simp)
    have l1 := rv.length
    have hi : i < its.length := by
      have q1 := (List.getElem?_eq_some_iff.mp hx).1
      omega
    refine thn (W.goes i s (fun v s2 => ∃ x H', Inv X pins σ H' s2 ∧ RelV x v ∧ (IteK X.K k a).yld i H x H' ∧
      ((∃ old, IsEnum s2.heap (N + 1) N (0 + ((i + 1 : Nat) : Int)) old) ∧ ItK k s2.heap N a (i + 1)) ∧ ∀ c ∈ [N + 1, N], H' c = none) E hi ⟨he, h1, p⟩ fun v h' tk hY st' hk htk => ?_) fun r s1 hr => hr
    obtain ⟨T, t, u, rfl, hT, hu, hTT⟩ := hY
    obtain ⟨z1, z2, _⟩ := st'
    obtain ⟨u', hu', ru⟩ := rv.get hx
    rw [hu] at hu'
    cases hu'
    have new : ObjOk X.prog X.w (upd H T (.tup [.int i, x])) h' T (.tup [.int i, x]) := ⟨by show 2 ≤ sizeLine; decide, [.int (0 + (i : Int)) t, u], .cons ⟨t, by rw [Int.zero_add]⟩ (.cons ru .nil), hTT⟩
    have I1 : Inv X pins σ (upd H T (.tup [.int i, x])) { s with heap := h', toks := tk } := I.turnedNew (ch := [N + 1, N]) (fun c o hb q => hk c o hb q) hf hT new
    refine ⟨.ref T, _, I1, rfl, ⟨T, x, rfl, I.hok.fresh hT, rfl, fun l hl => by rw [seqK_inj I hl hqx]; exact hx⟩, ⟨z1, z2⟩, fun c hcm => ?_⟩
    have hlt : c < s.heap.objs.size := by
      have q : ∃ o, s.heap.get? c = some o := by
        have e' : c = N + 1 ∨ c = N := by simpa using hcm
        obtain ⟨old, he⟩ := he
        obtain ⟨o4, g4, _⟩ := h1.obj
        rcases e' with q | q
        · rw [q]; exact ⟨_, he⟩
        · rw [q]; exact ⟨_, g4⟩
      obtain ⟨o, q⟩ := q
      exact Heap.lt_size q
    rw [upd_ne (Nat.ne_of_lt (Nat.lt_of_lt_of_le hlt hT))]
    exact (hf c hcm).1
  done := by
    intro X hP hw hK hc i pins s σ H E I hf st hg
    subst hP hw hK
    obtain ⟨he, h1⟩ := st
    obtain ⟨xs, hqx, hi⟩ := hg
    obtain ⟨its, rv, p⟩ := seqK I hqx
    have W := GoesN.enumFrom (prog := X.prog) (w := X.w) (A := X.A) (elts := elts) (x1 := kk) (pos := tpos) 0 (drawsK (k := k) (A := X.A.in1) (I.ok.hd hc) N (Nat.ne_of_lt ha) its) (N + 1) (Nat.succ_ne_self _) (fun hm => by
      have e' : (N + 1 : Nat) = N ∨ (N + 1 : Nat) = a := by simpa using hm
      rcases e' with q | q
      · exact Nat.succ_ne_self N q
      · rw [← q] at ha
        exact absurd ha (Nat.not_lt.mpr (Nat.le_succ N))) (by simp)
    have l1 := rv.length
    have hi2 : i = its.length := by omega
    subst hi2
    refine W.stops s (fun s1 => Inv X pins σ H s1) E ⟨he, h1, p⟩ fun h' tk hk htk => ?_
    exact I.turnedL (ch := [N + 1, N]) (fun c o hb q => hk c o hb q) hf
  self := fun A i s Q E st h => by
    obtain ⟨⟨old, he⟩, _⟩ := st
    exact wpAny_pyIter_enum he h
def iEnumK (K : PySem.W.Frag) (ta : TA) : TI := fun σ H R => ta σ H fun vs H1 => ∃ k a xs, vs = [.ref a] ∧ SqK k K H1 a xs ∧ R (IteK K k a) H1
theorem pi_enumK {X : Cx} {e : Expr} {ta : TA} {p pos tpos : Pos} {elts : List Expr} {kk : Nat} (hg : Gl X "enumerate") (hm : X.mg "enumerate" = none) (ha : PA X [e] ta)
    (hs : starEach [e] X.env = (false, eval e X.env) :: starEach [] X.env := by rfl) (hpl : (backTo pos (starEach [] X.env)).any (·.1) = false := by rfl) :
    PI X (.Tuple elts kk tpos) (.Call (.Name "enumerate" p) [e] [] pos) (iEnumK X.K ta) := by
  refine ⟨fun pins s σ H R I h => ?_⟩
  refine Call_ (ld_blt I hg hm (show bootBuiltins "enumerate" = some (.type "enumerate") by decide +kernel) (PyProof.Rows.callWith_type1 (thn (ha.run pos pins s σ H _ I h) fun us s1 ⟨vs, H1, I1, r1, q1⟩ => ?_) hs hpl))
  obtain ⟨k, a, xs, ex, hqx, q⟩ := q1
  subst ex
  obtain ⟨u1, rfl, r2⟩ := vals1 r1
  obtain rfl : u1 = Value.ref a := r2
  obtain ⟨its, rv, p1⟩ := seqK I1 hqx
  refine enum_begins1 (beginsK its) p1 fun h' he h1 hsz hk => wpAny_pyIter_enum he ?_
  have I2 : Inv X pins σ H1 { s1 with heap := h' } := I1.kept (t' := s1.toks) hk
  refine ⟨s1.heap.objs.size + 1, _, _, _, H1, rfl, I2, turn_enumK s1.heap.objs.size p1.lt, ⟨⟨_, he⟩, ItK.new h1⟩, fun c hcm => ?_, q⟩
  have hle : s1.heap.objs.size ≤ c := by
    have e' : c = s1.heap.objs.size + 1 ∨ c = s1.heap.objs.size := by simpa using hcm
    rcases e' with z | z
    · rw [z]; exact Nat.le_add_right _ _
    · rw [z]; exact Nat.le_refl _
  exact I1.fpOk hle (I1.hok.fresh hle)
end L3
end
section
set_option Elab.async false
set_option linter.all false
set_option maxRecDepth 100000
/-! L3d: what is walked, targets, comprehensions over data. -/
namespace L3
open PySem PySem.Spec PyProof.Rows L2
/-! ### what is walked -/
/-- J walks over just these data while F stands -/
structure WalkD (G : Ctx) (F : Hp) (J : It) (ds : List D) : Prop where
  goes : ∀ i H, i < ds.length → Same F H → J.go i H
  stops : ∀ H, Same F H → J.stop ds.length H
  yields : ∀ i H x H', i < ds.length → Same F H → J.yld i H x H' → ∃ d, ds[i]? = some d ∧
    ((H' = H ∧ Rep G F x d) ∨ ∃ T vs es, x = .ref T ∧ H T = none ∧ H' = upd H T (.tup vs) ∧ d = .tup es ∧ Reps G F vs es)
abbrev DI := DEnv → (List D → Prop) → Prop
def tiF (G : Ctx) (t : DI) : TI := fun σ H R => ∃ F δ Q, GE G F δ σ H ∧ t δ Q ∧ ∀ J H' F' ds, Step G F H F' H' → WalkD G F' J ds → Q ds → R J H'
abbrev FI (X : Cx) (G : Ctx) (tg e : Expr) (t : DI) : Prop := PI X tg e (tiF G t)
theorem PI.imp {X : Cx} {tg e : Expr} {t t' : TI} (h : PI X tg e t) (i : ∀ σ H Q, t' σ H Q → t σ H Q) : PI X tg e t' := ⟨fun pins s σ H Q I q => h.run pins s σ H Q I (i σ H Q q)⟩
section
variable {X : Cx} {G : Ctx} {tg e e2 e3 : Expr} {t : DE} {r : DA} {pos p tpos : Pos} {F : Hp} {a b c : Addr} {vs ws us : List V} {ds es fs : List D} {elts : List Expr} {kk : Nat}
theorem walkD_list {K : PySem.W.Frag} (h : F a = some (.lst vs)) (r : Reps G F vs ds) : WalkD G F (Itl K a) ds := by
  have hl := r.length
  refine ⟨fun i H hi s => ⟨vs, vs[i]'(by omega), SqL.of (s _ _ h), by simp⟩, fun H s => ⟨vs, SqL.of (s _ _ h), by omega⟩, fun i H x H' hi s y => ?_⟩
  obtain ⟨e, q⟩ := y
  obtain ⟨d, e1, e2⟩ := r.get' (q vs (SqL.of (s _ _ h)))
  exact ⟨d, e1, .inl ⟨e, e2⟩⟩
theorem walkD_tup {K : PySem.W.Frag} (h : F a = some (.tup vs)) (r : Reps G F vs ds) : WalkD G F (Itt K a) ds := by
  have hl := r.length
  refine ⟨fun i H hi s => ⟨vs, vs[i]'(by omega), SqT.of (s _ _ h), by simp⟩, fun H s => ⟨vs, SqT.of (s _ _ h), by omega⟩, fun i H x H' hi s y => ?_⟩
  obtain ⟨e, q⟩ := y
  obtain ⟨d, e1, e2⟩ := r.get' (q vs (SqT.of (s _ _ h)))
  exact ⟨d, e1, .inl ⟨e, e2⟩⟩
def rangeD (lo : Int) (n : Nat) : List D := (List.range n).map fun (i : Nat) => D.int (lo + i)
theorem walkD_range {lo : Int} {n : Nat} : WalkD G F (Itr lo n) (rangeD lo n) := by
  have hl : (rangeD lo n).length = n := by unfold rangeD; simp
  refine ⟨fun i H hi s => by rw [hl] at hi; exact hi, fun H s => by rw [hl]; exact Nat.le_refl _, fun i H x H' hi s y => ?_⟩
  obtain ⟨e, rfl⟩ := y
  rw [hl] at hi
  exact ⟨.int (lo + i), by unfold rangeD; simp [hi], .inl ⟨e, Rep.int_iff.mpr rfl⟩⟩
/-- a list or a tuple -/
def iSeq (K : PySem.W.Frag) (tl : TE) : TI := fun σ H R => tl σ H fun x H1 => ∃ a, x = .ref a ∧ (((∃ xs, SqL K H1 a xs) ∧ R (Itl K a) H1) ∨ ((∃ xs, SqT K H1 a xs) ∧ R (Itt K a) H1))
theorem pi_seq {l : Expr} {tl : TE} (hl : PE X l tl) : PI X tg l (iSeq X.K tl) := by
  refine ⟨fun pins s σ H R I h => ?_⟩
  refine thn (hl.run pins s σ H _ I h) fun v s1 ⟨x, H1, I1, r1, q1⟩ => ?_
  obtain ⟨a, e, q⟩ := q1
  subst e
  cases r1
  have fresh : ∀ b ∈ [s1.heap.objs.size], FpOk X pins H1 b := fun b hb => by
    have e : b = s1.heap.objs.size := by simpa using hb
    subst e
    exact I1.fpOk (Nat.le_refl _) (I1.hok.fresh (Nat.le_refl _))
  rcases q with ⟨⟨xs, hq⟩, q⟩ | ⟨⟨xs, hq⟩, q⟩
  · obtain ⟨its, rv, p, hz⟩ := I1.list hq
    refine wpAny_pyIter_list p.isList ?_
    exact ⟨s1.heap.objs.size, [s1.heap.objs.size], _, _, H1, rfl, I1.kept (t' := s1.toks) fun b o e => Heap.get?_push_of_some _ e, turn_list a _, ⟨_, Heap.get?_push_size _ rfl, rfl, rfl⟩, fresh, q⟩
  · obtain ⟨its, rv, p, hz⟩ := I1.tuple hq
    refine wpAny_pyIter_tuple (show s1.heap.IsTuple a its.toArray from p) ?_
    exact ⟨s1.heap.objs.size, [s1.heap.objs.size], _, _, H1, rfl, I1.kept (t' := s1.toks) fun b o e => Heap.get?_push_of_some _ e, turn_tuple a _, ⟨_, Heap.get?_push_size _ rfl, rfl, rfl⟩, fresh, q⟩
def dSeqI (t : DE) : DI := fun δ Q => t δ fun x => asSeq x Q
theorem fi_seq (h : FE X G e t) : FI X G tg e (dSeqI t) := PI.imp (pi_seq h) fun σ H R ⟨F, δ, Q, ge, q, k⟩ => ⟨F, δ, _, ge, q, fun v H1 F1 d s1 r1 q1 => by
  obtain ⟨ds, hx, z⟩ := asSeq_iff.mp q1
  rcases hx with rfl | rfl
  · obtain ⟨a, vs, rfl, h1, rv⟩ := Rep.lst_iff.mp r1
    exact ⟨a, rfl, .inl ⟨⟨vs, SqL.of (s1.fix _ _ h1)⟩, k _ H1 F1 ds s1 (walkD_list h1 rv) z⟩⟩
  · obtain ⟨a, vs, rfl, h1, rv⟩ := Rep.tup_iff.mp r1
    exact ⟨a, rfl, .inr ⟨⟨vs, SqT.of (s1.fix _ _ h1)⟩, k _ H1 F1 ds s1 (walkD_tup h1 rv) z⟩⟩⟩
def Rng (i : Int) : Prop := -(2 ^ 62) ≤ i ∧ i < 2 ^ 62
def dRng1 (r : DA) : DI := fun δ Q => r δ fun xs => arg1 xs fun x => asInt x fun n => Rng n ∧ Q (rangeD 0 n.toNat)
def dRng2 (r : DA) : DI := fun δ Q => r δ fun xs => arg2 xs fun x y => asInt x fun m => asInt y fun n => Rng m ∧ Rng n ∧ Q (rangeD m (n - m).toNat)
theorem fi_range1 (hg : Gl X "range") (hm : X.mg "range" = none) (ha : FA X G [e] r) (hs : starEach [e] X.env = [(false, eval e X.env)] := by rfl) : FI X G tg (.Call (.Name "range" p) [e] [] pos) (dRng1 r) :=
  PI.imp (pi_range1 hg hm ha hs) fun σ H R ⟨F, δ, Q, ge, q, k⟩ => ⟨F, δ, _, ge, q, fun vs H1 F1 ds s1 r1 q1 => by
    obtain ⟨x, rfl, z⟩ := arg1_iff.mp q1
    obtain ⟨n, rfl, ⟨h1, h2⟩, z2⟩ := asInt_iff.mp z
    obtain ⟨v, rfl, r2⟩ := reps1 r1
    exact ⟨n, by rw [Rep.int_iff.mp r2], h1, h2, k _ H1 F1 _ s1 walkD_range z2⟩⟩
theorem fi_range2 (hg : Gl X "range") (hm : X.mg "range" = none) (ha : FA X G [e, e2] r) (hs : starEach [e, e2] X.env = [(false, eval e X.env), (false, eval e2 X.env)] := by rfl) (hs2 : starEach [e2] X.env = [(false, eval e2 X.env)] := by rfl) : FI X G tg (.Call (.Name "range" p) [e, e2] [] pos) (dRng2 r) :=
  PI.imp (pi_range2 hg hm ha hs hs2) fun σ H R ⟨F, δ, Q, ge, q, k⟩ => ⟨F, δ, _, ge, q, fun vs H1 F1 ds s1 r1 q1 => by
    obtain ⟨x, y, rfl, z⟩ := arg2_iff.mp q1
    obtain ⟨m, rfl, z2⟩ := asInt_iff.mp z
    obtain ⟨n, rfl, ⟨h1, h2⟩, ⟨h3, h4⟩, z3⟩ := asInt_iff.mp z2
    obtain ⟨v, w, rfl, r2, r3⟩ := reps2 r1
    exact ⟨m, n, by rw [Rep.int_iff.mp r2, Rep.int_iff.mp r3], ⟨h1, h2, h3, h4⟩, k _ H1 F1 _ s1 walkD_range z3⟩⟩
/-! ### enumerate, zip -/
theorem sqK_of {K : PySem.W.Frag} {H : Hp} {x : D} {v : V} (s : Same F H) (r : Rep G F v x) (h : x = .lst ds ∨ x = .tup ds) : ∃ k a vs, v = .ref a ∧ Reps G F vs ds ∧ SqK k K H a vs ∧ (∀ H', Same F H' → SqK k K H' a vs) := by
  rcases h with rfl | rfl
  · obtain ⟨a, vs, rfl, h1, rv⟩ := Rep.lst_iff.mp r
    exact ⟨false, a, vs, rfl, rv, SqL.of (s _ _ h1), fun H' s' => SqL.of (s' _ _ h1)⟩
  · obtain ⟨a, vs, rfl, h1, rv⟩ := Rep.tup_iff.mp r
    exact ⟨true, a, vs, rfl, rv, SqT.of (s _ _ h1), fun H' s' => SqT.of (s' _ _ h1)⟩
def enumD : Nat → List D → List D
  | _, [] => []
  | i, d :: ds => .tup [.int i, d] :: enumD (i + 1) ds
theorem enumD_get : ∀ {ds : List D} {n i : Nat}, (enumD n ds)[i]? = ds[i]?.map fun d => D.tup [.int ((n + i : Nat) : Int), d]
  | [], _, _ => by simp [enumD]
  | d :: ds, n, 0 => by simp [enumD]
  | d :: ds, n, i + 1 => by
    show (enumD (n + 1) ds)[i]? = _
    rw [enumD_get]
    simp only [List.getElem?_cons_succ]
    rw [show n + 1 + i = n + (i + 1) by omega]
theorem enumD_len : ∀ {ds : List D} {n : Nat}, (enumD n ds).length = ds.length
  | [], _ => rfl
  | d :: ds, n => by
    show (enumD (n + 1) ds).length + 1 = _
    rw [enumD_len]
    rfl
def dEnumI (r : DA) : DI := fun δ Q => r δ fun xs => arg1 xs fun x => asSeq x fun ds => Q (enumD 0 ds)
theorem fi_enum (hg : Gl X "enumerate") (hm : X.mg "enumerate" = none) (ha : FA X G [e] r)
    (hs : starEach [e] X.env = (false, eval e X.env) :: starEach [] X.env := by rfl) (hpl : (backTo pos (starEach [] X.env)).any (·.1) = false := by rfl) : FI X G (.Tuple elts kk tpos) (.Call (.Name "enumerate" p) [e] [] pos) (dEnumI r) :=
  PI.imp (pi_enumK hg hm ha hs hpl) fun σ H R ⟨F, δ, Q, ge, q, k⟩ => ⟨F, δ, _, ge, q, fun us H1 F1 xs s1 r1 q1 => by
    obtain ⟨x, rfl, z⟩ := arg1_iff.mp q1
    obtain ⟨ds, hx, z2⟩ := asSeq_iff.mp z
    obtain ⟨v, rfl, r2⟩ := reps1 r1
    obtain ⟨kd, a, vs, rfl, rv, hq, hq'⟩ := sqK_of (K := X.K) s1.fix r2 hx
    refine ⟨kd, a, vs, rfl, hq, k _ H1 F1 _ s1 ?_ z2⟩
    have hl := rv.length
    refine ⟨fun i H hi s => ?_, fun H s => ⟨vs, hq' H s, by rw [enumD_len, hl]⟩, fun i H x H' hi s y => ?_⟩
    · rw [enumD_len] at hi
      exact ⟨vs, vs[i]'(by omega), hq' H s, by simp⟩
    · rw [enumD_len] at hi
      obtain ⟨T, x1, rfl, hT, rfl, hy⟩ := y
      obtain ⟨d, e1, e2⟩ := rv.get' (hy vs (hq' H s))
      refine ⟨.tup [.int i, d], ?_, .inr ⟨T, _, _, rfl, hT, rfl, rfl, .cons (Rep.int_iff.mpr rfl) (.cons e2 .nil)⟩⟩
      rw [enumD_get, e1, Nat.zero_add]
      rfl⟩
def zipD : List D → List D → List D
  | x :: xs, y :: ys => .tup [x, y] :: zipD xs ys
  | _, _ => []
theorem zipD_len : ∀ {xs ys : List D}, (zipD xs ys).length = min xs.length ys.length
  | [], ys => by simp [zipD]
  | x :: xs, [] => by simp [zipD]
  | x :: xs, y :: ys => by
    show (zipD xs ys).length + 1 = _
    rw [zipD_len, List.length_cons, List.length_cons]
    omega
theorem zipD_get : ∀ {xs ys : List D} {i : Nat} {x y : D}, xs[i]? = some x → ys[i]? = some y → (zipD xs ys)[i]? = some (.tup [x, y])
  | [], _, _, _, _, h, _ => by simp at h
  | _ :: _, [], _, _, _, _, h => by simp at h
  | a :: xs, b :: ys, 0, x, y, h, h' => by
    simp at h h'
    subst h h'
    rfl
  | a :: xs, b :: ys, i + 1, x, y, h, h' => zipD_get (xs := xs) (ys := ys) (i := i) (by simpa using h) (by simpa using h')
def dZip2 (r : DA) : DI := fun δ Q => r δ fun xs => arg2 xs fun x y => asSeq x fun ds => asSeq y fun es => Q (zipD ds es)
theorem fi_zip2 (hg : Gl X "zip") (hm : X.mg "zip" = none) (ha : FA X G [e, e2] r)
    (hs : starEach [e, e2] X.env = (false, eval e X.env) :: starEach [e2] X.env := by rfl) (hpl : (backTo pos (starEach [e2] X.env)).any (·.1) = false := by rfl) : FI X G (.Tuple elts kk tpos) (.Call (.Name "zip" p) [e, e2] [] pos) (dZip2 r) :=
  PI.imp (pi_zip2 hg hm ha hs hpl) fun σ H R ⟨F, δ, Q, ge, q, k⟩ => ⟨F, δ, _, ge, q, fun us H1 F1 xs s1 r1 q1 => by
    obtain ⟨x, y, rfl, z⟩ := arg2_iff.mp q1
    obtain ⟨ds, hx, z2⟩ := asSeq_iff.mp z
    obtain ⟨es, hy, z3⟩ := asSeq_iff.mp z2
    obtain ⟨v, w, rfl, r2, r3⟩ := reps2 r1
    obtain ⟨k1, a, vs, rfl, rv, hq, hq'⟩ := sqK_of (K := X.K) s1.fix r2 hx
    obtain ⟨k2, b, ws, rfl, rw', hp, hp'⟩ := sqK_of (K := X.K) s1.fix r3 hy
    refine ⟨k1, k2, a, b, vs, ws, rfl, hq, hp, k _ H1 F1 _ s1 ?_ z3⟩
    have hl := rv.length
    have hl2 := rw'.length
    refine ⟨fun i H hi s => ?_, fun H s => ⟨vs, ws, hq' H s, hp' H s, by rw [zipD_len, hl, hl2]⟩, fun i H x H' hi s y => ?_⟩
    · rw [zipD_len] at hi
      exact ⟨vs, ws, vs[i]'(by omega), ws[i]'(by omega), hq' H s, hp' H s, by simp, by simp⟩
    · obtain ⟨T, x1, y1, rfl, hT, rfl, hy, hy2⟩ := y
      obtain ⟨d, e1, e2⟩ := rv.get' (hy vs (hq' H s))
      obtain ⟨d', e3, e4⟩ := rw'.get' (hy2 ws (hp' H s))
      exact ⟨.tup [d, d'], zipD_get e1 e3, .inr ⟨T, _, _, rfl, hT, rfl, rfl, .cons e2 (.cons e4 .nil)⟩⟩⟩
def zip3D : List D → List D → List D → List D
  | x :: xs, y :: ys, z :: zs => .tup [x, y, z] :: zip3D xs ys zs
  | _, _, _ => []
theorem zip3D_len : ∀ {xs ys zs : List D}, (zip3D xs ys zs).length = min (min xs.length ys.length) zs.length
  | [], ys, zs => by simp [zip3D]
  | x :: xs, [], zs => by simp [zip3D]
  | x :: xs, y :: ys, [] => by simp [zip3D]
  | x :: xs, y :: ys, z :: zs => by
    show (zip3D xs ys zs).length + 1 = _
    rw [zip3D_len, List.length_cons, List.length_cons, List.length_cons]
    omega
theorem zip3D_get : ∀ {xs ys zs : List D} {i : Nat} {x y z : D}, xs[i]? = some x → ys[i]? = some y → zs[i]? = some z → (zip3D xs ys zs)[i]? = some (.tup [x, y, z])
  | [], _, _, _, _, _, _, h, _, _ => by simp at h
  | _ :: _, [], _, _, _, _, _, _, h, _ => by simp at h
  | _ :: _, _ :: _, [], _, _, _, _, _, _, h => by simp at h
  | a :: xs, b :: ys, c :: zs, 0, x, y, z, h, h', h'' => by
    simp at h h' h''
    subst h h' h''
    rfl
  | a :: xs, b :: ys, c :: zs, i + 1, x, y, z, h, h', h'' => zip3D_get (xs := xs) (ys := ys) (zs := zs) (i := i) (by simpa using h) (by simpa using h') (by simpa using h'')
def arg3 (ds : List D) (k : D → D → D → Prop) : Prop := match ds with
  | [x, y, z] => k x y z
  | _ => False
theorem arg3_iff {ds : List D} {k : D → D → D → Prop} : arg3 ds k ↔ ∃ x y z, ds = [x, y, z] ∧ k x y z := by
  unfold arg3
  split
  · rename_i a b c
    exact ⟨fun q => ⟨a, b, c, rfl, q⟩, fun ⟨x, y, z, e, q⟩ => by cases e; exact q⟩
  · rename_i h
    exact ⟨fun q => q.elim, fun ⟨x, y, z, e, _⟩ => h x y z e⟩
def dZip3 (r : DA) : DI := fun δ Q => r δ fun xs => arg3 xs fun x y z => asSeq x fun ds => asSeq y fun es => asSeq z fun fs => Q (zip3D ds es fs)
theorem reps3 {F : Hp} {vs : List V} {d e f : D} (h : Reps G F vs [d, e, f]) : ∃ v w u, vs = [v, w, u] ∧ Rep G F v d ∧ Rep G F w e ∧ Rep G F u f := by
  unfold Reps at h
  obtain ⟨v, r, rfl, h1, h2⟩ := h
  obtain ⟨w, u, rfl, h3, h4⟩ := reps2 h2
  exact ⟨v, w, u, rfl, h1, h3, h4⟩
theorem fi_zip3 (hg : Gl X "zip") (hm : X.mg "zip" = none) (ha : FA X G [e, e2, e3] r)
    (hs : starEach [e, e2, e3] X.env = (false, eval e X.env) :: starEach [e2, e3] X.env := by rfl) (hpl : (backTo pos (starEach [e2, e3] X.env)).any (·.1) = false := by rfl) : FI X G (.Tuple elts kk tpos) (.Call (.Name "zip" p) [e, e2, e3] [] pos) (dZip3 r) :=
  PI.imp (pi_zip3 hg hm ha hs hpl) fun σ H R ⟨F, δ, Q, ge, q, k⟩ => ⟨F, δ, _, ge, q, fun us H1 F1 xs s1 r1 q1 => by
    obtain ⟨x, y, y2, rfl, z⟩ := arg3_iff.mp q1
    obtain ⟨ds, hx, z2⟩ := asSeq_iff.mp z
    obtain ⟨es, hy, z3⟩ := asSeq_iff.mp z2
    obtain ⟨fs, hy2, z4⟩ := asSeq_iff.mp z3
    obtain ⟨v, w, u, rfl, r2, r3, r4⟩ := reps3 r1
    obtain ⟨k1, a, vs, rfl, rv, hq, hq'⟩ := sqK_of (K := X.K) s1.fix r2 hx
    obtain ⟨k2, b, ws, rfl, rw', hp, hp'⟩ := sqK_of (K := X.K) s1.fix r3 hy
    obtain ⟨k3, c, us, rfl, ru', ho, ho'⟩ := sqK_of (K := X.K) s1.fix r4 hy2
    refine ⟨k1, k2, k3, a, b, c, vs, ws, us, rfl, hq, hp, ho, k _ H1 F1 _ s1 ?_ z4⟩
    have hl := rv.length
    have hl2 := rw'.length
    have hl3 := ru'.length
    refine ⟨fun i H hi s => ?_, fun H s => ⟨vs, ws, us, hq' H s, hp' H s, ho' H s, by rw [zip3D_len, hl, hl2, hl3]⟩, fun i H x H' hi s y => ?_⟩
    · rw [zip3D_len] at hi
      exact ⟨vs, ws, us, vs[i]'(by omega), ws[i]'(by omega), us[i]'(by omega), hq' H s, hp' H s, ho' H s, by simp, by simp, by simp⟩
    · obtain ⟨T, x1, y1, z1, rfl, hT, rfl, hy, hy2, hy3⟩ := y
      obtain ⟨d, e1, e2⟩ := rv.get' (hy vs (hq' H s))
      obtain ⟨d', e3, e4⟩ := rw'.get' (hy2 ws (hp' H s))
      obtain ⟨d'', e5, e6⟩ := ru'.get' (hy3 us (ho' H s))
      exact ⟨.tup [d, d', d''], zip3D_get e1 e3 e5, .inr ⟨T, _, _, rfl, hT, rfl, rfl, .cons e2 (.cons e4 (.cons e6 .nil))⟩⟩⟩
end
/-! ### targets -/
/-- a target: which slots get which data -/
abbrev DG := D → Option (List (Nat × D))
def setAll (σ : St) : List Nat → List V → St
  | i :: is, v :: vs => setAll (σ.set i (some v)) is vs
  | _, _ => σ
theorem setAll_length : ∀ {is : List Nat} {vs : List V} {σ : St}, (setAll σ is vs).length = σ.length
  | [], _, _ => rfl
  | _ :: _, [], _ => rfl
  | i :: is, v :: vs, σ => by unfold setAll; rw [setAll_length, List.length_set]
theorem setAll_append : ∀ {is js : List Nat} {vs ws : List V} {σ : St}, is.length = vs.length → setAll σ (is ++ js) (vs ++ ws) = setAll (setAll σ is vs) js ws
  | [], _, [], _, _, _ => rfl
  | [], _, _ :: _, _, _, h => by cases h
  | _ :: _, _, [], _, _, h => by cases h
  | i :: is, js, v :: vs, ws, σ, h => by
    show setAll (σ.set i (some v)) (is ++ js) (vs ++ ws) = setAll (setAll (σ.set i (some v)) is vs) js ws
    exact setAll_append (by simpa using h)
def tgF (G : Ctx) (td : DG) : TG := fun v σ H R => ∃ F d asg, Same F H ∧ Rep G F v d ∧ td d = some asg ∧ ∀ us, Reps G F us (asg.map (·.2)) → R (setAll σ (asg.map (·.1)) us) H
structure FG (X : Cx) (G : Ctx) (tg : Expr) (is : List Nat) (td : DG) : Prop where
  pg : PG X tg (tgF G td)
  sl : ∀ d asg, td d = some asg → asg.map (·.1) = is
def tgsF (G : Ctx) (td : List D → Option (List (Nat × D))) : TGs := fun vs σ H R => ∃ F ds asg, Same F H ∧ Reps G F vs ds ∧ td ds = some asg ∧ ∀ us, Reps G F us (asg.map (·.2)) → R (setAll σ (asg.map (·.1)) us) H
structure FGs (X : Cx) (G : Ctx) (ts : List Expr) (n : Nat) (is : List Nat) (td : List D → Option (List (Nat × D))) : Prop where
  pg : PGs X ts (tgsF G td)
  sl : ∀ d asg, td d = some asg → asg.map (·.1) = is
  ln : ∀ d asg, td d = some asg → d.length = n
def dNm (i : Nat) : DG := fun d => some [(i, d)]
def dsNil : List D → Option (List (Nat × D)) := fun ds => match ds with
  | [] => some []
  | _ => none
def dsCons (t : DG) (r : List D → Option (List (Nat × D))) : List D → Option (List (Nat × D)) := fun ds => match ds with
  | d :: ds => match t d, r ds with
    | some a, some b => some (a ++ b)
    | _, _ => none
  | [] => none
def dTp (r : List D → Option (List (Nat × D))) : DG := fun d => match d with
  | .tup ds => r ds
  | _ => none
section
variable {X : Cx} {G : Ctx} {tg e : Expr} {ts : List Expr} {pos : Pos} {is js : List Nat} {td : DG} {tr : List D → Option (List (Nat × D))} {n : Nat}
theorem PG.imp {t t' : TG} (h : PG X tg t) (i : ∀ v σ H Q, t' v σ H Q → t v σ H Q) : PG X tg t' := ⟨fun pins s σ H v u Q I r q => h.run pins s σ H v u Q I r (i v σ H Q q)⟩
theorem PGs.imp {t t' : TGs} (h : PGs X ts t) (i : ∀ v σ H Q, t' v σ H Q → t v σ H Q) : PGs X ts t' := ⟨fun pins s σ H v u Q I r q => h.run pins s σ H v u Q I r (i v σ H Q q)⟩
theorem fg_name {i : Nat} {x : Str} (hN : X.N.Nodup) (hi : X.N[i]? = some x) (hx : Loc X.env.scope x) (hf : X.fn x = true ∨ X.env.scope.names.lookup x = some .local := by first | exact .inl rfl | exact .inr rfl | assumption) : FG X G (.Name x pos) [i] (dNm i) := by
  refine ⟨PG.imp (pg_name hN hi hx hf) fun v σ H R ⟨F, d, asg, s, r, e, k⟩ => ?_, fun d asg e => by cases e; rfl⟩
  cases e
  exact k [v] (.cons r .nil)
theorem fgs_nil : FGs X G [] 0 [] dsNil := by
  refine ⟨PGs.imp pgs_nil fun vs σ H R ⟨F, ds, asg, s, r, e, k⟩ => ?_, fun d asg e => ?_, fun d asg e => ?_⟩
  · cases ds with
    | nil =>
      cases e
      exact ⟨reps_nil.mp r, k [] .nil⟩
    | cons d ds => cases e
  · cases d with
    | nil => cases e; rfl
    | cons _ _ => cases e
  · cases d with
    | nil => rfl
    | cons _ _ => cases e
theorem dsCons_some {t : DG} {r : List D → Option (List (Nat × D))} {ds : List D} {asg : List (Nat × D)} (h : dsCons t r ds = some asg) : ∃ d ds' a b, ds = d :: ds' ∧ t d = some a ∧ r ds' = some b ∧ asg = a ++ b := by
  cases ds with
  | nil => cases h
  | cons d ds =>
    unfold dsCons at h
    cases e1 : t d with
    | none => simp [e1] at h
    | some a =>
      cases e2 : r ds with
      | none => simp [e1, e2] at h
      | some b =>
        simp [e1, e2] at h
        exact ⟨d, ds, a, b, rfl, e1, e2, h.symm⟩
theorem fgs_cons (h1 : FG X G e is td) (h2 : FGs X G ts n js tr) (hs : (assignEach (e :: ts) X.env).map (·.2) = assign e X.env :: (assignEach ts X.env).map (·.2) := by rfl) : FGs X G (e :: ts) (n + 1) (is ++ js) (dsCons td tr) := by
  refine ⟨PGs.imp (pgs_cons h1.pg h2.pg hs) fun vs σ H R ⟨F, ds, asg, s, r, e, k⟩ => ?_, fun d asg e => ?_, fun d asg e => ?_⟩
  · obtain ⟨d, ds', a, b, rfl, e1, e2, rfl⟩ := dsCons_some e
    unfold Reps at r
    obtain ⟨v, rr, rfl, r1, r2⟩ := r
    refine ⟨v, rr, rfl, F, d, a, s, r1, e1, fun us hu => ?_⟩
    refine ⟨F, ds', b, s, r2, e2, fun ws hw => ?_⟩
    have hl : (a.map (·.1)).length = us.length := by rw [hu.length]; simp
    have := k (us ++ ws) (by rw [List.map_append]; exact hu.append hw)
    rw [List.map_append, setAll_append hl] at this
    exact this
  · obtain ⟨d, ds', a, b, rfl, e1, e2, rfl⟩ := dsCons_some e
    rw [List.map_append, h1.sl d a e1, h2.sl ds' b e2]
  · obtain ⟨d, ds', a, b, rfl, e1, e2, rfl⟩ := dsCons_some e
    rw [List.length_cons, h2.ln ds' b e2]
theorem fg_tup {k : Nat} (hc : X.calm = true) (h : FGs X G ts n is tr) (hn : (assignEach ts X.env).length = n := by rfl) (hst : (assignEach ts X.env).findIdx? (·.1) = none := by rfl) : FG X G (.Tuple ts k pos) is (dTp tr) := by
  refine ⟨PG.imp (pg_tup hc h.pg hn hst) fun v σ H R ⟨F, d, asg, s, r, e, k⟩ => ?_, fun d asg e => ?_⟩
  · cases d with
    | tup ds =>
      obtain ⟨a, vs, rfl, h1, rv⟩ := Rep.tup_iff.mp r
      exact ⟨a, vs, rfl, SqT.of (s _ _ h1), by rw [rv.length]; exact h.ln ds asg e, F, ds, asg, s, rv, e, k⟩
    | _ => cases e
  · cases d with
    | tup ds => exact h.sl ds asg e
    | _ => cases e
end
/-! ### comprehensions -/
def wipeD (δ : DEnv) : List Nat → DEnv
  | [] => δ
  | v :: vs => (wipeD δ vs).set v none
def setD (δ : DEnv) : List (Nat × D) → DEnv
  | [] => δ
  | (i, d) :: r => setD (δ.set i (some d)) r
theorem wipe_get {σ : St} {i : Nat} : ∀ {vs : List Nat}, i ∉ vs → (wipe σ vs)[i]? = σ[i]? := fun h => wipe_out h
theorem wipeD_some {δ : DEnv} {i : Nat} {d : D} : ∀ {vs : List Nat}, (wipeD δ vs)[i]? = some (some d) → δ[i]? = some (some d) ∧ i ∉ vs
  | [], h => ⟨h, by simp⟩
  | v :: vs, h => by
    unfold wipeD at h
    by_cases hi : v = i
    · subst hi
      by_cases hv : v < (wipeD δ vs).length
      · rw [List.getElem?_set_self hv] at h; cases h
      · rw [List.getElem?_eq_none (by simpa using hv)] at h; cases h
    · rw [List.getElem?_set_ne hi] at h
      obtain ⟨h1, h2⟩ := wipeD_some h
      exact ⟨h1, by simp only [List.mem_cons, not_or]; exact ⟨fun e => hi e.symm, h2⟩⟩
section
variable {G : Ctx} {F : Hp} {δ : DEnv} {σ : St} {H : Hp}
theorem wipeD_length : ∀ {vs : List Nat}, (wipeD δ vs).length = δ.length
  | [] => rfl
  | v :: vs => by unfold wipeD; rw [List.length_set, wipeD_length]
theorem GE.wipe (g : GE G F δ σ H) (vs : List Nat) : GE G F (wipeD δ vs) (L2.wipe σ vs) H := ⟨g.fix, g.dr, fun i d e => by
  obtain ⟨e1, h⟩ := wipeD_some e
  obtain ⟨v, e2, r⟩ := g.sl i d e1
  exact ⟨v, by rw [wipe_get h]; exact e2, r⟩, by rw [wipeD_length, wipe_length]; exact g.len⟩
theorem GE.set1 (g : GE G F δ σ H) {i : Nat} {v : V} {d : D} (r : Rep G F v d) : GE G F (δ.set i (some d)) (σ.set i (some v)) H := ⟨g.fix, g.dr, fun j e h => by
  by_cases hj : i = j
  · subst hj
    by_cases hi : i < δ.length
    · rw [List.getElem?_set_self hi] at h
      cases h
      exact ⟨v, List.getElem?_set_self (Nat.lt_of_lt_of_le hi g.len), r⟩
    · rw [List.getElem?_eq_none (by simpa using hi)] at h; cases h
  · rw [List.getElem?_set_ne hj] at h
    obtain ⟨w, e1, r1⟩ := g.sl j e h
    exact ⟨w, by rw [List.getElem?_set_ne hj]; exact e1, r1⟩, by simpa using g.len⟩
theorem GE.setAll : ∀ {asg : List (Nat × D)} {us : List V} {δ : DEnv} {σ : St}, GE G F δ σ H → Reps G F us (asg.map (·.2)) → GE G F (setD δ asg) (L3.setAll σ (asg.map (·.1)) us) H
  | [], us, δ, σ, g, h => by
    have e := reps_nil.mp h
    subst e
    exact g
  | (i, d) :: r, us, δ, σ, g, h => by
    unfold List.map Reps at h
    obtain ⟨v, vs, rfl, h1, h2⟩ := h
    exact GE.setAll (asg := r) (us := vs) (δ := δ.set i (some d)) (σ := σ.set i (some v)) (g.set1 h1) h2
end
theorem wipe_set1 {σ : St} {i : Nat} {o : Option V} : ∀ {vs : List Nat}, i ∈ vs → wipe (σ.set i o) vs = wipe σ vs
  | [], h => by simp at h
  | v :: vs, h => by
    unfold wipe
    by_cases hv : i ∈ vs
    · rw [wipe_set1 hv]
    · have e : i = v := by
        rcases List.mem_cons.mp h with e | e
        · exact e
        · exact absurd e hv
      subst e
      apply List.ext_getElem?
      intro j
      by_cases hj : i = j
      · subst hj
        by_cases hlt : i < σ.length
        · rw [List.getElem?_set_self (by rw [wipe_length, List.length_set]; exact hlt), List.getElem?_set_self (by rw [wipe_length]; exact hlt)]
        · rw [List.getElem?_eq_none (by rw [List.length_set, wipe_length, List.length_set]; omega), List.getElem?_eq_none (by rw [List.length_set, wipe_length]; omega)]
      · rw [List.getElem?_set_ne hj, List.getElem?_set_ne hj]
        -- elsewhere
        have gen : ∀ (us : List Nat), (wipe (σ.set i o) us)[j]? = (wipe σ us)[j]? := by
          intro us
          induction us with
          | nil => show (σ.set i o)[j]? = σ[j]?; rw [List.getElem?_set_ne hj]
          | cons u us ih =>
            show ((wipe (σ.set i o) us).set u none)[j]? = ((wipe σ us).set u none)[j]?
            rw [List.getElem?_set, List.getElem?_set, ih, wipe_length, wipe_length, List.length_set]
        exact gen vs
theorem wipe_setAll {vs : List Nat} : ∀ {is : List Nat} {us : List V} {σ : St}, (∀ i ∈ is, i ∈ vs) → wipe (setAll σ is us) vs = wipe σ vs
  | [], _, _, _ => rfl
  | _ :: _, [], _, _ => rfl
  | i :: is, u :: us, σ, h => by
    unfold setAll
    rw [wipe_setAll fun j hj => h j (List.mem_cons_of_mem _ hj), wipe_set1 (h i List.mem_cons_self)]
theorem wipe_wipe {σ : St} : ∀ {vs ws : List Nat}, (∀ i ∈ ws, i ∈ vs) → wipe (wipe σ ws) vs = wipe σ vs
  | vs, [], _ => rfl
  | vs, w :: ws, h => by
    show wipe ((wipe σ ws).set w none) vs = _
    rw [wipe_set1 (h w List.mem_cons_self), wipe_wipe fun i hi => h i (List.mem_cons_of_mem _ hi)]
/-- the comprehension's list, from the data that are left and the list so far -/
def dLcL (td : DG) (tt : DT) (te : DE) (δ : DEnv) : List D → List D → (List D → Prop) → Prop
  | [], acc, Q => Q acc
  | d :: ds, acc, Q => ∃ asg, td d = some asg ∧ tt (setD δ asg) fun b => if b = true then te (setD δ asg) fun y => acc.length < sizeLine ∧ dLcL td tt te δ ds (acc ++ [y]) Q else dLcL td tt te δ ds acc Q
def dLc (ti : DI) (td : DG) (tt : DT) (te : DE) (vs : List Nat) : DA := fun δ Q => ti δ fun ds => dLcL td tt te (wipeD δ vs) ds [] Q
abbrev FTs (X : Cx) (G : Ctx) (ifs : List Expr) (t : DT) : Prop := PTs X ifs (ttF G t)
def dYes : DT := fun _ Q => Q true
section
variable {X : Cx} {G : Ctx} {elt tg iter : Expr} {ifs : List Expr} {scope : Scope} {own : List (Str × Nat)} {pos : Pos} {ti : DI} {is : List Nat} {td : DG} {tt : DT} {te : DE}
theorem fts_nil : FTs X G [] dYes := ⟨fun pins s σ H R I ⟨F, δ, Q, g, q, k⟩ => wpAny_tests_nil ⟨H, I, k true H F g.rfl q⟩⟩
theorem fts_one {c : Expr} (h : FT X G c tt) : FTs X G [c] tt := pts_one h
/-- the reading of a comprehension's loop -/
theorem lc_read {K : PySem.W.Frag} {J : It} {vs : List Nat} {ds : List D} {F0 H0 F1 H1 : Hp} {δ : DEnv} {σ : St} {Q : List D → Prop} {R : VK} (hsl : ∀ d asg, td d = some asg → asg.map (·.1) = is) (hsub : ∀ i ∈ is, i ∈ vs) (g0 : GE G F0 δ σ H0) (s0 : Step G F0 H0 F1 H1) (w : WalkD G F1 J ds)
    (q : dLcL td tt te (wipeD δ vs) ds [] Q) (k : ∀ p us H' F' es, Step G F0 H0 F' H' → H0 p = none → F' p = none → ¬ Dr G p → H' p = some (.lst us) → Reps G F' us es → Q es → R (.ref p) H') (D : Addr) (hD : H1 D = none) :
    ∃ W : Nat → Nat → Hp → Prop, (∃ m, W 0 m (upd H1 D (.lst []))) ∧ ∀ i m H, W i m H →
      (J.stop i H ∧ R (.ref D) H) ∨ (J.go i H ∧ ∃ Nx : Hp → Prop, (∀ H', Nx H' → ∃ m', m' < m ∧ W (i + 1) m' H') ∧ ∀ x H', J.yld i H x H' → tgF G td x (wipe σ vs) H' fun σ2 H2 => wipe σ2 vs = wipe σ vs ∧ ttF G tt σ2 H2 fun b H3 =>
        if b = true then teF G te σ2 H3 fun y H4 => ∃ acc, H4 D = some (.lst acc) ∧ acc.length < sizeLine ∧ Nx (upd H4 D (.lst (acc ++ [y]))) else Nx H3) := by
  have nd : ¬ Dr G D := s0.dr.nd hD
  refine ⟨fun i m H => m = ds.length - i ∧ i ≤ ds.length ∧ ∃ Fi us acc, Step G F1 H1 Fi H ∧ Fi D = none ∧ H D = some (.lst us) ∧ Reps G Fi us acc ∧ dLcL td tt te (wipeD δ vs) (ds.drop i) acc Q,
    ⟨ds.length, by simp, Nat.zero_le _, F1, [], [], Step.new_ s0.fix s0.dr hD, s0.fix.free hD, upd_same, .nil, by rw [List.drop_zero]; exact q⟩, ?_⟩
  rintro i m H ⟨rfl, hi, Fi, us, acc, si, fD, hHD, ra, qi⟩
  have sm : Same F1 H := fun a o e => si.fix a o (si.grow a o e)
  by_cases hlt : i < ds.length
  · refine .inr ⟨w.goes i H hlt sm, fun H' => i + 1 ≤ ds.length ∧ ∃ Fi us acc, Step G F1 H1 Fi H' ∧ Fi D = none ∧ H' D = some (.lst us) ∧ Reps G Fi us acc ∧ dLcL td tt te (wipeD δ vs) (ds.drop (i + 1)) acc Q,
      fun H' ⟨h1, h2⟩ => ⟨ds.length - (i + 1), by omega, rfl, h1, h2⟩, fun x H' y => ?_⟩
    obtain ⟨d, ed, hy⟩ := w.yields i H x H' hlt sm y
    have edrop : ds.drop i = d :: ds.drop (i + 1) := by
      obtain ⟨h1, h2⟩ := List.getElem?_eq_some_iff.mp ed
      rw [← h2, List.drop_eq_getElem_cons h1]
    rw [edrop] at qi
    obtain ⟨asg, ea, qt⟩ := qi
    -- the item is fixed
    obtain ⟨Fy, sy, ry, fyD, hyD⟩ : ∃ Fy, Step G Fi H Fy H' ∧ Rep G Fy x d ∧ Fy D = none ∧ H' D = some (.lst us) := by
      rcases hy with ⟨rfl, r⟩ | ⟨T, vs', es, rfl, hT, rfl, rfl, r⟩
      · exact ⟨Fi, Step.refl si.fix si.dr, r.mono si.grow, fD, hHD⟩
      · have sa := Step.alloc (o := .tup vs') si.fix si.dr hT
        have ne : D ≠ T := ne_of_none hHD hT
        exact ⟨_, sa, Rep.tup_iff.mpr ⟨T, vs', rfl, upd_same, (r.mono si.grow).mono sa.grow⟩, by rw [upd_ne ne]; exact fD, by rw [upd_ne ne]; exact hHD⟩
    have s1y := si.trans s0.dr sy
    refine ⟨Fy, d, asg, sy.fix, ry, ea, fun ws hw => ⟨?_, ?_⟩⟩
    · rw [wipe_setAll (by rw [hsl d asg ea]; exact hsub), wipe_wipe fun i hi => hi]
    · have gw : GE G Fy (wipeD δ vs) (wipe σ vs) H' := ((g0.wipe vs).step s0).step s1y
      have g2 : GE G Fy (setD (wipeD δ vs) asg) (setAll (wipe σ vs) (asg.map (·.1)) ws) H' := GE.setAll gw hw
      refine ⟨Fy, _, _, g2, qt, fun b H3 F3 s3 qb => ?_⟩
      have keepD : ∀ {Fa Ha Fb Hb : Hp}, Step G Fa Ha Fb Hb → Fa D = none → Ha D = some (.lst us) → Fb D = none ∧ Hb D = some (.lst us) := fun {Fa Ha Fb Hb} st f h => by
        refine ⟨?_, st.same _ _ h nd⟩
        cases e : Fb D with
        | none => rfl
        | some o =>
          rcases st.new D o e with z | z
          · rw [f] at z; cases z
          · rw [h] at z; cases z
      obtain ⟨f3D, h3D⟩ := keepD s3 fyD hyD
      have s13 := s1y.trans s0.dr s3
      cases b with
      | false =>
        rw [if_neg Bool.false_ne_true] at qb
        dsimp only
        rw [if_neg Bool.false_ne_true]
        exact ⟨hlt, F3, us, acc, s13, f3D, h3D, (ra.mono sy.grow).mono s3.grow, qb⟩
      | true =>
        rw [if_pos rfl] at qb
        dsimp only
        rw [if_pos rfl]
        refine ⟨F3, _, _, g2.step s3, qb, fun v H4 F4 d' s4 r4 q4 => ?_⟩
        obtain ⟨f4D, h4D⟩ := keepD s4 f3D h3D
        have s14 := s13.trans s0.dr s4
        have ra4 := ((ra.mono sy.grow).mono s3.grow).mono s4.grow
        refine ⟨us, h4D, by rw [ra.length]; exact q4.1, hlt, F4, us ++ [v], acc ++ [d'], ?_, f4D, upd_same, ra4.append (.cons r4 .nil), q4.2⟩
        refine ⟨fun a o e n => ?_, s14.grow, s14.new, fun a o e => ?_, fun x l c e => ?_⟩
        · rw [upd_ne (ne_of_none e hD)]
          exact s14.same a o e n
        · rw [upd_ne (ne_of_none e f4D)]
          exact s14.fix a o e
        · obtain ⟨z1, z2⟩ := s14.dr x l c e
          refine ⟨?_, z2⟩
          obtain ⟨r, t, ls, cs, h5, h6, h7, h8⟩ := z1.ex
          exact ⟨r, t, ls, cs, by rw [upd_ne (fun z => nd ⟨x, l, c, e, .inl z.symm⟩)]; exact h5, by rw [upd_ne (fun z => nd ⟨x, l, c, e, .inr (.inl z.symm)⟩)]; exact h6, by rw [upd_ne (fun z => nd ⟨x, l, c, e, .inr (.inr z.symm)⟩)]; exact h7, h8⟩
  · have e : i = ds.length := by omega
    subst e
    rw [List.drop_length] at qi
    exact .inl ⟨w.stops H sm, k D us H Fi acc (s0.trans g0.dr si) (s0.dom g0.dr hD) fD nd hHD ra qi⟩
theorem fo_lc (hc : X.calm = true) (hN : X.N.Nodup) (hi : FI X G tg iter ti) (ok : BlkOk X.N X.env.scope scope own)
    (hg : ∀ (s : Shared) (H : Hp) (C : Addr) (cl : List (Str × Addr)) (fp : List Addr), FG (X.blk s H scope (compEnvC scope cl C X.env) fp) G tg is td)
    (ht : ∀ (s : Shared) (H : Hp) (C : Addr) (cl : List (Str × Addr)) (fp : List Addr), FTs (X.blk s H scope (compEnvC scope cl C X.env) fp) G ifs tt)
    (he : ∀ (s : Shared) (H : Hp) (C : Addr) (cl : List (Str × Addr)) (fp : List Addr), FE (X.blk s H scope (compEnvC scope cl C X.env) fp) G elt te)
    (hsub : ∀ i ∈ is, i ∈ own.map (·.2)) (hs : ∀ x, foldedSetIterable iter X.env x = pure x := by intro _; rfl) : FO X G (.ListComp elt [⟨tg, iter, ifs, 0⟩] scope pos) (dLc ti td tt te (own.map (·.2))) :=
  ⟨fun pins s σ H R I ⟨F, δ, Q, ge, q, k⟩ => (pe_lc hc hN hi ok (fun s H C cl fp => (hg s H C cl fp).pg) ht he hs).run pins s σ H R I ⟨F, δ, _, ge, q, fun J H1 F1 ds s1 w q1 D hD =>
    lc_read (K := X.K) (fun d asg e => (hg s H 0 [] []).sl d asg e) hsub ge s1 w q1 k D hD⟩⟩
end
end L3
end
section
set_option Elab.async false
set_option linter.all false
set_option maxRecDepth 100000
/-! L3e: statements and defs over data. A slot holds fixed data (sh), a list of the def's own that it may change (ow), or an instance in the making (oi). -/
namespace L3
open PySem PySem.Spec PyProof.Rows L2
inductive S where
  | sh (d : D)
  | ow (xs : List D)
  | oi (p dx : Addr) (c : Nat) (fs : List D)
def S.own : S → Bool
  | .sh _ => false
  | _ => true
abbrev EnvS := List (Option S)
def shO : Option S → Option D
  | some (.sh d) => some d
  | _ => none
def alO : Option S → Option D
  | some (.sh d) => some d
  | some (.ow xs) => some (.lst xs)
  | some (.oi _ _ c fs) => some (.obj c fs)
  | none => none
/-- the fixed slots; all slots, as data -/
def shOf (ρ : EnvS) : DEnv := ρ.map shO
def alOf (ρ : EnvS) : DEnv := ρ.map alO
def flat : D → Prop
  | .non => True
  | .bl _ => True
  | .int _ => True
  | .str _ => True
  | _ => False
def RepS (G : Ctx) (F H H0 : Hp) (v : V) : S → Prop
  | .sh d => Rep G F v d
  | .ow ds => ∃ p vs, v = .ref p ∧ H p = some (.lst vs) ∧ Reps G F vs ds ∧ F p = none ∧ H0 p = none ∧ ¬ Dr G p
  | .oi p dx c ds => ∃ vs, v = .ref p ∧ H p = some (.ins (G.tb.ca c) dx ((G.tb.fn c).zip vs)) ∧ vs.length ≤ (G.tb.fn c).length ∧ Reps G F vs ds ∧ F p = none ∧ H0 p = none ∧ ¬ Dr G p
theorem RepS.at {G : Ctx} {F H H0 : Hp} {v : V} {s : S} (r : RepS G F H H0 v s) (o : s.own = true) : ∃ p u, v = .ref p ∧ H p = some u ∧ F p = none ∧ H0 p = none ∧ ¬ Dr G p := by
  cases s with
  | sh d => cases o
  | ow ds =>
    obtain ⟨p, vs, e, h1, _, h2, h3, h4⟩ := r
    exact ⟨p, _, e, h1, h2, h3, h4⟩
  | oi p dx c ds =>
    obtain ⟨vs, e, h1, _, _, h2, h3, h4⟩ := r
    exact ⟨p, _, e, h1, h2, h3, h4⟩
theorem RepS.mono {G : Ctx} {F F' H H' H0 : Hp} {v : V} {s : S} (r : RepS G F H H0 v s) (hs : Same F F') (hf : ∀ p u, H p = some u → F p = none → ¬ Dr G p → F' p = none ∧ H' p = some u) : RepS G F' H' H0 v s := by
  cases s with
  | sh d => exact Rep.mono hs r
  | ow ds =>
    obtain ⟨p, vs, e, h1, h5, h2, h3, h4⟩ := r
    obtain ⟨a, b⟩ := hf p _ h1 h2 h4
    exact ⟨p, vs, e, b, h5.mono hs, a, h3, h4⟩
  | oi p dx c ds =>
    obtain ⟨vs, e, h1, h6, h5, h2, h3, h4⟩ := r
    obtain ⟨a, b⟩ := hf p _ h1 h2 h4
    exact ⟨vs, e, b, h6, h5.mono hs, a, h3, h4⟩
/-- the slots show the environment; F0, H0: the fixed part and the heap at the def's entry -/
structure GS (G : Ctx) (F0 H0 F : Hp) (ρ : EnvS) (σ : St) (H : Hp) : Prop where
  st : Step G F0 H0 F H
  dr0 : DrOk G F0 H0
  sl : ∀ (i : Nat) (s : S), ρ[i]? = some (some s) → ∃ v, σ[i]? = some (some v) ∧ RepS G F H H0 v s
  ap : ∀ (i j : Nat) (s t : S) (p : Addr), ρ[i]? = some (some s) → ρ[j]? = some (some t) → s.own = true → t.own = true → σ[i]? = some (some (.ref p)) → σ[j]? = some (some (.ref p)) → i = j
  len : ρ.length = σ.length
section
variable {G : Ctx} {F0 H0 F F' : Hp} {ρ : EnvS} {σ : St} {H H' : Hp}
theorem shOf_get {i : Nat} {d : D} (h : (shOf ρ)[i]? = some (some d)) : ρ[i]? = some (some (.sh d)) := by
  unfold shOf at h
  rw [List.getElem?_map] at h
  obtain ⟨o, e1, e2⟩ := Option.map_eq_some_iff.mp h
  rw [e1]
  cases o with
  | none => cases e2
  | some s =>
    cases s with
    | sh d' => cases e2; rfl
    | ow _ => cases e2
    | oi _ _ _ _ => cases e2
theorem GS.geP (g : GS G F0 H0 F ρ σ H) : GE G F (shOf ρ) σ H := ⟨g.st.fix, g.st.dr, fun i d e => g.sl i _ (shOf_get e), by unfold shOf; rw [List.length_map]; exact Nat.le_of_eq g.len⟩
theorem GS.afterP (g : GS G F0 H0 F ρ σ H) (s : Step G F H F' H') : GS G F0 H0 F' ρ σ H' := by
  refine ⟨g.st.trans g.dr0 s, g.dr0, fun i x e => ?_, g.ap, g.len⟩
  obtain ⟨v, e1, r⟩ := g.sl i x e
  refine ⟨v, e1, r.mono s.grow fun p u h1 h2 h3 => ⟨?_, s.same _ _ h1 h3⟩⟩
  cases q : F' p with
  | none => rfl
  | some o =>
    rcases s.new p o q with z | z
    · rw [h2] at z
      cases z
    · rw [h1] at z
      cases z
/-- an address that an own slot holds -/
def OwnAt (ρ : EnvS) (σ : St) (a : Addr) : Prop := ∃ (i : Nat) (s : S), ρ[i]? = some (some s) ∧ s.own = true ∧ σ[i]? = some (some (V.ref a))
open Classical in
/-- all own slots' objects fixed -/
noncomputable def FAll (ρ : EnvS) (σ : St) (F H : Hp) : Hp := fun a => if OwnAt ρ σ a then H a else F a
theorem GS.own (g : GS G F0 H0 F ρ σ H) {a : Addr} (h : OwnAt ρ σ a) : ∃ u, H a = some u ∧ F a = none ∧ H0 a = none ∧ ¬ Dr G a := by
  obtain ⟨i, s, e1, o, e2⟩ := h
  obtain ⟨v, e3, r⟩ := g.sl i s e1
  obtain ⟨p, u, rfl, h1, h2, h3, h4⟩ := r.at o
  rw [e2] at e3
  cases e3
  exact ⟨u, h1, h2, h3, h4⟩
theorem GS.all_same (g : GS G F0 H0 F ρ σ H) : Same F (FAll ρ σ F H) := fun a o e => by
  have hn : ¬ OwnAt ρ σ a := fun h => by
    obtain ⟨_, _, h2, _⟩ := g.own h
    rw [h2] at e; cases e
  unfold FAll
  rw [if_neg hn]
  exact e
theorem GS.all_step (g : GS G F0 H0 F ρ σ H) : Step G F0 H0 (FAll ρ σ F H) H := by
  refine ⟨g.st.same, fun a o e => g.all_same a o (g.st.grow a o e), fun a o e => ?_, fun a o e => ?_, fun d l c e => ?_⟩
  · unfold FAll at e
    by_cases h : OwnAt ρ σ a
    · exact .inr (g.own h).choose_spec.2.2.1
    · rw [if_neg h] at e
      exact g.st.new a o e
  · unfold FAll at e
    by_cases h : OwnAt ρ σ a
    · rw [if_pos h] at e; exact e
    · rw [if_neg h] at e; exact g.st.fix a o e
  · obtain ⟨h1, h2, h3, h4⟩ := g.st.dr d l c e
    have no : ∀ a, (a = d ∨ a = l ∨ a = c) → ¬ OwnAt ρ σ a := fun a ha h => (g.own h).choose_spec.2.2.2 ⟨d, l, c, e, ha⟩
    unfold FAll
    exact ⟨h1, by rw [if_neg (no d (.inl rfl))]; exact h2, by rw [if_neg (no l (.inr (.inl rfl)))]; exact h3, by rw [if_neg (no c (.inr (.inr rfl)))]; exact h4⟩
theorem GS.geA (g : GS G F0 H0 F ρ σ H) : GE G (FAll ρ σ F H) (alOf ρ) σ H := by
  refine ⟨g.all_step.fix, g.all_step.dr, fun i d e => ?_, by unfold alOf; rw [List.length_map]; exact Nat.le_of_eq g.len⟩
  unfold alOf at e
  rw [List.getElem?_map] at e
  obtain ⟨o, e1, e2⟩ := Option.map_eq_some_iff.mp e
  cases o with
  | none => cases e2
  | some s =>
    obtain ⟨v, e3, r⟩ := g.sl i s e1
    refine ⟨v, e3, ?_⟩
    cases s with
    | sh d' =>
      cases e2
      exact Rep.mono g.all_same r
    | ow ds =>
      cases e2
      obtain ⟨p, vs, rfl, h1, h2, _⟩ := r
      refine Rep.lst_iff.mpr ⟨p, vs, rfl, ?_, h2.mono g.all_same⟩
      unfold FAll
      rw [if_pos ⟨i, _, e1, rfl, e3⟩]
      exact h1
    | oi p dx c ds =>
      cases e2
      obtain ⟨vs, rfl, h1, h3, h2, _⟩ := r
      refine Rep.obj_iff.mpr ⟨p, dx, vs, rfl, ?_, h3, h2.mono g.all_same⟩
      unfold FAll
      rw [if_pos ⟨i, _, e1, rfl, e3⟩]
      exact h1
/-- behind an expression that was read with all slots, its value flat -/
theorem GS.afterF (g : GS G F0 H0 F ρ σ H) (s : Step G (FAll ρ σ F H) H F' H') : GS G F0 H0 F ρ σ H' := by
  have sm : Same F F' := fun a o e => s.grow a o (g.all_same a o e)
  refine ⟨⟨g.st.same.trans s.same, g.st.grow, g.st.new, fun a o e => s.fix a o (sm a o e), fun d l c e => ?_⟩, g.dr0, fun i x e => ?_, g.ap, g.len⟩
  · obtain ⟨h1, _⟩ := s.dr d l c e
    exact ⟨h1, (g.st.dr d l c e).2⟩
  · obtain ⟨v, e1, r⟩ := g.sl i x e
    exact ⟨v, e1, r.mono (fun _ _ z => z) fun p u h1 h2 h3 => ⟨h2, s.same _ _ h1 h3⟩⟩
theorem GS.setSh (g : GS G F0 H0 F ρ σ H) {i : Nat} {v : V} {d : D} (r : Rep G F v d) : GS G F0 H0 F (ρ.set i (some (.sh d))) (σ.set i (some v)) H := by
  refine ⟨g.st, g.dr0, fun j s e => ?_, fun j k s t p e1 e2 o1 o2 e3 e4 => ?_, by simpa using g.len⟩
  · by_cases hj : i = j
    · subst hj
      by_cases hi : i < ρ.length
      · rw [List.getElem?_set_self hi] at e
        cases e
        exact ⟨v, List.getElem?_set_self (g.len ▸ hi), r⟩
      · rw [List.getElem?_eq_none (by simpa using hi)] at e; cases e
    · rw [List.getElem?_set_ne hj] at e
      obtain ⟨w, e1, r1⟩ := g.sl j s e
      exact ⟨w, by rw [List.getElem?_set_ne hj]; exact e1, r1⟩
  · have hj : i ≠ j := by
      rintro rfl
      by_cases hi : i < ρ.length
      · rw [List.getElem?_set_self hi] at e1; cases e1; cases o1
      · rw [List.getElem?_eq_none (by simpa using hi)] at e1; cases e1
    have hk : i ≠ k := by
      rintro rfl
      by_cases hi : i < ρ.length
      · rw [List.getElem?_set_self hi] at e2; cases e2; cases o2
      · rw [List.getElem?_eq_none (by simpa using hi)] at e2; cases e2
    rw [List.getElem?_set_ne hj] at e1 e3
    rw [List.getElem?_set_ne hk] at e2 e4
    exact g.ap j k s t p e1 e2 o1 o2 e3 e4
theorem GS.setOw (g : GS G F0 H0 F ρ σ H) {i : Nat} {p : Addr} {vs : List V} {ds : List D} (h1 : H p = some (.lst vs)) (r : Reps G F vs ds) (h2 : F p = none) (h3 : H0 p = none) (h4 : ¬ Dr G p) (h5 : ∀ a, OwnAt ρ σ a → a ≠ p) :
    GS G F0 H0 F (ρ.set i (some (.ow ds))) (σ.set i (some (.ref p))) H := by
  refine ⟨g.st, g.dr0, fun j s e => ?_, fun j k s t q e1 e2 o1 o2 e3 e4 => ?_, by simpa using g.len⟩
  · by_cases hj : i = j
    · subst hj
      by_cases hi : i < ρ.length
      · rw [List.getElem?_set_self hi] at e
        cases e
        exact ⟨.ref p, List.getElem?_set_self (g.len ▸ hi), p, vs, rfl, h1, r, h2, h3, h4⟩
      · rw [List.getElem?_eq_none (by simpa using hi)] at e; cases e
    · rw [List.getElem?_set_ne hj] at e
      obtain ⟨w, e1, r1⟩ := g.sl j s e
      exact ⟨w, by rw [List.getElem?_set_ne hj]; exact e1, r1⟩
  · by_cases hj : i = j
    · by_cases hk : i = k
      · rw [← hj, ← hk]
      · exfalso
        subst hj
        rw [List.getElem?_set_ne hk] at e2 e4
        have : i < σ.length := by
          by_cases hi : i < σ.length
          · exact hi
          · rw [List.getElem?_eq_none (by simpa using hi)] at e3; cases e3
        rw [List.getElem?_set_self this] at e3
        cases e3
        exact h5 p ⟨k, t, e2, o2, e4⟩ rfl
    · rw [List.getElem?_set_ne hj] at e1 e3
      by_cases hk : i = k
      · exfalso
        subst hk
        have : i < σ.length := by
          by_cases hi : i < σ.length
          · exact hi
          · rw [List.getElem?_eq_none (by simpa using hi)] at e4; cases e4
        rw [List.getElem?_set_self this] at e4
        cases e4
        exact h5 p ⟨j, s, e1, o1, e3⟩ rfl
      · rw [List.getElem?_set_ne hk] at e2 e4
        exact g.ap j k s t q e1 e2 o1 o2 e3 e4
/-- an own object is changed -/
theorem GS.mut (g : GS G F0 H0 F ρ σ H) {i : Nat} {s s' : S} {p : Addr} {o : HO} (e : ρ[i]? = some (some s)) (hw : s.own = true) (hw' : s'.own = true) (ev : σ[i]? = some (some (.ref p)))
    (r : RepS G F (upd H p o) H0 (.ref p) s') : GS G F0 H0 F (ρ.set i (some s')) σ (upd H p o) := by
  obtain ⟨u, h1, h2, h3, h4⟩ := g.own ⟨i, s, e, hw, ev⟩
  have hi : i < ρ.length := (List.getElem?_eq_some_iff.mp e).1
  refine ⟨⟨fun a x z n => ?_, g.st.grow, g.st.new, fun a x z => ?_, fun d l c z => ?_⟩, g.dr0, fun j t ej => ?_, fun j k t t' q e1 e2 o1 o2 e3 e4 => ?_, by simpa using g.len⟩
  · rw [upd_ne (ne_of_none z h3)]
    exact g.st.same a x z n
  · rw [upd_ne (ne_of_none z h2)]
    exact g.st.fix a x z
  · obtain ⟨z1, z2⟩ := g.st.dr d l c z
    refine ⟨?_, z2⟩
    obtain ⟨r, t, ls, cs, h5, h6, h7, h8⟩ := z1.ex
    exact ⟨r, t, ls, cs, by rw [upd_ne (fun y => h4 ⟨d, l, c, z, .inl y.symm⟩)]; exact h5, by rw [upd_ne (fun y => h4 ⟨d, l, c, z, .inr (.inl y.symm)⟩)]; exact h6, by rw [upd_ne (fun y => h4 ⟨d, l, c, z, .inr (.inr y.symm)⟩)]; exact h7, h8⟩
  · by_cases hj : i = j
    · subst hj
      rw [List.getElem?_set_self hi] at ej
      cases ej
      exact ⟨_, ev, r⟩
    · rw [List.getElem?_set_ne hj] at ej
      obtain ⟨v, e1, r1⟩ := g.sl j t ej
      refine ⟨v, e1, ?_⟩
      cases t with
      | sh d => exact r1
      | ow ds =>
        obtain ⟨q, vs, rfl, k1, k⟩ := r1
        have ne : q ≠ p := fun z => hj (g.ap i j s _ p e ej hw rfl ev (by rw [← z]; exact e1))
        exact ⟨q, vs, rfl, by rw [upd_ne ne]; exact k1, k⟩
      | oi q dx c ds =>
        obtain ⟨vs, rfl, k1, k⟩ := r1
        have ne : q ≠ p := fun z => hj (g.ap i j s _ p e ej hw rfl ev (by rw [← z]; exact e1))
        exact ⟨vs, rfl, by rw [upd_ne ne]; exact k1, k⟩
  · have back : ∀ (m : Nat) (t : S), (ρ.set i (some s'))[m]? = some (some t) → t.own = true → ∃ t0 : S, ρ[m]? = some (some t0) ∧ t0.own = true := fun m t em om => by
      by_cases hm : i = m
      · subst hm; exact ⟨s, e, hw⟩
      · rw [List.getElem?_set_ne hm] at em; exact ⟨t, em, om⟩
    obtain ⟨t1, a1, a2⟩ := back j t e1 o1
    obtain ⟨t2, b1, b2⟩ := back k t' e2 o2
    exact g.ap j k t1 t2 q a1 b1 a2 b2 e3 e4
/-- an own list is fixed -/
theorem GS.freeze (g : GS G F0 H0 F ρ σ H) {i : Nat} {ds : List D} (e : ρ[i]? = some (some (.ow ds))) : ∃ F', Same F F' ∧ GS G F0 H0 F' (ρ.set i (some (.sh (.lst ds)))) σ H := by
  obtain ⟨v, ev, p, vs, rfl, h1, hr, h2, h3, h4⟩ := g.sl i _ e
  have hi : i < ρ.length := (List.getElem?_eq_some_iff.mp e).1
  have sm : Same F (upd F p (.lst vs)) := same_upd' h2
  refine ⟨_, sm, g.st.freeze h3 h2 h4 h1, g.dr0, fun j t ej => ?_, fun j k t t' q e1 e2 o1 o2 e3 e4 => ?_, by simpa using g.len⟩
  · by_cases hj : i = j
    · subst hj
      rw [List.getElem?_set_self hi] at ej
      cases ej
      exact ⟨_, ev, Rep.lst_iff.mpr ⟨p, vs, rfl, upd_same, hr.mono sm⟩⟩
    · rw [List.getElem?_set_ne hj] at ej
      obtain ⟨v, e1, r1⟩ := g.sl j t ej
      refine ⟨v, e1, ?_⟩
      cases t with
      | sh d => exact Rep.mono sm r1
      | ow ds' =>
        obtain ⟨q, ws, rfl, k1, k2, k3, k⟩ := r1
        have ne : q ≠ p := fun z => hj (g.ap i j _ _ p e ej rfl rfl ev (by rw [← z]; exact e1))
        exact ⟨q, ws, rfl, k1, k2.mono sm, by rw [upd_ne ne]; exact k3, k⟩
      | oi q dx c ds' =>
        obtain ⟨ws, rfl, k1, k5, k2, k3, k⟩ := r1
        have ne : q ≠ p := fun z => hj (g.ap i j _ _ p e ej rfl rfl ev (by rw [← z]; exact e1))
        exact ⟨ws, rfl, k1, k5, k2.mono sm, by rw [upd_ne ne]; exact k3, k⟩
  · have back : ∀ (m : Nat) (t : S), (ρ.set i (some (.sh (.lst ds))))[m]? = some (some t) → t.own = true → ρ[m]? = some (some t) := fun m t em om => by
      by_cases hm : i = m
      · subst hm
        rw [List.getElem?_set_self hi] at em
        cases em; cases om
      · rw [List.getElem?_set_ne hm] at em; exact em
    exact g.ap j k t t' q (back j t e1 o1) (back k t' e2 o2) o1 o2 e3 e4
theorem GS.setAllSh : ∀ {asg : List (Nat × D)} {us : List V} {ρ : EnvS} {σ : St}, GS G F0 H0 F ρ σ H → Reps G F us (asg.map (·.2)) → GS G F0 H0 F (asg.foldl (fun ρ q => ρ.set q.1 (some (.sh q.2))) ρ) (L3.setAll σ (asg.map (·.1)) us) H
  | [], us, ρ, σ, g, h => by
    have e := reps_nil.mp h
    subst e
    exact g
  | (i, d) :: r, us, ρ, σ, g, h => by
    unfold List.map Reps at h
    obtain ⟨v, vs, rfl, h1, h2⟩ := h
    exact GS.setAllSh (asg := r) (us := vs) (ρ := ρ.set i (some (.sh d))) (σ := σ.set i (some v)) (g.setSh h1) h2
end
def setS (ρ : EnvS) : List (Nat × D) → EnvS
  | [] => ρ
  | (i, d) :: r => setS (ρ.set i (some (.sh d))) r
theorem setS_eq : ∀ (asg : List (Nat × D)) (ρ : EnvS), setS ρ asg = asg.foldl (fun ρ q => ρ.set q.1 (some (.sh q.2))) ρ
  | [], _ => rfl
  | (i, d) :: r, ρ => setS_eq r _
/-! ### statements -/
structure DEnds where
  nx : EnvS → Prop
  rt : DK
  bk : EnvS → Prop := fun _ => False
  ct : EnvS → Prop := fun _ => False
abbrev DS := DEnds → EnvS → Prop
/-- what is wanted over data meets what is wanted over the heap -/
structure Meets3 (G : Ctx) (F0 H0 F : Hp) (E : DEnds) (D : Ends) : Prop where
  nx : ∀ F' ρ' σ' H', GS G F0 H0 F' ρ' σ' H' → Same F F' → E.nx ρ' → D.nx σ' H'
  rt : ∀ F' H' v d, Step G F0 H0 F' H' → Rep G F' v d → E.rt d → D.rt v H'
  bk : ∀ F' ρ' σ' H', GS G F0 H0 F' ρ' σ' H' → Same F F' → E.bk ρ' → D.bk σ' H'
  ct : ∀ F' ρ' σ' H', GS G F0 H0 F' ρ' σ' H' → Same F F' → E.ct ρ' → D.ct σ' H'
theorem Meets3.grow {G : Ctx} {F0 H0 F F' : Hp} {E : DEnds} {D : Ends} (m : Meets3 G F0 H0 F E D) (s : Same F F') : Meets3 G F0 H0 F' E D :=
  ⟨fun F2 ρ σ H g s' => m.nx F2 ρ σ H g (s.trans s'), m.rt, fun F2 ρ σ H g s' => m.bk F2 ρ σ H g (s.trans s'), fun F2 ρ σ H g s' => m.ct F2 ρ σ H g (s.trans s')⟩
def tsF (G : Ctx) (t : DS) : TS := fun D σ H => ∃ F0 H0 F ρ E, GS G F0 H0 F ρ σ H ∧ t E ρ ∧ Meets3 G F0 H0 F E D
abbrev FS (X : Cx) (G : Ctx) (st : Stmt) (t : DS) : Prop := PS X st (tsF G t)
abbrev FSs (X : Cx) (G : Ctx) (st : List Stmt) (t : DS) : Prop := PSs X st (tsF G t)
section
variable {X : Cx} {G : Ctx} {st : Stmt} {rest : List Stmt} {t u : DS} {e o : Expr} {te tf : DE} {tl : DA} {pos pos' : Pos}
theorem PS.imp {t t' : TS} (h : PS X st t) (i : ∀ D σ H, t' D σ H → t D σ H) : PS X st t' := ⟨fun pins s σ H D I q => h.run pins s σ H D I (i D σ H q)⟩
theorem PSs.imp {t t' : TS} (h : PSs X rest t) (i : ∀ D σ H, t' D σ H → t D σ H) : PSs X rest t' := ⟨fun pins s σ H D I q => h.run pins s σ H D I (i D σ H q)⟩
def dNext : DS := fun E ρ => E.nx ρ
def dSq (t u : DS) : DS := fun E ρ => t { E with nx := u E } ρ
theorem fss_nil : FSs X G [] dNext := PSs.imp pss_nil fun D σ H ⟨F0, H0, F, ρ, E, g, q, m⟩ => m.nx F ρ σ H g (Same.refl F) q
theorem fss_one (h : FS X G st t) : FSs X G [st] t := pss_one h
theorem fss_cons (h1 : FS X G st t) (h2 : FSs X G rest u) : FSs X G (st :: rest) (dSq t u) := PSs.imp (pss_cons h1 h2) fun D σ H ⟨F0, H0, F, ρ, E, g, q, m⟩ =>
  ⟨F0, H0, F, ρ, _, g, q, fun F' ρ' σ' H' g' s' q' => ⟨F0, H0, F', ρ', E, g', q', m.grow s'⟩, m.rt, m.bk, m.ct⟩
theorem fs_pass : FS X G (.Pass pos) dNext := PS.imp ps_pass fun D σ H ⟨F0, H0, F, ρ, E, g, q, m⟩ => m.nx F ρ σ H g (Same.refl F) q
def dBreak : DS := fun E ρ => E.bk ρ
def dCont : DS := fun E ρ => E.ct ρ
theorem fs_break : FS X G (.Break pos) dBreak := PS.imp ps_break fun D σ H ⟨F0, H0, F, ρ, E, g, q, m⟩ => m.bk F ρ σ H g (Same.refl F) q
theorem fs_cont : FS X G (.Continue pos) dCont := PS.imp ps_continue fun D σ H ⟨F0, H0, F, ρ, E, g, q, m⟩ => m.ct F ρ σ H g (Same.refl F) q
/-- never reached -/
def dNever : DS := fun _ _ => False
theorem fs_never : FS X G st dNever := PS.imp (ps_never (st := st)) fun D σ H ⟨F0, H0, F, ρ, E, g, q, m⟩ => q
theorem fss_never : FSs X G rest dNever := PSs.imp (pss_never (sts := rest)) fun D σ H ⟨F0, H0, F, ρ, E, g, q, m⟩ => q
/-- an own list is fixed from here on -/
def dFrz (i : Nat) (t : DS) : DS := fun E ρ => match ρ[i]? with
  | some (some (.ow xs)) => t E (ρ.set i (some (.sh (.lst xs))))
  | _ => False
theorem fss_frz (i : Nat) (h : FSs X G rest t) : FSs X G rest (dFrz i t) := PSs.imp h fun D σ H ⟨F0, H0, F, ρ, E, g, q, m⟩ => by
  unfold dFrz at q
  split at q
  · rename_i xs e
    obtain ⟨F', s, g'⟩ := g.freeze e
    exact ⟨F0, H0, F', _, E, g', q, m.grow s⟩
  · exact q.elim
/-- an expression whose value is dropped, all slots read -/
def dDrop (te : DE) : DS := fun E ρ => te (alOf ρ) fun _ => E.nx ρ
theorem fs_drop (h : FE X G e te) (hs : swapsWith e none pos.line X.env = pure false := by rfl) : FS X G (.Expr e pos) (dDrop te) := PS.imp (ps_expr h hs) fun D σ H ⟨F0, H0, F, ρ, E, g, q, m⟩ =>
  ⟨_, _, _, g.geA, q, fun v H' F' d s r q' => m.nx F ρ σ H' (g.afterF s) (Same.refl F) q'⟩
theorem fs_doc {x j pos pos'} : FS X G (.Expr (.Constant (.str x) j pos) pos') dNext := PS.imp ps_doc fun D σ H ⟨F0, H0, F, ρ, E, g, q, m⟩ => m.nx F ρ σ H g (Same.refl F) q
def dRet (te : DE) : DS := fun E ρ => te (alOf ρ) E.rt
theorem fs_ret (h : FE X G e te) : FS X G (.Return (some e) pos) (dRet te) := PS.imp (ps_ret h) fun D σ H ⟨F0, H0, F, ρ, E, g, q, m⟩ =>
  ⟨_, _, _, g.geA, q, fun v H' F' d s r q' => m.rt F' H' v d (g.all_step.trans g.dr0 s) r q'⟩
def dRetN : DS := fun E _ => E.rt .non
theorem fs_retN : FS X G (.Return none pos) dRetN := PS.imp ps_retN fun D σ H ⟨F0, H0, F, ρ, E, g, q, m⟩ => m.rt F H .non .non g.st (Rep.non_iff.mpr rfl) q
def dIfS (c : DT) (t u : DS) : DS := fun E ρ => c (alOf ρ) fun b => if b = true then t E ρ else u E ρ
theorem fs_if {c : Expr} {a b : List Stmt} {tc : DT} (hc : FT X G c tc) (ha : FSs X G a t) (hb : FSs X G b u) : FS X G (.If c a b pos) (dIfS tc t u) := PS.imp (ps_if hc ha hb) fun D σ H ⟨F0, H0, F, ρ, E, g, q, m⟩ =>
  ⟨_, _, _, g.geA, q, fun b H' F' s q' => by
    have g' := g.afterF s
    cases b with
    | true =>
      rw [if_pos rfl] at q'
      dsimp only
      rw [if_pos rfl]
      exact ⟨F0, H0, F, ρ, E, g', q', m⟩
    | false =>
      rw [if_neg Bool.false_ne_true] at q'
      dsimp only
      rw [if_neg Bool.false_ne_true]
      exact ⟨F0, H0, F, ρ, E, g', q', m⟩⟩
/-! ### stores -/
/-- x = e: fixed data; with all slots read, flat -/
def dSet (i : Nat) (te : DE) : DS := fun E ρ => te (shOf ρ) fun d => E.nx (ρ.set i (some (.sh d)))
def dSetF (i : Nat) (te : DE) : DS := fun E ρ => te (alOf ρ) fun d => flat d ∧ E.nx (ρ.set i (some (.sh d)))
theorem flat_rep {F F' : Hp} {v : V} {d : D} (h : Rep G F v d) (f : flat d) : Rep G F' v d := by
  cases d with
  | non => rw [Rep.non_iff] at h ⊢; exact h
  | bl b => rw [Rep.bl_iff] at h ⊢; exact h
  | int i => rw [Rep.int_iff] at h ⊢; exact h
  | str x => rw [Rep.str_iff] at h ⊢; exact h
  | _ => exact f.elim
theorem fs_set {i : Nat} {x : Str} (hN : X.N.Nodup) (hi : X.N[i]? = some x) (hx : Loc X.env.scope x) (h : FE X G e te) (hs : swapsWith e (some (.Name x pos')) pos.line X.env = pure false := by rfl) (hf : X.fn x = true ∨ X.env.scope.names.lookup x = some .local := by first | exact .inl rfl | exact .inr rfl | assumption) :
    FS X G (.Assign [.Name x pos'] e pos) (dSet i te) := PS.imp (ps_set hN hi hx h hs hf) fun D σ H ⟨F0, H0, F, ρ, E, g, q, m⟩ =>
  ⟨_, _, _, g.geP, q, fun v H' F' d s r q' => m.nx F' _ _ H' ((g.afterP s).setSh r) s.grow q'⟩
theorem fs_setF {i : Nat} {x : Str} (hN : X.N.Nodup) (hi : X.N[i]? = some x) (hx : Loc X.env.scope x) (h : FE X G e te) (hs : swapsWith e (some (.Name x pos')) pos.line X.env = pure false := by rfl) (hf : X.fn x = true ∨ X.env.scope.names.lookup x = some .local := by first | exact .inl rfl | exact .inr rfl | assumption) :
    FS X G (.Assign [.Name x pos'] e pos) (dSetF i te) := PS.imp (ps_set hN hi hx h hs hf) fun D σ H ⟨F0, H0, F, ρ, E, g, q, m⟩ =>
  ⟨_, _, _, g.geA, q, fun v H' F' d s r q' => m.nx F _ _ H' ((g.afterF s).setSh (flat_rep r q'.1)) (Same.refl F) q'.2⟩
/-- x = a fresh list, the def's own -/
def dSetO (i : Nat) (tl : DA) : DS := fun E ρ => tl (shOf ρ) fun ds => E.nx (ρ.set i (some (.ow ds)))
theorem GS.fresh {F0 H0 F F' : Hp} {ρ : EnvS} {σ : St} {H H' : Hp} (g : GS G F0 H0 F ρ σ H) (s : Step G F H F' H') {i : Nat} {p : Addr} {vs : List V} {ds : List D} (hp : H p = none) (hf : F' p = none) (nd : ¬ Dr G p) (hl : H' p = some (.lst vs)) (hr : Reps G F' vs ds) :
    GS G F0 H0 F' (ρ.set i (some (.ow ds))) (σ.set i (some (.ref p))) H' := by
  refine (g.afterP s).setOw hl hr hf (g.st.dom g.dr0 hp) nd fun a ha => ?_
  obtain ⟨u, h1, _⟩ := g.own ha
  exact ne_of_none h1 hp
theorem fs_setO {i : Nat} {x : Str} (hN : X.N.Nodup) (hi : X.N[i]? = some x) (hx : Loc X.env.scope x) (h : FO X G e tl) (hs : swapsWith e (some (.Name x pos')) pos.line X.env = pure false := by rfl) (hf : X.fn x = true ∨ X.env.scope.names.lookup x = some .local := by first | exact .inl rfl | exact .inr rfl | assumption) :
    FS X G (.Assign [.Name x pos'] e pos) (dSetO i tl) := PS.imp (ps_set hN hi hx h hs hf) fun D σ H ⟨F0, H0, F, ρ, E, g, q, m⟩ =>
  ⟨_, _, _, g.geP, q, fun p vs H' F' ds s hp hf nd hl hr q' => m.nx F' _ _ H' (g.fresh s hp hf nd hl hr) s.grow q'⟩
/-- (a, b, ..) = e: fixed data -/
def dAsg (td : DG) (te : DE) : DS := fun E ρ => te (shOf ρ) fun d => ∃ asg, td d = some asg ∧ E.nx (setS ρ asg)
theorem fs_asg {tg : Expr} {is : List Nat} {td : DG} (h : FE X G e te) (hg : FG X G tg is td) (hs : swapsWithSole [tg] e pos.line X.env = pure false := by rfl) (hw : swappedStores [tg] e X.env = pure none := by rfl)
    (h1 : (assignEach [tg] X.env).map (·.2) = [assign tg X.env] := by rfl) : FS X G (.Assign [tg] e pos) (dAsg td te) := PS.imp (ps_asg h hg.pg hs hw h1) fun D σ H ⟨F0, H0, F, ρ, E, g, q, m⟩ =>
  ⟨_, _, _, g.geP, q, fun v H' F' d s r q' => by
    obtain ⟨asg, ea, q'⟩ := q'
    refine ⟨F', d, asg, s.fix, r, ea, fun us hu => ?_⟩
    have g2 := GS.setAllSh (g.afterP s) hu
    rw [← setS_eq] at g2
    exact m.nx F' _ _ H' g2 s.grow q'⟩
/-! ### several values at once -/
theorem GS.reindex {F0 H0 F : Hp} {ρ ρ' : EnvS} {σ σ' : St} {H : Hp} (g : GS G F0 H0 F ρ σ H) (f : Nat → Nat) (h : ∀ k s, ρ'[k]? = some (some s) → ρ[f k]? = some (some s) ∧ σ'[k]? = σ[f k]?)
    (inj : ∀ j k s t, ρ'[j]? = some (some s) → ρ'[k]? = some (some t) → f j = f k → j = k) (hl : ρ'.length = σ'.length) : GS G F0 H0 F ρ' σ' H :=
  ⟨g.st, g.dr0, fun k s e => by
    obtain ⟨e1, e2⟩ := h k s e
    obtain ⟨v, e3, r⟩ := g.sl _ s e1
    exact ⟨v, e2.trans e3, r⟩, fun j k s t p e1 e2 o1 o2 e3 e4 => by
    obtain ⟨a1, a2⟩ := h j s e1
    obtain ⟨b1, b2⟩ := h k t e2
    exact inj j k s t e1 e2 (g.ap _ _ s t p a1 b1 o1 o2 (a2 ▸ e3) (b2 ▸ e4)), hl⟩
theorem GS.push {F0 H0 F : Hp} {ρ : EnvS} {σ : St} {H : Hp} (g : GS G F0 H0 F ρ σ H) {v : V} {s : S} (r : RepS G F H H0 v s) (ha : ∀ a, s.own = true → v = .ref a → ¬ OwnAt ρ σ a) : GS G F0 H0 F (ρ ++ [some s]) (σ ++ [some v]) H := by
  refine ⟨g.st, g.dr0, fun k t e => ?_, fun j k t t' p e1 e2 o1 o2 e3 e4 => ?_, by simp [g.len]⟩
  · by_cases hk : k < ρ.length
    · rw [List.getElem?_append_left hk] at e
      obtain ⟨w, e1, r1⟩ := g.sl k t e
      exact ⟨w, by rw [List.getElem?_append_left (g.len ▸ hk)]; exact e1, r1⟩
    · rw [List.getElem?_append_right (by omega)] at e
      have hk0 : k - ρ.length = 0 := by
        by_cases h : k - ρ.length = 0
        · exact h
        · rw [List.getElem?_eq_none (by simp; omega)] at e; cases e
      rw [hk0] at e
      cases e
      exact ⟨v, by rw [List.getElem?_append_right (by rw [← g.len]; omega), ← g.len, hk0]; rfl, r⟩
  · have at_ : ∀ k t, (ρ ++ [some s])[k]? = some (some t) → (k < ρ.length ∧ ρ[k]? = some (some t) ∧ (σ ++ [some v])[k]? = σ[k]?) ∨ (k = ρ.length ∧ t = s ∧ (σ ++ [some v])[k]? = some (some v)) := fun k t e => by
      by_cases hk : k < ρ.length
      · rw [List.getElem?_append_left hk] at e
        exact .inl ⟨hk, e, List.getElem?_append_left (g.len ▸ hk)⟩
      · have hk1 : k = ρ.length := by
          by_cases h : k = ρ.length
          · exact h
          · rw [List.getElem?_eq_none (by simp; omega)] at e; cases e
        subst hk1
        rw [List.getElem?_append_right (Nat.le_refl _), Nat.sub_self] at e
        cases e
        exact .inr ⟨rfl, rfl, by rw [g.len, List.getElem?_append_right (Nat.le_refl _), Nat.sub_self]; rfl⟩
    rcases at_ j t e1 with ⟨h1, h2, h3⟩ | ⟨h1, h2, h3⟩
    · rcases at_ k t' e2 with ⟨k1, k2, k3⟩ | ⟨k1, k2, k3⟩
      · exact g.ap j k t t' p h2 k2 o1 o2 (h3 ▸ e3) (k3 ▸ e4)
      · exfalso
        rw [k3] at e4
        cases e4
        subst k2
        exact ha p o2 rfl ⟨j, t, h2, o1, h3 ▸ e3⟩
    · rcases at_ k t' e2 with ⟨k1, k2, k3⟩ | ⟨k1, k2, k3⟩
      · exfalso
        rw [h3] at e3
        cases e3
        subst h2
        exact ha p o1 rfl ⟨k, t', k2, o2, k3 ▸ e4⟩
      · rw [h1, k1]
/-- a new object that nobody asks of -/
theorem GS.newT {F0 H0 F : Hp} {ρ : EnvS} {σ : St} {H : Hp} {p : Addr} {o : HO} (g : GS G F0 H0 F ρ σ H) (hp : H p = none) : GS G F0 H0 F ρ σ (upd H p o) := g.afterP (Step.new_ g.st.fix g.st.dr hp)
/-- the first of the pushed values goes to its slot -/
theorem GS.move1 {F0 H0 F : Hp} {ρ : EnvS} {σ : St} {H : Hp} {i : Nat} {s : S} {v : V} {rs : EnvS} {rv : St} (g : GS G F0 H0 F (ρ ++ some s :: rs) (σ ++ some v :: rv) H) (hl : ρ.length = σ.length) (hr : rs.length = rv.length) :
    GS G F0 H0 F (ρ.set i (some s) ++ rs) (σ.set i (some v) ++ rv) H := by
  refine g.reindex (fun k => if k = i ∧ k < ρ.length then ρ.length else if k < ρ.length then k else k + 1) (fun k t e => ?_) (fun j k t t' e1 e2 q => ?_) (by simp [hl, hr])
  · by_cases hk : k < ρ.length
    · rw [List.getElem?_append_left (by simpa using hk)] at e
      rw [List.getElem?_append_left (l₁ := σ.set i (some v)) (by rw [List.length_set, ← hl]; exact hk)]
      by_cases hi : k = i
      · subst hi
        try dsimp only
        rw [if_pos ⟨rfl, hk⟩]
        rw [List.getElem?_set_self hk] at e
        cases e
        refine ⟨by rw [List.getElem?_append_right (Nat.le_refl _), Nat.sub_self]; rfl, ?_⟩
        rw [List.getElem?_set_self (by rw [← hl]; exact hk), hl, List.getElem?_append_right (Nat.le_refl _), Nat.sub_self]
        rfl
      · try dsimp only
        rw [if_neg (fun h => hi h.1), if_pos hk]
        rw [List.getElem?_set_ne (Ne.symm hi)] at e ⊢
        exact ⟨by rw [List.getElem?_append_left hk]; exact e, by rw [List.getElem?_append_left (by rw [← hl]; exact hk)]⟩
    · try dsimp only
      rw [if_neg (fun h => hk h.2), if_neg hk]
      rw [List.getElem?_append_right (by simp; omega), List.length_set] at e
      have e1 : k + 1 - ρ.length = (k - ρ.length) + 1 := by omega
      refine ⟨?_, ?_⟩
      · rw [List.getElem?_append_right (by omega), e1]
        exact e
      · rw [List.getElem?_append_right (by simp; omega), List.getElem?_append_right (by omega), List.length_set, ← hl, e1]
        rfl
  · try dsimp only at q
    split at q <;> split at q <;> (try split at q) <;> (try split at q) <;> omega
def setSs (ρ : EnvS) : List Nat → List S → EnvS
  | i :: is, s :: ss => setSs (ρ.set i (some s)) is ss
  | _, _ => ρ
theorem GS.moves {F0 H0 F : Hp} {H : Hp} : ∀ {is : List Nat} {ss : List S} {vs : List V} {ρ : EnvS} {σ : St}, GS G F0 H0 F (ρ ++ ss.map some) (σ ++ vs.map some) H → ρ.length = σ.length → ss.length = vs.length → is.length = ss.length → GS G F0 H0 F (setSs ρ is ss) (L3.setAll σ is vs) H
  | [], [], [], ρ, σ, g, _, _, _ => by simpa [setSs, L3.setAll] using g
  | i :: is, s :: ss, v :: vs, ρ, σ, g, hl, h1, h2 => by
    have g1 := g.move1 (i := i) (s := s) (v := v) (rs := ss.map some) (rv := vs.map some) hl (by simpa using h1)
    exact GS.moves (is := is) (ss := ss) (vs := vs) g1 (by simpa using hl) (by simpa using h1) (by simpa using h2)
  | [], _ :: _, _, _, _, _, _, _, h => by simp at h
  | _ :: _, [], _, _, _, _, _, _, h => by simp at h
  | _, [], _ :: _, _, _, _, _, h, _ => by simp at h
  | _, _ :: _, [], _, _, _, _, h, _ => by simp at h
/-- one value: fixed, or a fresh list -/
abbrev DX := DEnv → (S → Prop) → Prop
def RepX (G : Ctx) (H F' H' : Hp) (v : V) : S → Prop
  | .sh d => Rep G F' v d
  | .ow ds => ∃ p us, v = .ref p ∧ H p = none ∧ F' p = none ∧ ¬ Dr G p ∧ H' p = some (.lst us) ∧ Reps G F' us ds
  | .oi _ _ _ _ => False
def txF (G : Ctx) (t : DX) : TE := fun σ H R => ∃ F δ Q, GE G F δ σ H ∧ t δ Q ∧ ∀ v H' F' s, Step G F H F' H' → RepX G H F' H' v s → Q s → R v H'
abbrev FX (X : Cx) (G : Ctx) (e : Expr) (t : DX) : Prop := PE X e (txF G t)
def dxP (te : DE) : DX := fun δ Q => te δ fun d => Q (.sh d)
def dxO (tl : DA) : DX := fun δ Q => tl δ fun ds => Q (.ow ds)
theorem fx_P (h : FE X G e te) : FX X G e (dxP te) := PE.imp h fun σ H R ⟨F, δ, Q, g, q, k⟩ => ⟨F, δ, _, g, q, fun v H' F' d s r q' => k v H' F' (.sh d) s r q'⟩
theorem fx_O (h : FO X G e tl) : FX X G e (dxO tl) := PE.imp h fun σ H R ⟨F, δ, Q, g, q, k⟩ => ⟨F, δ, _, g, q, fun p vs H' F' ds s hp hf nd hl hr q' => k (.ref p) H' F' (.ow ds) s ⟨p, vs, rfl, hp, hf, nd, hl, hr⟩ q'⟩
/-- a list of such values, pushed -/
abbrev DXs := DEnv → (List S → Prop) → Prop
def txsF (G : Ctx) (t : DXs) : TA := fun σ H R => ∃ F0 H0 F ρ ss vs0 Q, ρ.length = σ.length ∧ GS G F0 H0 F (ρ ++ ss.map some) (σ ++ vs0.map some) H ∧ t (shOf ρ) Q ∧
  ∀ vs H' F' ss', GS G F0 H0 F' (ρ ++ (ss ++ ss').map some) (σ ++ (vs0 ++ vs).map some) H' → Same F F' → ss'.length = vs.length → Q ss' → R vs H'
abbrev FXs (X : Cx) (G : Ctx) (es : List Expr) (t : DXs) : Prop := PA X es (txsF G t)
def dxNil : DXs := fun _ Q => Q []
def dxCons (t : DX) (r : DXs) : DXs := fun δ Q => t δ fun s => r δ fun ss => Q (s :: ss)
theorem fxs_nil : FXs X G [] dxNil := PA.imp pa_nil fun σ H R ⟨F0, H0, F, ρ, ss, vs0, Q, hl, g, q, k⟩ => k [] H F [] (by simpa using g) (Same.refl F) rfl q
theorem GS.left {F0 H0 F : Hp} {ρ τ : EnvS} {σ σ2 : St} {H : Hp} (g : GS G F0 H0 F (ρ ++ τ) (σ ++ σ2) H) (hl : ρ.length = σ.length) : GS G F0 H0 F ρ σ H :=
  g.reindex id (fun k s e => by
    have hk : k < ρ.length := (List.getElem?_eq_some_iff.mp e).1
    exact ⟨by rw [id, List.getElem?_append_left hk]; exact e, by rw [id, List.getElem?_append_left (by omega)]⟩) (fun j k s t _ _ h => h) hl
theorem fxs_cons {es : List Expr} {tx : DX} {r : DXs} (h : FX X G e tx) (hr : FXs X G es r) (hs : starEach (e :: es) X.env = (false, eval e X.env) :: starEach es X.env := by rfl) : FXs X G (e :: es) (dxCons tx r) :=
  PA.imp (pa_cons h hr hs) fun σ H R ⟨F0, H0, F, ρ, ss, vs0, Q, hl, g, q, k⟩ => ⟨F, _, _, (g.left hl).geP, q, fun v H1 F1 s s1 rx q1 => by
    have g1 := g.afterP s1
    have g2 : GS G F0 H0 F1 (ρ ++ (ss ++ [s]).map some) (σ ++ (vs0 ++ [v]).map some) H1 := by
      have := g1.push (v := v) (s := s) (by
        cases s with
        | sh d => exact rx
        | ow ds =>
          obtain ⟨p, us, rfl, h1, h2, h3, h4, h5⟩ := rx
          exact ⟨p, us, rfl, h4, h5, h2, g.st.dom g.dr0 h1, h3⟩
        | oi _ _ _ _ => exact rx.elim) (fun a o e ha => by
        cases s with
        | sh d => cases o
        | ow ds =>
          obtain ⟨p, us, rfl, h1, _⟩ := rx
          cases e
          obtain ⟨u, h6, _⟩ := g.own ha
          rw [h1] at h6; cases h6
        | oi _ _ _ _ => exact rx.elim)
      simpa [List.append_assoc] using this
    refine ⟨F0, H0, F1, ρ, ss ++ [s], vs0 ++ [v], _, hl, g2, q1, fun vs H2 F2 ss' g3 s2 hl2 q2 => ?_⟩
    exact k (v :: vs) H2 F2 (s :: ss') (by simpa [List.append_assoc] using g3) (s1.grow.trans s2) (by simp [hl2]) q2⟩
/-- names, one behind another, as targets -/
def gNs (is : List Nat) : TGs := fun vs σ H Q => vs.length = is.length ∧ Q (L3.setAll σ is vs) H
structure FNs (X : Cx) (ts : List Expr) (is : List Nat) : Prop where
  pg : PGs X ts (gNs is)
theorem fns_nil : FNs X [] [] := ⟨PGs.imp pgs_nil fun vs σ H Q ⟨h1, h2⟩ => by
  have e : vs = [] := List.length_eq_zero_iff.mp h1
  subst e
  exact ⟨rfl, h2⟩⟩
theorem fns_cons {i : Nat} {x : Str} {ts : List Expr} {is : List Nat} (hN : X.N.Nodup) (hi : X.N[i]? = some x) (hx : Loc X.env.scope x) (h : FNs X ts is) (hf : X.fn x = true ∨ X.env.scope.names.lookup x = some .local := by first | exact .inl rfl | exact .inr rfl | assumption)
    (hs : (assignEach (.Name x pos' :: ts) X.env).map (·.2) = assign (.Name x pos') X.env :: (assignEach ts X.env).map (·.2) := by rfl) : FNs X (.Name x pos' :: ts) (i :: is) :=
  ⟨PGs.imp (pgs_cons (pg_name hN hi hx hf) h.pg hs) fun vs σ H Q ⟨h1, h2⟩ => by
    cases vs with
    | nil => cases h1
    | cons v vs => exact ⟨v, vs, rfl, by simpa using h1, h2⟩⟩
def dPar (is : List Nat) (r : DXs) : DS := fun E ρ => r (shOf ρ) fun ss => ss.length = is.length ∧ E.nx (setSs ρ is ss)
/-- a, b, .. = e1, e2, ..: by the tuple -/
theorem fs_parT {es ts : List Expr} {k1 k2 : Nat} {p1 p2 : Pos} {is : List Nat} {r : DXs} {n : Nat} (hc : X.calm = true) (hn : is.length = n) (ht : FNs X ts is) (h : FXs X G es r) (hl : (assignEach ts X.env).length = n := by rfl) (hst : (assignEach ts X.env).findIdx? (·.1) = none := by rfl)
    (hs : swapsWithSole [.Tuple ts k1 p1] (.Tuple es k2 p2) pos.line X.env = pure false := by rfl) (hw : swappedStores [.Tuple ts k1 p1] (.Tuple es k2 p2) X.env = pure none := by rfl)
    (h1 : (assignEach [.Tuple ts k1 p1] X.env).map (·.2) = [assign (.Tuple ts k1 p1) X.env] := by rfl) (hz : n ≤ sizeLine := by decide) : FS X G (.Assign [.Tuple ts k1 p1] (.Tuple es k2 p2) pos) (dPar is r) :=
  PS.imp (ps_asg (pe_tup h) (pg_tup hc ht.pg hl hst) hs hw h1) fun D σ H ⟨F0, H0, F, ρ, E, g, q, m⟩ => ⟨F0, H0, F, ρ, [], [], _, g.len, by simpa using g, q, fun vs H' F' ss' g' s' hl' q' => by
    obtain ⟨q1, q2⟩ := q'
    have hv : vs.length = n := by rw [← hl', q1, hn]
    refine ⟨by rw [hv]; exact hz, fun p hp => ?_⟩
    refine ⟨p, vs, rfl, SqT.of upd_same, hv, by rw [hv, hn], ?_⟩
    have g2 : GS G F0 H0 F' (ρ ++ ss'.map some) (σ ++ vs.map some) H' := by simpa using g'
    have g3 := GS.moves g2 g.len hl' q1.symm
    have g4 := g3.newT (o := .tup vs) hp
    exact m.nx F' _ _ _ g4 s' q2⟩
end
end L3
end
section
set_option Elab.async false
set_option linter.all false
set_option maxRecDepth 100000
/-! L3f: stores into own objects, loops, defs over data. -/
namespace L3
open PySem PySem.Spec PyProof.Rows L2
section
variable {X : Cx} {G : Ctx} {st : Stmt} {rest : List Stmt} {t u : DS} {e e1 e2 o : Expr} {te tf ti : DE} {tl : DA} {pos pos' p1 p2 tpos apos cpos : Pos}
/-- a, b = e1, e2 with two local names -/
theorem fs_par2 {i j : Nat} {x y : Str} {k1 k2 : Nat} {px py pt pt2 : Pos} {r : DXs} (hc : X.calm = true) (hN : X.N.Nodup) (hi : X.N[i]? = some x) (hj : X.N[j]? = some y) (hij : i ≠ j)
    (hx : X.env.scope.names.lookup x = some .local) (hy : X.env.scope.names.lookup y = some .local) (ha : FXs X G [e1, e2] r)
    (hw : swappedStores [.Tuple [.Name x px, .Name y py] k1 pt] (.Tuple [e1, e2] k2 pt2) X.env = pure (some [x, y]) := by rfl)
    (hs : swapsWithSole [.Tuple [.Name x px, .Name y py] k1 pt] (.Tuple [e1, e2] k2 pt2) pos.line X.env = pure false := by rfl) :
    FS X G (.Assign [.Tuple [.Name x px, .Name y py] k1 pt] (.Tuple [e1, e2] k2 pt2) pos) (dPar [i, j] r) :=
  PS.imp (ps_par hc hN hi hj hij hx hy ha hw hs) fun D σ H ⟨F0, H0, F, ρ, E, g, q, m⟩ => ⟨F0, H0, F, ρ, [], [], _, g.len, by simpa using g, q, fun vs H' F' ss' g' s' hl' q' => by
    obtain ⟨z1, z2⟩ := q'
    have g2 : GS G F0 H0 F' (ρ ++ ss'.map some) (σ ++ vs.map some) H' := by simpa using g'
    have g3 := GS.moves g2 g.len hl' z1.symm
    match vs, ss', hl', z1 with
    | [v, w], _, _, _ => exact ⟨v, w, rfl, m.nx F' _ _ _ g3 s' z2⟩
    | [], _, h1, h2 => rw [h1] at h2; cases h2
    | [_], _, h1, h2 => rw [h1] at h2; cases h2
    | _ :: _ :: _ :: _, _, h1, h2 => rw [h1] at h2; simp at h2⟩
theorem fs_par3 {i j l : Nat} {x y z : Str} {e3 : Expr} {k1 : Nat} {k2 : Nat} {px py pz pt pt2 : Pos} {r : DXs} (hc : X.calm = true) (hN : X.N.Nodup) (hi : X.N[i]? = some x) (hj : X.N[j]? = some y) (hl : X.N[l]? = some z) (hij : i ≠ j) (hil : i ≠ l) (hjl : j ≠ l)
    (hx : X.env.scope.names.lookup x = some .local) (hy : X.env.scope.names.lookup y = some .local) (hz : X.env.scope.names.lookup z = some .local) (ha : FXs X G [e1, e2, e3] r)
    (hw : swappedStores [.Tuple [.Name x px, .Name y py, .Name z pz] k1 pt] (.Tuple [e1, e2, e3] k2 pt2) X.env = pure (some [x, y, z]) := by rfl)
    (hs : swapsWithSole [.Tuple [.Name x px, .Name y py, .Name z pz] k1 pt] (.Tuple [e1, e2, e3] k2 pt2) pos.line X.env = pure false := by rfl) :
    FS X G (.Assign [.Tuple [.Name x px, .Name y py, .Name z pz] k1 pt] (.Tuple [e1, e2, e3] k2 pt2) pos) (dPar [i, j, l] r) :=
  PS.imp (ps_par3 hc hN hi hj hl hij hil hjl hx hy hz ha hw hs) fun D σ H ⟨F0, H0, F, ρ, E, g, q, m⟩ => ⟨F0, H0, F, ρ, [], [], _, g.len, by simpa using g, q, fun vs H' F' ss' g' s' hl' q' => by
    obtain ⟨z1, z2⟩ := q'
    have g2 : GS G F0 H0 F' (ρ ++ ss'.map some) (σ ++ vs.map some) H' := by simpa using g'
    have g3 := GS.moves g2 g.len hl' z1.symm
    match vs, ss', hl', z1 with
    | [v, w, u], _, _, _ => exact ⟨v, w, u, rfl, m.nx F' _ _ _ g3 s' z2⟩
    | [], _, h1, h2 => rw [h1] at h2; cases h2
    | [_], _, h1, h2 => rw [h1] at h2; cases h2
    | [_, _], _, h1, h2 => rw [h1] at h2; cases h2
    | _ :: _ :: _ :: _ :: _, _, h1, h2 => rw [h1] at h2; simp at h2⟩
/-! ### own lists changed -/
/-- x.append(e), x an own list in slot i; e fixed data | flat, all slots read -/
def dApp (i : Nat) (te : DE) : DS := fun E ρ => match ρ[i]? with
  | some (some (.ow xs)) => te (shOf ρ) fun d => xs.length < sizeLine ∧ E.nx (ρ.set i (some (.ow (xs ++ [d]))))
  | _ => False
def dAppF (i : Nat) (te : DE) : DS := fun E ρ => match ρ[i]? with
  | some (some (.ow xs)) => te (alOf ρ) fun d => flat d ∧ xs.length < sizeLine ∧ E.nx (ρ.set i (some (.ow (xs ++ [d]))))
  | _ => False
theorem GS.app {F0 H0 F : Hp} {ρ : EnvS} {σ : St} {H : Hp} (g : GS G F0 H0 F ρ σ H) {i : Nat} {xs : List D} {v : V} {d : D} (e : ρ[i]? = some (some (.ow xs))) (r : Rep G F v d) {p : Addr} (hp : σ[i]? = some (some (.ref p))) :
    ∃ vs, H p = some (.lst vs) ∧ vs.length = xs.length ∧ GS G F0 H0 F (ρ.set i (some (.ow (xs ++ [d])))) σ (upd H p (.lst (vs ++ [v]))) := by
  obtain ⟨w, e1, q, vs, rfl, h1, h2, h3, h4, h5⟩ := g.sl i _ e
  rw [hp] at e1
  cases e1
  exact ⟨vs, h1, h2.length, g.mut e rfl rfl hp ⟨p, _, rfl, upd_same, h2.append (.cons r .nil), h3, h4, h5⟩⟩
theorem app_read {D : Ends} {σ : St} {H : Hp} {i : Nat} {K : PySem.W.Frag} {ta : TE} (h : ∃ p vs0, σ[i]? = some (some (.ref p)) ∧ H p = some (.lst vs0) ∧ ta σ H fun v H1 => ∃ vs, H1 p = some (.lst vs) ∧ vs.length < sizeLine ∧ D.nx σ (upd H1 p (.lst (vs ++ [v])))) :
    tDrop (tBM K "list" rAppend (tVar i) (tCons ta tNil)) D σ H := by
  obtain ⟨p, vs0, hp, h0, h⟩ := h
  refine ⟨.ref p, hp, .inl ⟨rfl, _, SqL.of h0⟩, ?_⟩
  show ta σ H fun x H1 => rAppend (.ref p) [x] H1 fun _ H2 => D.nx σ H2
  have e : (fun (x : V) (H1 : Hp) => rAppend (.ref p) [x] H1 fun _ H2 => D.nx σ H2) = fun v H1 => ∃ vs, H1 p = some (.lst vs) ∧ vs.length < sizeLine ∧ D.nx σ (upd H1 p (.lst (vs ++ [v]))) := by
    funext v H1
    apply propext
    constructor
    · rintro ⟨l, xs, y, e1, e2, h1, h2, h3⟩
      cases e1
      cases e2
      exact ⟨xs, h1, h2, h3⟩
    · rintro ⟨xs, h1, h2, h3⟩
      exact ⟨p, xs, v, rfl, rfl, h1, h2, h3⟩
  rw [e]
  exact h
theorem GS.owAt {F0 H0 F : Hp} {ρ : EnvS} {σ : St} {H : Hp} (g : GS G F0 H0 F ρ σ H) {i : Nat} {xs : List D} (e : ρ[i]? = some (some (.ow xs))) : ∃ p vs, σ[i]? = some (some (.ref p)) ∧ H p = some (.lst vs) ∧ vs.length = xs.length := by
  obtain ⟨w, e1, q, vs, rfl, h1, h2, _⟩ := g.sl i _ e
  exact ⟨q, vs, e1, h1, h2.length⟩
theorem fs_app {i : Nat} {x : Str} {px : Pos} (hx : PE X (.Name x px) (tVar i)) (h : FE X G e te)
    (hfew : ((backTo cpos (starEach [e] X.env)).all (fun x => !x.1) && (backToKw cpos (keywordEach [] X.env)).all (fun x => x.1.isSome)
      && decide (([e] : List Expr).length + ([] : List Keyword).length + (if ([] : List Keyword).isEmpty then 0 else 1) < 30)) = true := by rfl)
    (hline : (apos.endLine == cpos.line) = true := by rfl) (he : starEach [e] X.env = (false, eval e X.env) :: starEach [] X.env := by rfl)
    (hs : swapsWith (.Call (.Attribute (.Name x px) "append" apos) [e] [] cpos) none pos.line X.env = pure false := by rfl) : FS X G (.Expr (.Call (.Attribute (.Name x px) "append" apos) [e] [] cpos) pos) (dApp i te) :=
  PS.imp (ps_expr (pe_bm PySem.F.plainAttrs_list PySem.F.slot_list_append PySem.F.type_list_append mt_append hx (pa_cons h pa_nil he) rfl hfew hline he) hs) fun D σ H ⟨F0, H0, F, ρ, E, g, q, m⟩ => app_read (by
    unfold dApp at q
    split at q
    · rename_i xs e
      obtain ⟨p, vs, e1, e2, e3⟩ := g.owAt e
      refine ⟨p, vs, e1, e2, F, _, _, g.geP, q, fun v H1 F1 d s1 r1 q1 => ?_⟩
      obtain ⟨ws, h1, h2, g2⟩ := (g.afterP s1).app e r1 e1
      exact ⟨ws, h1, by rw [h2]; exact q1.1, m.nx F1 _ _ _ g2 s1.grow q1.2⟩
    · exact q.elim)
theorem fs_appF {i : Nat} {x : Str} {px : Pos} (hx : PE X (.Name x px) (tVar i)) (h : FE X G e te)
    (hfew : ((backTo cpos (starEach [e] X.env)).all (fun x => !x.1) && (backToKw cpos (keywordEach [] X.env)).all (fun x => x.1.isSome)
      && decide (([e] : List Expr).length + ([] : List Keyword).length + (if ([] : List Keyword).isEmpty then 0 else 1) < 30)) = true := by rfl)
    (hline : (apos.endLine == cpos.line) = true := by rfl) (he : starEach [e] X.env = (false, eval e X.env) :: starEach [] X.env := by rfl)
    (hs : swapsWith (.Call (.Attribute (.Name x px) "append" apos) [e] [] cpos) none pos.line X.env = pure false := by rfl) : FS X G (.Expr (.Call (.Attribute (.Name x px) "append" apos) [e] [] cpos) pos) (dAppF i te) :=
  PS.imp (ps_expr (pe_bm PySem.F.plainAttrs_list PySem.F.slot_list_append PySem.F.type_list_append mt_append hx (pa_cons h pa_nil he) rfl hfew hline he) hs) fun D σ H ⟨F0, H0, F, ρ, E, g, q, m⟩ => app_read (by
    unfold dAppF at q
    split at q
    · rename_i xs e
      obtain ⟨p, vs, e1, e2, e3⟩ := g.owAt e
      refine ⟨p, vs, e1, e2, _, _, _, g.geA, q, fun v H1 F1 d s1 r1 q1 => ?_⟩
      obtain ⟨ws, h1, h2, g2⟩ := (g.afterF s1).app e (flat_rep r1 q1.1) e1
      exact ⟨ws, h1, by rw [h2]; exact q1.2.1, m.nx F _ _ _ g2 (Same.refl F) q1.2.2⟩
    · exact q.elim)
/-- x[i] = e, x an own list in slot i: e flat or fixed, the index flat -/
def dPut (i : Nat) (td ti : DE) : DS := fun E ρ => td (shOf ρ) fun d => match ρ[i]? with
  | some (some (.ow xs)) => ti (alOf ρ) fun z => asInt z fun k => ∃ j, ixN xs.length k = some j ∧ E.nx (ρ.set i (some (.ow (xs.set j d))))
  | _ => False
def dPutF (i : Nat) (td ti : DE) : DS := fun E ρ => td (alOf ρ) fun d => flat d ∧ match ρ[i]? with
  | some (some (.ow xs)) => ti (alOf ρ) fun z => asInt z fun k => ∃ j, ixN xs.length k = some j ∧ E.nx (ρ.set i (some (.ow (xs.set j d))))
  | _ => False
theorem put_read {Dd : Ends} {σ : St} {H : Hp} {i : Nat} {F0 H0 F : Hp} {ρ : EnvS} {E : DEnds} {v : V} {d : D} {xs : List L3.D} (g : GS G F0 H0 F ρ σ H) (r : Rep G F v d) (m : Meets3 G F0 H0 F E Dd) (e : ρ[i]? = some (some (.ow xs)))
    (q : ti (alOf ρ) fun z => asInt z fun k => ∃ j, ixN xs.length k = some j ∧ E.nx (ρ.set i (some (.ow (xs.set j d))))) : (L2.gSub (tVar i) (teF G ti) rSetL) v σ H fun σ H' => Dd.nx σ H' := by
  obtain ⟨p, vs, e1, e2, e3⟩ := g.owAt e
  refine ⟨.ref p, e1, _, _, _, g.geA, q, fun w H1 F1 z s1 r1 q1 => ?_⟩
  obtain ⟨k, rfl, j, hj, q2⟩ := asInt_iff.mp q1
  have g1 := g.afterF s1
  obtain ⟨w', e4, p', ws, rfl, h1, h2, h3, h4, h5⟩ := g1.sl i _ e
  rw [e1] at e4
  cases e4
  refine ⟨p, ws, k, j, rfl, Rep.int_iff.mp r1, h1, by rw [h2.length]; exact hj, ?_⟩
  exact m.nx F _ _ _ (g1.mut (s' := .ow (xs.set j d)) e rfl rfl e1 ⟨p, _, rfl, upd_same, h2.set j r, h3, h4, h5⟩) (Same.refl F) q2
theorem fs_put {i : Nat} {x : Str} {px : Pos} (hx : PE X (.Name x px) (tVar i)) (h : FE X G e te) (hi : FE X G o ti) (hs : swapsWithSole [.Subscript (.Name x px) o tpos] e pos.line X.env = pure false := by rfl) (hw : swappedStores [.Subscript (.Name x px) o tpos] e X.env = pure none := by rfl)
    (h1 : (assignEach [.Subscript (.Name x px) o tpos] X.env).map (·.2) = [assign (.Subscript (.Name x px) o tpos) X.env] := by rfl)
    (ha : ∀ v, assign (.Subscript (.Name x px) o tpos) X.env v = (do
      let ov ← holding [v] (eval (.Name x px) X.env)
      let iv ← holding [v, ov] (eval o X.env)
      standAt tpos
      holding [v, ov, iv] (setItem ov iv v)
      release [v, ov, iv] []) := by intro _; rfl) : FS X G (.Assign [.Subscript (.Name x px) o tpos] e pos) (dPut i te ti) :=
  PS.imp (ps_asg h (pg_sub hx hi set_list ha) hs hw h1) fun D σ H ⟨F0, H0, F, ρ, E, g, q, m⟩ => ⟨F, _, _, g.geP, q, fun v H1 F1 d s1 r1 q1 => by
    try dsimp only at q1
    split at q1
    · rename_i xs e
      exact put_read (g.afterP s1) r1 (m.grow s1.grow) e q1
    · exact q1.elim⟩
theorem fs_putF {i : Nat} {x : Str} {px : Pos} (hx : PE X (.Name x px) (tVar i)) (h : FE X G e te) (hi : FE X G o ti) (hs : swapsWithSole [.Subscript (.Name x px) o tpos] e pos.line X.env = pure false := by rfl) (hw : swappedStores [.Subscript (.Name x px) o tpos] e X.env = pure none := by rfl)
    (h1 : (assignEach [.Subscript (.Name x px) o tpos] X.env).map (·.2) = [assign (.Subscript (.Name x px) o tpos) X.env] := by rfl)
    (ha : ∀ v, assign (.Subscript (.Name x px) o tpos) X.env v = (do
      let ov ← holding [v] (eval (.Name x px) X.env)
      let iv ← holding [v, ov] (eval o X.env)
      standAt tpos
      holding [v, ov, iv] (setItem ov iv v)
      release [v, ov, iv] []) := by intro _; rfl) : FS X G (.Assign [.Subscript (.Name x px) o tpos] e pos) (dPutF i te ti) :=
  PS.imp (ps_asg h (pg_sub hx hi set_list ha) hs hw h1) fun D σ H ⟨F0, H0, F, ρ, E, g, q, m⟩ => ⟨_, _, _, g.geA, q, fun v H1 F1 d s1 r1 q1 => by
    obtain ⟨fl, q1⟩ := q1
    split at q1
    · rename_i xs e
      exact put_read (g.afterF s1) (flat_rep r1 fl) m e q1
    · exact q1.elim⟩
/-! ### attributes of an instance in the making -/
def dAttr (T : Tabs) (i : Nat) (f : Str) (te : DE) : DS := fun E ρ => te (shOf ρ) fun d => match ρ[i]? with
  | some (some (.oi p dx c fs)) => (T.fn c)[fs.length]? = some f ∧ fs.length < 1000 ∧ E.nx (ρ.set i (some (.oi p dx c (fs ++ [d]))))
  | _ => False
def dAttrF (T : Tabs) (i : Nat) (f : Str) (te : DE) : DS := fun E ρ => te (alOf ρ) fun d => flat d ∧ match ρ[i]? with
  | some (some (.oi p dx c fs)) => (T.fn c)[fs.length]? = some f ∧ fs.length < 1000 ∧ E.nx (ρ.set i (some (.oi p dx c (fs ++ [d]))))
  | _ => False
theorem putF_zip : ∀ {N : List Str} {vs : List V} {f : Str} {v : V}, N.Nodup → N[vs.length]? = some f → putF f v (N.zip vs) = N.zip (vs ++ [v])
  | [], vs, f, v, _, h => by simp at h
  | n :: N, [], f, v, _, h => by
    simp at h
    subst h
    show [(n, v)] = (n, v) :: N.zip []
    rw [List.zip_nil_right]
  | n :: N, w :: vs, f, v, nd, h => by
    have h' : N[vs.length]? = some f := by simpa using h
    have ne : n ≠ f := fun e => (List.nodup_cons.mp nd).1 (e ▸ List.mem_of_getElem? h')
    show (if n = f then _ else (n, w) :: putF f v (N.zip vs)) = (n, w) :: N.zip (vs ++ [v])
    rw [if_neg ne, putF_zip (List.nodup_cons.mp nd).2 h']
theorem attr_read {Dd : Ends} {σ : St} {H : Hp} {i : Nat} {F0 H0 F : Hp} {ρ : EnvS} {E : DEnds} {v : V} {d : D} {fs : List L3.D} {p dx : Addr} {c : Nat} {K : PySem.W.Frag} {f : Str} (O : TabOk K G.tb) (g : GS G F0 H0 F ρ σ H) (r : Rep G F v d) (m : Meets3 G F0 H0 F E Dd) (e : ρ[i]? = some (some (.oi p dx c fs)))
    (hf : (G.tb.fn c)[fs.length]? = some f) (hl : fs.length < 1000) (q : E.nx (ρ.set i (some (.oi p dx c (fs ++ [d]))))) : tVar i σ H fun x H2 => ∃ a C dx fs, x = .ref a ∧ H2 a = some (.ins C dx fs) ∧ Cls K C ∧ NoAttr K C f ∧ fs.length < 1000 ∧ Dd.nx σ (upd H2 a (.ins C dx (putF f v fs))) := by
  obtain ⟨w, e1, ws, rfl, h1, h6, h2, h3, h4, h5⟩ := g.sl i _ e
  have hm := List.mem_of_getElem? hf
  have hf' : (G.tb.fn c)[ws.length]? = some f := by rw [h2.length]; exact hf
  have hlt : ws.length < (G.tb.fn c).length := (List.getElem?_eq_some_iff.mp hf').1
  refine ⟨.ref p, e1, p, _, dx, _, rfl, h1, O.cl c (List.ne_nil_of_mem hm), O.no c f hm, ?_, ?_⟩
  · rw [List.length_zip, h2.length]
    omega
  · rw [putF_zip (O.nd c) hf']
    exact m.nx F _ _ _ (g.mut (s' := .oi p dx c (fs ++ [d])) e rfl rfl e1 ⟨ws ++ [v], rfl, upd_same, by rw [List.length_append]; exact hlt, h2.append (.cons r .nil), h3, h4, h5⟩) (Same.refl F) q
theorem fs_attr {i : Nat} {x f : Str} {px : Pos} (O : TabOk X.K G.tb) (hx : PE X (.Name x px) (tVar i)) (h : FE X G e te) (hs : swapsWith e (some (.Attribute (.Name x px) f pos')) pos.line X.env = pure false := by rfl) : FS X G (.Assign [.Attribute (.Name x px) f pos'] e pos) (dAttr G.tb i f te) :=
  PS.imp (ps_fld hx h hs) fun D σ H ⟨F0, H0, F, ρ, E, g, q, m⟩ => ⟨F, _, _, g.geP, q, fun v H1 F1 d s1 r1 q1 => by
    try dsimp only at q1
    split at q1
    · rename_i p dx c fs e
      exact attr_read O (g.afterP s1) r1 (m.grow s1.grow) e q1.1 q1.2.1 q1.2.2
    · exact q1.elim⟩
theorem fs_attrF {i : Nat} {x f : Str} {px : Pos} (O : TabOk X.K G.tb) (hx : PE X (.Name x px) (tVar i)) (h : FE X G e te) (hs : swapsWith e (some (.Attribute (.Name x px) f pos')) pos.line X.env = pure false := by rfl) : FS X G (.Assign [.Attribute (.Name x px) f pos'] e pos) (dAttrF G.tb i f te) :=
  PS.imp (ps_fld hx h hs) fun D σ H ⟨F0, H0, F, ρ, E, g, q, m⟩ => ⟨_, _, _, g.geA, q, fun v H1 F1 d s1 r1 q1 => by
    obtain ⟨fl, q1⟩ := q1
    split at q1
    · rename_i p dx c fs e
      exact attr_read O (g.afterF s1) (flat_rep r1 fl) m e q1.1 q1.2.1 q1.2.2
    · exact q1.elim⟩
/-! ### loops -/
def dWhileN (c : DT) (tb : DS) (E : DEnds) : Nat → EnvS → Prop
  | 0, _ => False
  | n + 1, ρ => c (alOf ρ) fun b => if b = true then tb { E with nx := dWhileN c tb E n, ct := dWhileN c tb E n, bk := E.nx } ρ else E.nx ρ
def dWhile (c : DT) (tb : DS) : DS := fun E ρ => ∃ n, dWhileN c tb E n ρ
theorem fs_while {c : Expr} {body : List Stmt} {tc : DT} (hp : PassesOwn (model X.prog X.w) X.A X.env X.xe) (hc : FT X G c tc) (hb : FSs X G body t) : FS X G (.While c body [] pos) (dWhile tc t) :=
  PS.imp (ps_while hp hc hb) fun D σ H ⟨F0, H0, F, ρ, E, g, ⟨n, q⟩, m⟩ => by
    refine ⟨fun k σ H => ∃ Fi ρ, GS G F0 H0 Fi ρ σ H ∧ Same F Fi ∧ dWhileN tc t E k ρ, ⟨n, F, ρ, g, Same.refl F, q⟩, ?_⟩
    rintro k σ H ⟨Fi, ρ, g, s, q⟩
    cases k with
    | zero => exact q.elim
    | succ k =>
      refine ⟨_, _, _, g.geA, q, fun b H1 F1 s1 q1 => ?_⟩
      have g1 := g.afterF s1
      cases b with
      | false =>
        rw [if_neg Bool.false_ne_true] at q1
        dsimp only
        rw [if_neg Bool.false_ne_true]
        exact m.nx Fi _ _ _ g1 s q1
      | true =>
        rw [if_pos rfl] at q1
        dsimp only
        rw [if_pos rfl]
        refine ⟨fun σ' H' => ∃ Fi ρ, GS G F0 H0 Fi ρ σ' H' ∧ Same F Fi ∧ dWhileN tc t E k ρ, fun σ' H' h => ⟨k, Nat.lt_succ_self k, h⟩, F0, H0, Fi, ρ, _, g1, q1, ?_⟩
        exact ⟨fun F' ρ' σ' H' g' s' q' => ⟨F', ρ', g', s.trans s', q'⟩, m.rt, fun F' ρ' σ' H' g' s' q' => m.nx F' _ _ _ g' (s.trans s') q', fun F' ρ' σ' H' g' s' q' => ⟨F', ρ', g', s.trans s', q'⟩⟩
def dForL (td : DG) (tb : DS) (E : DEnds) : List D → EnvS → Prop
  | [], ρ => E.nx ρ
  | d :: ds, ρ => ∃ asg, td d = some asg ∧ tb { E with nx := dForL td tb E ds, ct := dForL td tb E ds, bk := E.nx } (setS ρ asg)
def dFor (ti : DI) (td : DG) (tb : DS) : DS := fun E ρ => ti (shOf ρ) fun ds => dForL td tb E ds ρ
theorem fs_for {tg iter : Expr} {body : List Stmt} {is : List Nat} {ti : DI} {td : DG} (hp : PassesOwn (model X.prog X.w) X.A X.env X.xe) (hc : X.calm = true) (hi : FI X G tg iter ti) (hg : FG X G tg is td) (hb : FSs X G body t)
    (hs : ∀ x, foldedSetIterable iter X.env x = pure x := by intro _; rfl) : FS X G (.For tg iter body [] pos) (dFor ti td t) :=
  PS.imp (ps_for hp hc hi hg.pg hb hs) fun D σ H ⟨F0, H0, F, ρ, E, g, q, m⟩ => ⟨F, _, _, g.geP, q, fun J H1 F1 ds s1 w q1 => by
    refine ⟨fun i k σ H => k = ds.length - i ∧ i ≤ ds.length ∧ ∃ Fi ρ, GS G F0 H0 Fi ρ σ H ∧ Same F1 Fi ∧ dForL td t E (ds.drop i) ρ, ⟨_, rfl, Nat.zero_le _, F1, ρ, g.afterP s1, Same.refl F1, by rw [List.drop_zero]; exact q1⟩, ?_⟩
    rintro i k σ H ⟨rfl, hi, Fi, ρ, gi, si, qi⟩
    have sm : Same F1 H := fun a o e => gi.st.fix a o (si a o e)
    by_cases hlt : i < ds.length
    · refine .inr ⟨w.goes i H hlt sm, fun σ' H' => ∃ Fi ρ, GS G F0 H0 Fi ρ σ' H' ∧ Same F1 Fi ∧ dForL td t E (ds.drop (i + 1)) ρ, fun σ' H' h => ⟨ds.length - (i + 1), by omega, rfl, by omega, h⟩, fun x H' y => ?_⟩
      obtain ⟨d, ed, hy⟩ := w.yields i H x H' hlt sm y
      have edrop : ds.drop i = d :: ds.drop (i + 1) := by
        obtain ⟨h1, h2⟩ := List.getElem?_eq_some_iff.mp ed
        rw [← h2, List.drop_eq_getElem_cons h1]
      rw [edrop] at qi
      obtain ⟨asg, ea, qt⟩ := qi
      obtain ⟨Fy, sy, ry⟩ : ∃ Fy, Step G Fi H Fy H' ∧ Rep G Fy x d := by
        rcases hy with ⟨rfl, r⟩ | ⟨T, vs', es, rfl, hT, rfl, rfl, r⟩
        · exact ⟨Fi, Step.refl gi.st.fix gi.st.dr, r.mono si⟩
        · have sa := Step.alloc (o := .tup vs') gi.st.fix gi.st.dr hT
          exact ⟨_, sa, Rep.tup_iff.mpr ⟨T, vs', rfl, upd_same, (r.mono si).mono sa.grow⟩⟩
      refine ⟨Fy, d, asg, sy.fix, ry, ea, fun us hu => ?_⟩
      have g2 := GS.setAllSh (gi.afterP sy) hu
      rw [← setS_eq] at g2
      refine ⟨F0, H0, Fy, _, _, g2, qt, ?_⟩
      have sFy : Same F1 Fy := si.trans sy.grow
      exact ⟨fun F' ρ' σ' H' g' s' q' => ⟨F', ρ', g', sFy.trans s', q'⟩, m.rt, fun F' ρ' σ' H' g' s' q' => m.nx F' _ _ _ g' (s1.grow.trans (sFy.trans s')) q', fun F' ρ' σ' H' g' s' q' => ⟨F', ρ', g', sFy.trans s', q'⟩⟩
    · have e : i = ds.length := by omega
      subst e
      rw [List.drop_length] at qi
      exact .inl ⟨w.stops H sm, m.nx Fi _ _ _ gi (s1.grow.trans si) qi⟩⟩
end
end L3
end
section
set_option Elab.async false
set_option linter.all false
set_option maxRecDepth 100000
/-! L3g: the draws, the script; what a def promises over data. -/
namespace L3
open PySem PySem.Spec PyProof.Rows L2
/-! ### the script -/
section
variable {X : Cx} {G : Ctx} {tg e : Expr} {te : DE} {pos p : Pos}
theorem Rep.scr_iff {F : Hp} {v : V} : Rep G F v .scr ↔ ∃ (a : Addr) (ns : List Int), v = .ref a ∧ SqL G.tb.kk F a (ns.map V.int) ∧ ns.length ≤ 63 := by unfold Rep; exact Iff.rfl
theorem Rep.drw_iff {F : Hp} {v : V} : Rep G F v .drw ↔ ∃ d, (∃ l c, G.dr = some (d, l, c)) ∧ v = .ref d := by unfold Rep; exact Iff.rfl
theorem walkD_sqL {K : PySem.W.Frag} {F : Hp} {a : Addr} {vs : List V} {ds : List D} (h : SqL K F a vs) (r : Reps G F vs ds) : WalkD G F (Itl K a) ds := by
  have hl := r.length
  refine ⟨fun i H hi s => ⟨vs, vs[i]'(by omega), SqL.same h s, by simp⟩, fun H s => ⟨vs, SqL.same h s, by omega⟩, fun i H x H' hi s y => ?_⟩
  obtain ⟨e, q⟩ := y
  obtain ⟨d, e1, e2⟩ := r.get' (q vs (SqL.same h s))
  exact ⟨d, e1, .inl ⟨e, e2⟩⟩
def dScrI (te : DE) : DI := fun δ Q => te δ fun x => x = .scr ∧ ∀ ns : List Int, ns.length ≤ 63 → Q (ns.map D.int)
theorem fi_scr (hK : X.K = G.tb.kk) (h : FE X G e te) : FI X G tg e (dScrI te) := PI.imp (pi_seq h) fun σ H R ⟨F, δ, Q, ge, q, k⟩ => ⟨F, δ, _, ge, q, fun v H1 F1 d s1 r1 q1 => by
  obtain ⟨rfl, q1⟩ := q1
  obtain ⟨a, ns, rfl, hS, hl⟩ := Rep.scr_iff.mp r1
  rw [← hK] at hS
  exact ⟨a, rfl, .inl ⟨⟨_, SqL.same hS s1.fix⟩, k _ H1 F1 _ s1 (walkD_sqL hS (Reps.of_ints ns)) (q1 ns hl)⟩⟩⟩
/-- len(script) -/
def dLenS (te : DE) : DE := fun δ Q => te δ fun x => x = .scr ∧ ∀ n : Nat, n ≤ 63 → Q (.int n)
theorem fe_lenS (hK : X.K = G.tb.kk) (hg : Gl X "len") (hm : X.mg "len" = none) (h : FE X G e te) (he : starEach [e] X.env = (false, eval e X.env) :: starEach [] X.env := by rfl) : FE X G (.Call (.Name "len" p) [e] [] pos) (dLenS te) :=
  PE.imp (pe_callB call_len hg hm boot_len (pa_cons h pa_nil he) (by decide) (by decide) he) fun σ H R ⟨F, δ, Q, ge, q, k⟩ => ⟨F, δ, _, ge, q, fun v H1 F1 d s1 r1 q1 => by
    obtain ⟨rfl, q1⟩ := q1
    obtain ⟨a, ns, rfl, hS, hl⟩ := Rep.scr_iff.mp r1
    rw [← hK] at hS
    exact ⟨.ref a, _, rfl, .inl ⟨_, SqL.same hS s1.fix, rfl⟩, k _ H1 F1 _ s1 (Rep.int_iff.mpr rfl) (by rw [List.length_map]; exact q1 ns.length hl)⟩⟩
end
/-! ### the draws -/
abbrev dkv (r t : Int) (l c : Addr) : List (Key × V) := [(Sum.inr ("large" : Str), .ref l), (Sum.inr ("rest" : Str), .int r), (Sum.inr ("cells" : Str), .ref c), (Sum.inr ("turn" : Str), .int t)]
theorem dkv_large {r t l c} : valV (dkv r t l c) (Sum.inr ("large" : Str)) = some (.ref l) := by rfl
theorem dkv_rest {r t l c} : valV (dkv r t l c) (Sum.inr ("rest" : Str)) = some (.int r) := by rfl
theorem dkv_cells {r t l c} : valV (dkv r t l c) (Sum.inr ("cells" : Str)) = some (.ref c) := by rfl
theorem dkv_turn {r t l c} : valV (dkv r t l c) (Sum.inr ("turn" : Str)) = some (.int t) := by rfl
theorem dkv_prest {r t l c v} : putK (dkv r t l c) (Sum.inr ("rest" : Str)) (.int v) = dkv v t l c := by rfl
theorem dkv_pturn {r t l c v} : putK (dkv r t l c) (Sum.inr ("turn" : Str)) (.int v) = dkv r v l c := by rfl
section
variable {X : Cx} {G : Ctx} {tg e o el : Expr} {te tl : DE} {pos p p1 p2 p3 p4 pos1 pos' apos cpos : Pos} {j1 j2 j3 : Nat}
/-- draw['rest'], draw['turn']; draw['cells'] -/
def dDrN (te : DE) : DE := fun δ Q => te δ fun x => x = .drw ∧ ∀ r : Int, 0 ≤ r → Q (.int r)
def dDrC (te : DE) : DE := fun δ Q => te δ fun x => x = .drw ∧ ∀ cs : List Int, (∀ x ∈ cs, 0 ≤ x) → Q (.lst (cs.map D.int))
theorem fe_drR {j} (hu : X.A.units + 1 < cLine) (h : FE X G o te) (hs : NoSl (.Constant (.str "rest") j p) := by intro _ _; rfl) : FE X G (.Subscript o (.Constant (.str "rest") j p) pos) (dDrN te) :=
  PE.imp (pe_dget hu h pe_str hs) fun σ H R ⟨F, δ, Q, ge, q, k⟩ => ⟨F, δ, _, ge, q, fun v H1 F1 d s1 r1 q1 => by
    obtain ⟨rfl, q1⟩ := q1
    obtain ⟨d, ⟨l, c, e⟩, rfl⟩ := Rep.drw_iff.mp r1
    obtain ⟨⟨r, t, ls, cs, h1, h2, h3, hr, ht, _⟩, _⟩ := s1.dr d l c e
    refine ⟨d, .int r, rfl, ?_, k _ H1 F1 _ s1 (Rep.int_iff.mpr rfl) (q1 r hr)⟩
    have := DGet.k (k := Sum.inr ("rest" : Str)) h1
    rw [dkv_rest] at this
    exact this⟩
theorem fe_drT {j} (hu : X.A.units + 1 < cLine) (h : FE X G o te) (hs : NoSl (.Constant (.str "turn") j p) := by intro _ _; rfl) : FE X G (.Subscript o (.Constant (.str "turn") j p) pos) (dDrN te) :=
  PE.imp (pe_dget hu h pe_str hs) fun σ H R ⟨F, δ, Q, ge, q, k⟩ => ⟨F, δ, _, ge, q, fun v H1 F1 d s1 r1 q1 => by
    obtain ⟨rfl, q1⟩ := q1
    obtain ⟨d, ⟨l, c, e⟩, rfl⟩ := Rep.drw_iff.mp r1
    obtain ⟨⟨r, t, ls, cs, h1, h2, h3, hr, ht, _⟩, _⟩ := s1.dr d l c e
    refine ⟨d, .int t, rfl, ?_, k _ H1 F1 _ s1 (Rep.int_iff.mpr rfl) (q1 t ht)⟩
    have := DGet.k (k := Sum.inr ("turn" : Str)) h1
    rw [dkv_turn] at this
    exact this⟩
theorem fe_drC {j} (hu : X.A.units + 1 < cLine) (h : FE X G o te) (hs : NoSl (.Constant (.str "cells") j p) := by intro _ _; rfl) : FE X G (.Subscript o (.Constant (.str "cells") j p) pos) (dDrC te) :=
  PE.imp (pe_dget hu h pe_str hs) fun σ H R ⟨F, δ, Q, ge, q, k⟩ => ⟨F, δ, _, ge, q, fun v H1 F1 d s1 r1 q1 => by
    obtain ⟨rfl, q1⟩ := q1
    obtain ⟨d, ⟨l, c, e⟩, rfl⟩ := Rep.drw_iff.mp r1
    obtain ⟨⟨r, t, ls, cs, h1, h2, h3, hr, ht, _, hcs, _⟩, _, _, u, hc⟩ := s1.dr d l c e
    have hc' := s1.fix _ _ hc
    rw [h3] at hc'
    cases hc'
    refine ⟨d, .ref c, rfl, ?_, k _ H1 F1 _ s1 (Rep.lst_iff.mpr ⟨c, _, rfl, hc, Reps.of_ints cs⟩) (q1 cs hcs)⟩
    have := DGet.k (k := Sum.inr ("cells" : Str)) h1
    rw [dkv_cells] at this
    exact this⟩
/-- the draws' dict is changed -/
theorem Step.drw {F H : Hp} {d l c : Addr} {H' : Hp} (hs : Same F H) (hd : DrOk G F H) (e : G.dr = some (d, l, c)) (h : DrawAt H' d l c) (ho : ∀ a, a ≠ d → a ≠ l → H' a = H a) : Step G F H F H' := by
  obtain ⟨h1, h2, h3, h4⟩ := hd d l c e
  refine ⟨fun a o z n => ?_, fun _ _ z => z, fun _ _ z => .inl z, fun a o z => ?_, fun d' l' c' e' => ?_⟩
  · rw [ho a (fun y => n ⟨d, l, c, e, .inl y⟩) (fun y => n ⟨d, l, c, e, .inr (.inl y)⟩)]; exact z
  · rw [ho a (ne_of_none z h2) (ne_of_none z h3)]; exact hs a o z
  · rw [e] at e'
    cases e'
    exact ⟨h, h2, h3, h4⟩
/-- draw['large'].pop(0) if draw['large'] != [] else .. -/
def dPop (i : Nat) (tl : DE) : DE := fun δ Q => dVar i δ fun x => x = .drw ∧ (∀ r : Int, 0 ≤ r → Q (.int r)) ∧ tl δ Q
theorem ints_dp {K : PySem.W.Frag} {H : Hp} : ∀ ls : List Int, DpAll K H (ls.map V.int) (ls.map PyData.int)
  | [] => .nil
  | n :: ns => .cons (.int n) (ints_dp ns)
theorem canAll_ints : ∀ ls : List Int, PyData.canLayAll0 (ls.map PyData.int) = true
  | [] => by rw [List.map_nil, PyData.canLayAll0.eq_def]
  | n :: ns => by rw [List.map_cons, PyData.canLayAll0.eq_def]; dsimp only; rw [canAll_ints ns, PyData.canLay0.eq_def]; rfl
theorem depthAll_ints : ∀ ls : List Int, PyData.depthAll (ls.map PyData.int) = 0
  | [] => by rw [List.map_nil, PyData.depthAll.eq_def]
  | n :: ns => by rw [List.map_cons, PyData.depthAll.eq_def]; dsimp only; rw [depthAll_ints ns, PyData.depth.eq_def]; rfl
theorem shaped_ints (ls : List Int) : SeqAt.shaped (.list (ls.map PyData.int)) = true := by
  unfold SeqAt.shaped
  rw [PyData.canLay0.eq_def, PyData.depth.eq_def]
  simp [canAll_ints, depthAll_ints]
theorem eqv_nil (ls : List Int) : PyData.eqv (.list (ls.map PyData.int)) (.list []) = decide (ls = []) := by
  rw [PyData.eqv.eq_def]
  dsimp only
  cases ls with
  | nil => rw [List.map_nil, PyData.eqvAll.eq_def]; rfl
  | cons n ns => rw [List.map_cons, PyData.eqvAll.eq_def]; rfl
theorem fe_pop (hu : X.A.units + 64 < cLine) {i : Nat} {o2 : Expr} (h : PE X o (tVar i)) (h2 : PE X o2 (tVar i)) (hl : FE X G el tl)
    (hs : NoSl (.Constant (.str "large") j1 p1) := by intro _ _; rfl) (hs2 : NoSl (.Constant (.str "large") j2 p2) := by intro _ _; rfl) 
    (hbase : attributeBase (.Subscript o2 (.Constant (.str "large") j2 p2) p3) "pop" X.env (eval (.Subscript o2 (.Constant (.str "large") j2 p2) p3) X.env) = eval (.Subscript o2 (.Constant (.str "large") j2 p2) p3) X.env := by rfl)
    (hfew : ((backTo cpos (starEach [.Constant (.int 0) j3 pos'] X.env)).all (fun x => !x.1) && (backToKw cpos (keywordEach [] X.env)).all (fun x => x.1.isSome)
      && decide (([.Constant (.int 0) j3 pos'] : List Expr).length + ([] : List Keyword).length + (if ([] : List Keyword).isEmpty then 0 else 1) < 30)) = true := by rfl)
    (hline : (apos.endLine == cpos.line) = true := by rfl) (he : starEach [.Constant (.int 0) j3 pos'] X.env = (false, eval (.Constant (.int 0) j3 pos') X.env) :: starEach [] X.env := by rfl) :
    FE X G (.IfExp (.Compare (.Subscript o (.Constant (.str "large") j1 p1) p) [.NotEq] [.List [] p4] pos1) (.Call (.Attribute (.Subscript o2 (.Constant (.str "large") j2 p2) p3) "pop" apos) [.Constant (.int 0) j3 pos'] [] cpos) el pos) (dPop i tl) :=
  PE.imp (pe_ifExp (pt_cmpR (op_neD hu) (pe_dget (by omega) h pe_str hs) (pe_lst pa_nil) (nomark _)) (pe_bm PySem.F.plainAttrs_list PySem.F.slot_list_pop PySem.F.type_list_pop mt_popAt (pe_dget (by omega) h2 pe_str hs2) (pa_cons pe_int pa_nil he) hbase hfew hline he) hl)
    fun σ H R ⟨F, δ, Q, ge, q, k⟩ => by
      obtain ⟨x, e0, rfl, q1, q2⟩ := dVar_iff.mp q
      obtain ⟨v, e1, r1⟩ := ge.sl i _ e0
      obtain ⟨d, ⟨l, c, e⟩, rfl⟩ := Rep.drw_iff.mp r1
      obtain ⟨⟨r, t, ls, cs, h1, h2, h3, hr, ht, hls, hcs, n1, n2⟩, f1, f2, f3⟩ := ge.dr d l c e
      have g1 := DGet.k (k := Sum.inr ("large" : Str)) h1
      rw [dkv_large] at g1
      refine ⟨.ref d, e1, d, .ref l, rfl, g1, Nat.zero_le _, fun p hp => ?_⟩
      have s1 := Step.new_ (o := .lst []) ge.fix ge.dr hp
      have np : ∀ {a o}, H a = some o → a ≠ p := fun h => ne_of_none h hp
      refine ⟨.list (ls.map PyData.int), .list [], .lst (SqL.of (by rw [upd_ne (np h2)]; exact h2)) (ints_dp ls), .lst (SqL.of upd_same) .nil, shaped_ints ls, shaped_ints [], _, rfl, ?_⟩
      rw [eqv_nil]
      cases ls with
      | nil =>
        try dsimp only
        rw [if_neg (by simp)]
        exact ⟨F, δ, Q, ge.step s1, q2, fun v H' F' d s2 r2 q => k v H' F' d (s1.trans ge.dr s2) r2 q⟩
      | cons n ns =>
        try dsimp only
        rw [if_pos (by simp)]
        have g2 : DGet (upd H p (.lst [])) d (.str "large") (some (.ref l)) := by
          have := DGet.k (H := upd H p (.lst [])) (k := Sum.inr ("large" : Str)) (by rw [upd_ne (np h1)]; exact h1)
          rw [dkv_large] at this
          exact this
        have hl2 : upd H p (.lst []) l = some (.lst (V.int n :: ns.map V.int)) := by rw [upd_ne (np h2)]; exact h2
        refine ⟨.ref d, e1, d, .ref l, rfl, g2, .inl ⟨rfl, _, SqL.of hl2⟩, ?_⟩
        refine ⟨l, _, 0, 0, .int n, rfl, rfl, hl2, by decide, by decide, seqIndex_of (by decide) (by simp), rfl, ?_⟩
        obtain ⟨nd1, nd2⟩ := (ge.dr d l c e).1.apart
        have nlc : l ≠ c ∨ l = c := by by_cases h : l = c <;> simp [h]
        have s2 : Step G F (upd H p (.lst [])) F (upd (upd H p (.lst [])) l (.lst ((V.int n :: ns.map V.int).eraseIdx 0))) := by
          have nlc : l ≠ c := fun z => by
            obtain ⟨o, f3⟩ := f3
            rw [z, f3] at f2
            cases f2
          refine Step.drw s1.fix s1.dr e ⟨⟨r, t, ns, cs, ?_, upd_same, ?_, hr, ht, fun x hx => hls x (List.mem_cons_of_mem _ hx), hcs, ?_, n2⟩⟩ fun a _ n => by rw [upd_ne n]
          · rw [upd_ne nd1, upd_ne (np h1)]; exact h1
          · rw [upd_ne (Ne.symm nlc), upd_ne (np h3)]; exact h3
          · rw [List.length_cons] at n1; omega
        exact k _ _ F _ (s1.trans ge.dr s2) (Rep.int_iff.mpr rfl) (q1 n (hls n List.mem_cons_self))
/-- draw['rest'] = e, draw['turn'] = e -/
def dDput (i : Nat) (te : DE) : DS := fun E ρ => te (alOf ρ) fun d => asInt d fun r => 0 ≤ r ∧ ρ[i]? = some (some (.sh .drw)) ∧ E.nx ρ
theorem dput_read {Dd : Ends} {k : Str} {σ : St} {H : Hp} {i : Nat} {F0 H0 F : Hp} {ρ : EnvS} {E : DEnds} {r : Int} (g : GS G F0 H0 F ρ σ H) (m : Meets3 G F0 H0 F E Dd) (hr0 : 0 ≤ r) (e : ρ[i]? = some (some (.sh .drw))) (hk : k = "rest" ∨ k = "turn") (q : E.nx ρ) :
    tVar i σ H fun x H2 => tC (.str k) σ H2 fun y H3 => ∃ a H4, x = .ref a ∧ DPut H3 a y (.int r) H4 ∧ Dd.nx σ H4 := by
  obtain ⟨v, e1, r1⟩ := g.sl i _ e
  obtain ⟨d, ⟨l, c, e2⟩, rfl⟩ := Rep.drw_iff.mp (show Rep G F v .drw from r1)
  obtain ⟨⟨r', t, ls, cs, h1, h2, h3, hr, ht, hls, hcs, n1, n2⟩, f1, f2, f3⟩ := g.st.dr d l c e2
  obtain ⟨nd1, nd2⟩ := (g.st.dr d l c e2).1.apart
  have fin : ∀ r2 t2 : Int, 0 ≤ r2 → 0 ≤ t2 → GS G F0 H0 F ρ σ (upd H d (.dK (dkv r2 t2 l c))) := fun r2 t2 z1 z2 => g.afterP (Step.drw g.st.fix g.st.dr e2 ⟨⟨r2, t2, ls, cs, upd_same, by rw [upd_ne (Ne.symm nd1)]; exact h2, by rw [upd_ne (Ne.symm nd2)]; exact h3, z1, z2, hls, hcs, n1, n2⟩⟩ fun a n _ => by rw [upd_ne n])
  refine ⟨.ref d, e1, d, ?_⟩
  rcases hk with rfl | rfl
  · have p := DPut.k (k := Sum.inr ("rest" : Str)) (v := .int r) h1 (by show 4 < sizeLine; rw [sizeLine_eq]; omega)
    rw [dkv_prest] at p
    exact ⟨_, rfl, p, m.nx F _ _ _ (fin _ _ hr0 ht) (Same.refl F) q⟩
  · have p := DPut.k (k := Sum.inr ("turn" : Str)) (v := .int r) h1 (by show 4 < sizeLine; rw [sizeLine_eq]; omega)
    rw [dkv_pturn] at p
    exact ⟨_, rfl, p, m.nx F _ _ _ (fin _ _ hr hr0) (Same.refl F) q⟩
theorem fs_dput {i : Nat} {k : Str} (hk : k = "rest" ∨ k = "turn") (hu : X.A.units + 1 < cLine) (hx : PE X o (tVar i)) (h : FE X G e te) (hs : swapsWith e (some (.Subscript o (.Constant (.str k) j1 p) pos')) pos.line X.env = pure false := by rfl) : FS X G (.Assign [.Subscript o (.Constant (.str k) j1 p) pos'] e pos) (dDput i te) :=
  PS.imp (ps_dput hu hx pe_str h hs) fun D σ H ⟨F0, H0, F, ρ, E, g, q, m⟩ => ⟨_, _, _, g.geA, q, fun v H1 F1 d s1 r1 q1 => by
    obtain ⟨r, rfl, h0, e, q2⟩ := asInt_iff.mp q1
    rw [Rep.int_iff.mp r1]
    exact dput_read (g.afterF s1) m h0 e hk q2⟩
end
end L3
end
section
set_option Elab.async false
set_option linter.all false
set_option maxRecDepth 100000
/-! L3h: what a def promises: its body's reading. -/
namespace L3
open PySem PySem.Spec PyProof.Rows L2
def sh0 (ds : List D) (nones : EnvS) : EnvS := ds.map (fun d => some (S.sh d)) ++ nones
/-- a def's promise over data -/
def dDef (nones : EnvS) (t : DS) : DLK := fun ds Q => t { nx := fun _ => Q .non, rt := Q } (sh0 ds nones)
/-- an __init__'s -/
def dIni (c : Nat) (nones : EnvS) (t : DS) : DLL := fun ds Q => ∀ p dx : Addr, t { nx := fun ρ => ∃ fs, ρ[0]? = some (some (.oi p dx c fs)) ∧ Q fs, rt := fun _ => False } (some (.oi p dx c []) :: sh0 ds nones)
section
variable {P : Program} {w : World} {K : PySem.W.Frag} {mg : Str → Option Value} {base : Heap} {x qual : Str} {params : Arguments} {body : List Stmt} {scope : Scope} {f : Addr} {fd : FuncData}
theorem sh0_get {ds : List D} {nones : EnvS} (hn : ∀ o ∈ nones, o = none) {i : Nat} {s : S} (h : (sh0 ds nones)[i]? = some (some s)) : ∃ d, s = .sh d ∧ ds[i]? = some d := by
  unfold sh0 at h
  by_cases hi : i < ds.length
  · rw [List.getElem?_append_left (by simpa using hi), List.getElem?_map] at h
    obtain ⟨d, e1, e2⟩ := Option.map_eq_some_iff.mp h
    cases e2
    exact ⟨d, rfl, e1⟩
  · rw [List.getElem?_append_right (by simpa using hi)] at h
    have := hn _ (List.mem_of_getElem? h)
    cases this
theorem gs_start {G : Ctx} {F H : Hp} {N : List Str} {vs : List V} {ds : List D} {nones : EnvS} (hs : Same F H) (hd : DrOk G F H) (r : Reps G F vs ds) (hn : ∀ o ∈ nones, o = none) (hl : nones.length = N.length - ds.length) : GS G F H F (sh0 ds nones) (start N vs) H := by
  refine ⟨Step.refl hs hd, hd, fun i s e => ?_, fun i j s t p e1 _ o1 => ?_, ?_⟩
  · obtain ⟨d, rfl, e1⟩ := sh0_get hn e
    obtain ⟨v, e2, r2⟩ := r.get e1
    refine ⟨v, ?_, r2⟩
    unfold L2.start
    rw [List.getElem?_append_left (by rw [List.length_map]; exact (List.getElem?_eq_some_iff.mp e2).1), List.getElem?_map, e2]
    rfl
  · obtain ⟨d, rfl, _⟩ := sh0_get hn e1
    cases o1
  · unfold sh0 L2.start
    rw [List.length_append, List.length_append, List.length_map, List.length_map, List.length_replicate, hl, r.length]
theorem fnF {N ps : List Str} {k n : Nat} {T : Tabs} {nones : EnvS} {t : DS} (F : FunD K x qual params body scope [] [] f fd) (S : FnScope N ps scope) (hn : ∀ o ∈ nones, o = none) (hp : ps.length = n) (hl : nones.length = N.length - n)
    (hbody : ∀ (dr : Option (Addr × Addr × Addr)) (cdv : Value) (A : Around) (outer : List Env) (s : Shared) (H : Hp) (E : XK), Room k (A.deeper (envOfC qual scope s.heap.objs.size f cdv)) →
      FSs (cxOf CX0 P w K mg base N qual scope f cdv A outer s H E) ⟨T, dr⟩ body t) : FnOk P w K mg base CX0 (k + 1) f fd ps (spF T n (dDef nones t)) := by
  refine F.ok (CX := CX0) S (fun vs H Q E h => (spF_len h).trans hp.symm) (fun cdv A outer s H vs Q E hr h => ?_)
  obtain ⟨dr, F0, ds, Qd, hs, hd, rv, hlen, q, kk⟩ := h
  refine ⟨_, hbody dr cdv A outer s H E hr, F0, H, F0, sh0 ds nones, _, gs_start hs hd rv hn (by rw [hl, hlen]), q, ?_⟩
  exact ⟨fun F' ρ' σ' H' g _ q => kk .non H' F' .non g.st (Rep.non_iff.mpr rfl) q, fun F' H' v d s r q => kk v H' F' d s r q, fun _ _ _ _ _ _ q => q.elim, fun _ _ _ _ _ _ q => q.elim⟩
theorem fnI {N ps : List Str} {k n c : Nat} {T : Tabs} {nones : EnvS} {t : DS} (F : FunD K x qual params body scope [] [] f fd) (S : FnScope N ps scope) (hn : ∀ o ∈ nones, o = none) (hp : ps.length = n + 1) (hl : nones.length = N.length - (n + 1))
    (hbody : ∀ (dr : Option (Addr × Addr × Addr)) (cdv : Value) (A : Around) (outer : List Env) (s : Shared) (H : Hp) (E : XK), Room k (A.deeper (envOfC qual scope s.heap.objs.size f cdv)) →
      FSs (cxOf CX0 P w K mg base N qual scope f cdv A outer s H E) ⟨T, dr⟩ body t) : FnOk P w K mg base CX0 (k + 1) f fd ps (spI T c n (dIni c nones t)) := by
  refine F.ok (CX := CX0) S (fun vs H Q E h => ?_) (fun cdv A outer s H vs Q E hr h => ?_)
  · obtain ⟨dr, F0, y, dx, us, ds, Qd, rfl, _, _, _, _, _, _, _, _, rv, hlen, _⟩ := h
    rw [List.length_cons, rv.length, hlen, hp]
  obtain ⟨dr, F0, y, dx, us, ds, Qd, rfl, hx, hdx, fx, fdx, n1, n2, hs, hd, rv, hlen, q, kk⟩ := h
  have h0 : ∀ {a o}, F0 a = some o → a ≠ y := fun e => ne_of_none e fx
  have hs0 : Same F0 (fun a => if a = y then none else H a) := fun a o e => by
    dsimp only
    rw [if_neg (h0 e)]
    exact hs a o e
  have hd0 : DrOk ⟨T, dr⟩ F0 (fun a => if a = y then none else H a) := fun d l c' e => by
    obtain ⟨⟨r, t, ls, cs, h1, h2, h3, h4⟩, f⟩ := hd d l c' e
    refine ⟨⟨r, t, ls, cs, ?_, ?_, ?_, h4⟩, f⟩
    · (try dsimp only)
      rw [if_neg (fun z => n1 ⟨d, l, c', e, .inl z.symm⟩)]; exact h1
    · (try dsimp only)
      rw [if_neg (fun z => n1 ⟨d, l, c', e, .inr (.inl z.symm)⟩)]; exact h2
    · (try dsimp only)
      rw [if_neg (fun z => n1 ⟨d, l, c', e, .inr (.inr z.symm)⟩)]; exact h3
  have g : GS ⟨T, dr⟩ F0 (fun a => if a = y then none else H a) F0 (some (.oi y dx c []) :: sh0 ds nones) (start N (.ref y :: us)) H := by
    have gs0 := gs_start (N := N.drop 1) hs hd rv hn (by rw [hl, hlen, List.length_drop]; omega)
    have est : start N (.ref y :: us) = some (.ref y) :: start (N.drop 1) us := by
      unfold L2.start
      rw [List.map_cons, List.length_cons, List.length_drop, show N.length - (us.length + 1) = N.length - 1 - us.length by omega]
      rfl
    rw [est]
    refine ⟨⟨fun a o e _ => ?_, fun _ _ z => z, fun _ _ z => .inl z, hs, hd⟩, hd0, fun i s e => ?_, fun i j s t p e1 e2 o1 o2 _ _ => ?_, ?_⟩
    · try dsimp only at e
      by_cases ha : a = y
      · rw [if_pos ha] at e; cases e
      · rw [if_neg ha] at e; exact e
    · cases i with
      | zero =>
        simp at e
        subst e
        exact ⟨.ref y, rfl, [], rfl, by rw [List.zip_nil_right]; exact hx, Nat.zero_le _, .nil, fx, by dsimp only; rw [if_pos rfl], n1⟩
      | succ i =>
        have e' : (sh0 ds nones)[i]? = some (some s) := by simpa using e
        obtain ⟨d, rfl, _⟩ := sh0_get hn e'
        obtain ⟨v, e2, r⟩ := gs0.sl i _ e'
        exact ⟨v, by simpa using e2, r⟩
    · have z : ∀ (k : Nat) (s : L3.S), (some (L3.S.oi y dx c []) :: sh0 ds nones)[k]? = some (some s) → s.own = true → k = 0 := fun k s e o => by
        cases k with
        | zero => rfl
        | succ k =>
          have e' : (sh0 ds nones)[k]? = some (some s) := by simpa using e
          obtain ⟨d, rfl, _⟩ := sh0_get hn e'
          cases o
      rw [z i s e1 o1, z j t e2 o2]
    · rw [List.length_cons, List.length_cons, gs0.len]
  refine ⟨_, hbody dr cdv A outer s H E hr, F0, _, F0, _, _, g, q y dx, ?_⟩
  refine ⟨fun F' ρ' σ' H' g' _ q => ?_, fun F' H' v d s r q => q.elim, fun _ _ _ _ _ _ q => q.elim, fun _ _ _ _ _ _ q => q.elim⟩
  obtain ⟨fs, e, q⟩ := q
  obtain ⟨v, _, ws, rfl, h1, h2, h3, h4, _, _⟩ := g'.sl 0 _ e
  exact kk H' F' ws fs g'.st h1 h4 h2 h3 q
end
end L3
end
section
set_option Elab.async false
set_option linter.all false
set_option maxRecDepth 100000
/-! L3i: _law_begun and law. -/
namespace L3
open PySem PySem.Spec PyProof.Rows L2
/-- _law_begun's promise: the draws' state stands, all new -/
def spBegun (T : Tabs) : Sp := fun vs H Q _ => ∃ (a : Addr) (ns : List Int), vs = [.ref a] ∧ SqL T.kk H a (ns.map V.int) ∧ ns.length ≤ 63 ∧
  ∀ d l c H', H d = none → H l = none → H c = none → l ≠ c → (∀ o, H a = some o → H' a = some o) → DrawAt H' d l c → Q (.ref d) H'
/-- the law's -/
def spLaw (T : Tabs) : Sp := fun vs H Q _ => ∃ (a : Addr) (ns : List Int), vs = [.ref a] ∧ ns.length ≤ 63 ∧ SqL T.kk H a (ns.map V.int) ∧ ∀ H', Q (.bl true) H'
theorem script_fix {K : PySem.W.Frag} {H : Hp} {a : Addr} {vs : List V} (h : SqL K H a vs) : ∃ F : Hp, Same F H ∧ SqL K F a vs ∧ ∀ x, F x = none ∨ (x = a ∧ F x = H a ∧ ∃ o, H a = some o) := by
  rcases h with h | h
  · obtain ⟨o, ho⟩ : ∃ o, H a = some o := by
      rcases h with h | ⟨o, h⟩
      · exact ⟨_, h⟩
      · exact ⟨_, h⟩
    have hs : ∀ x, (fun x => if x = a then H a else none : Hp) x = (if x = a then H a else none) := fun _ => rfl
    refine ⟨fun x => if x = a then H a else none, fun x o e => ?_, .inl ?_, fun x => ?_⟩
    · rw [hs] at e
      by_cases hx : x = a
      · subst hx
        rw [if_pos rfl] at e
        exact e
      · rw [if_neg hx] at e; cases e
    · unfold Rd at h ⊢
      rw [hs, if_pos rfl]
      exact h
    · rw [hs]
      by_cases hx : x = a
      · right
        exact ⟨hx, by rw [if_pos hx], o, ho⟩
      · left
        rw [if_neg hx]
  · exact ⟨fun _ => none, fun _ _ e => (by cases e), Or.inr h, fun _ => Or.inl rfl⟩
abbrev tBegunRet (T : Tabs) (tl : DA) : TS := tRet (tDisp [(tC (.str "large"), tVar 1), (tC (.str "rest"), tC (.int 0)), (tC (.str "cells"), toF ⟨T, none⟩ tl), (tC (.str "turn"), tC (.int 0))])
def begunNx (tl : DA) (ρ : EnvS) : Prop := ∃ ls : List Int, ρ[1]? = some (some (.ow (ls.map D.int))) ∧ (∀ x ∈ ls, 0 ≤ x) ∧ ls.length ≤ 63 ∧ tl (shOf ρ) fun ds => ∃ cs : List Int, ds = cs.map D.int ∧ (∀ x ∈ cs, 0 ≤ x) ∧ cs.length ≤ 63
theorem begun_read {T : Tabs} {N : List Str} {nones : EnvS} {t1 : DS} {tl : DA} {vs : List V} {H : Hp} {Q : VK} {E : XK} (hn : ∀ o ∈ nones, o = none) (hl : nones.length = N.length - 1) (h : spBegun T vs H Q E)
    (q : t1 { nx := begunNx tl, rt := fun _ => False } (sh0 [.scr] nones)) : (tSeq (tsF ⟨T, none⟩ t1) (tBegunRet T tl)) { nx := fun _ H' => Q .non H', rt := Q } (L2.start N vs) H := by
  obtain ⟨a, ns, rfl, hS, hlen, kk⟩ := h
  obtain ⟨F, sF, hF, hFa⟩ := script_fix hS
  have dr0 : ∀ (F H : Hp), DrOk ⟨T, none⟩ F H := fun F H d l c e => by cases e
  have g0 : GS ⟨T, none⟩ F H F (sh0 [.scr] nones) (L2.start N [.ref a]) H := gs_start sF (dr0 _ _) (.cons (Rep.scr_iff.mpr ⟨a, ns, rfl, hF, hlen⟩) .nil) hn hl
  refine ⟨F, H, F, _, _, g0, q, ?_⟩
  refine ⟨fun F1 ρ1 σ1 H1 g1 _ q1 => ?_, fun _ _ _ _ _ _ q => q.elim, fun _ _ _ _ _ _ q => q.elim, fun _ _ _ _ _ _ q => q.elim⟩
  obtain ⟨ls, e1, hls, lls, q1⟩ := q1
  have ndr : ∀ a, ¬ Dr ⟨T, none⟩ a := fun a ⟨d, l, c, e, _⟩ => by cases e
  intro p hp
  have s1 := Step.new_ (o := .dK []) g1.st.fix (dr0 _ _) hp
  have g2 := g1.afterP s1
  obtain ⟨v, e2, l, ws, rfl, h1, h2, h3, h4, h5⟩ := g2.sl 1 _ e1
  refine ⟨.ref l, e2, F1, _, _, g2.geP, q1, fun c us H3 F3 ds s3 hc fc _ hc3 rc q3 => ?_⟩
  obtain ⟨cs, rfl, hcs, lcs⟩ := q3
  have hp3 : H3 p = some (.dK []) := s3.same p _ upd_same (ndr p)
  have hl3 : H3 l = some (.lst ws) := s3.same l _ h1 (ndr l)
  have pl : l ≠ p := fun z => by rw [z, upd_same] at h1; cases h1
  have pc : c ≠ p := fun z => by rw [z, upd_same] at hc; cases hc
  refine ⟨hp3, [(Sum.inr ("large" : Str), .ref l), (Sum.inr ("rest" : Str), .int 0), (Sum.inr ("cells" : Str), .ref c), (Sum.inr ("turn" : Str), .int 0)], rfl, (by show 4 ≤ 15; decide), ?_⟩
  have em : mergeK [] [(Sum.inr ("large" : Str), V.ref l), (Sum.inr ("rest" : Str), .int 0), (Sum.inr ("cells" : Str), .ref c), (Sum.inr ("turn" : Str), .int 0)] = dkv 0 0 l c := by rfl
  rw [em]
  refine kk p l c _ (g1.st.dom (dr0 _ _) hp) h4 (g2.st.dom (dr0 _ _) hc) (fun z => by rw [z, hc] at h1; cases h1) (fun o e => ?_) ⟨0, 0, ls, cs, upd_same, ?_, ?_, by decide, by decide, hls, hcs, lls, lcs⟩
  · have pa : a ≠ p := fun z => by rw [z, g1.st.dom (dr0 _ _) hp] at e; cases e
    rw [upd_ne pa]
    exact s3.same a _ (by rw [upd_ne pa]; exact g1.st.same a _ e (ndr a)) (ndr a)
  · rw [upd_ne pl, hl3, Reps.ints h2]
  · rw [upd_ne pc, hc3, Reps.ints rc]
/-- the law behind its first row -/
def tLaw (T : Tabs) (nones : EnvS) (N : List Str) (t : DS) : TS := fun D σ H => ∃ (a : Addr) (ns : List Int), σ = L2.start N [.ref a] ∧ ns.length ≤ 63 ∧ SqL T.kk H a (ns.map V.int) ∧ (∀ H', D.rt (.bl true) H') ∧
  t { nx := fun _ => False, rt := fun d => d = .bl true } (some (.sh .scr) :: some (.sh .drw) :: nones)
theorem pss_law {X : Cx} {T : Tabs} {t : DS} {nones : EnvS} {N : List Str} {e : Expr} {rest : List Stmt} {pos pos' : Pos} (hK : X.K = T.kk) (hn : ∀ o ∈ nones, o = none) (hl : nones.length + 2 = N.length) (hN : X.N.Nodup) (hi : X.N[1]? = some ("draw" : Str)) (hx : Loc X.env.scope "draw")
    (hc : PE X e (tCall (spBegun T) [] E0 (tCons (tVar 0) tNil))) (h : ∀ dr, FSs X ⟨T, dr⟩ rest t) (hs : swapsWith e (some (.Name "draw" pos')) pos.line X.env = pure false := by rfl) (hf : X.fn ("draw" : Str) = true ∨ X.env.scope.names.lookup ("draw" : Str) = some .local := by first | exact .inl rfl | exact .inr rfl | assumption) :
    PSs X (.Assign [.Name "draw" pos'] e pos :: rest) (tLaw T nones N t) := by
  have hr : PSs X rest (fun D σ H => ∃ dr, tsF ⟨T, dr⟩ t D σ H) := ⟨fun pins s σ H D I ⟨dr, q⟩ => (h dr).run pins s σ H D I q⟩
  refine PSs.imp (pss_cons (ps_set hN hi hx hc hs hf) hr) fun D σ H ⟨a, ns, eσ, hlen, hS, hD, q⟩ => ?_
  subst eσ
  refine ⟨.ref a, rfl, ?_⟩
  refine ⟨a, ns, rfl, hS, hlen, fun d l c H' d0 l0 c0 elc ha hd => ?_⟩
  obtain ⟨F, sF, hF, hFa⟩ := script_fix hS
  have apart := hd.apart
  obtain ⟨r, t', ls, cs, h1, h2, h3, h4⟩ := hd.ex
  -- the cells may be the script's list, never: they are new
  have hF0 : ∀ x, H x = none → F x = none := fun x e => sF.free e
  have sF' : Same F H' := fun x o e => by
    rcases hFa x with z | ⟨rfl, z, _⟩
    · rw [z] at e; cases e
    · rw [z] at e; exact ha o e
  let F' : Hp := upd F c (.lst (cs.map V.int))
  have hDr : DrOk ⟨T, some (d, l, c)⟩ F' H' := fun d' l' c' e => by
    cases e
    refine ⟨hd, ?_, ?_, _, upd_same⟩
    · show upd F c _ d = none
      rw [upd_ne apart.2]; exact hF0 d d0
    · show upd F c _ l = none
      rw [upd_ne elc]; exact hF0 l l0
  have sF2 : Same F' H' := fun x o e => by
    by_cases hx : x = c
    · subst hx
      have e' : upd F x (.lst (cs.map V.int)) x = some o := e
      rw [upd_same] at e'
      cases e'
      exact h3
    · have e' : upd F c (.lst (cs.map V.int)) x = some o := e
      rw [upd_ne hx] at e'
      exact sF' x o e'
  have sFF : Same F F' := same_upd' (hF0 c c0)
  refine ⟨some (d, l, c), F', H', F', some (.sh .scr) :: some (.sh .drw) :: nones, _, ?_, q, ⟨fun _ _ _ _ _ _ q => q.elim, fun F2 H2 v d2 _ r2 e2 => ?_, fun _ _ _ _ _ _ q => q.elim, fun _ _ _ _ _ _ q => q.elim⟩⟩
  · have es : (L2.start N [V.ref a]).set 1 (some (V.ref d)) = some (.ref a) :: some (.ref d) :: List.replicate nones.length none := by
      unfold L2.start
      rw [← hl, List.length_singleton, show nones.length + 2 - 1 = nones.length + 1 by omega, List.replicate_succ]
      rfl
    rw [es]
    refine ⟨Step.refl sF2 hDr, hDr, fun i s e => ?_, fun i j s t p e1 e2 o1 o2 => ?_, by simp⟩
    · match i with
      | 0 =>
        simp at e
        subst e
        exact ⟨.ref a, rfl, Rep.scr_iff.mpr ⟨a, ns, rfl, SqL.same hF sFF, hlen⟩⟩
      | 1 =>
        simp at e
        subst e
        exact ⟨.ref d, rfl, (Rep.drw_iff (F := F') (v := .ref d)).mpr ⟨d, ⟨l, c, rfl⟩, rfl⟩⟩
      | i + 2 =>
        have e' : nones[i]? = some (some s) := by simpa using e
        cases hn _ (List.mem_of_getElem? e')
    · exfalso
      match i with
      | 0 => simp at e1; subst e1; cases o1
      | 1 => simp at e1; subst e1; cases o1
      | i + 2 =>
        have e' : nones[i]? = some (some s) := by simpa using e1
        cases hn _ (List.mem_of_getElem? e')
  · subst e2
    rw [Rep.bl_iff.mp r2]
    exact hD H2
end L3
end
section
set_option Elab.async false
set_option linter.all false
set_option maxRecDepth 100000
/-! L3j: what HandS lacks: a tuple times 1; list.index over data. -/
namespace L2
open PySem PySem.Spec PyProof.Rows
open AutoSeq1 (wpAny_loadPart')
open MeetsSeq MeetsSeq2 MeetsSeq3 SeqRoads2
theorem tuple_mul1 (l : Addr) (items : Array Value) (n : Nat) (dd : Option Addr) (sl : Array (Option Value)) (x : Int) (u : Tok) (c0 : (decide (x < -(2 ^ 63)) || decide (x ≥ 2 ^ 63)) = false) (c1 : (items.isEmpty || x == 1) = true) :
    Meets (Builtin.«tuple.__mul__» ⟨[.ref l, .int x u], []⟩) (fun _ R s => s.heap.get? l = some { cls := .type "tuple", dict := dd, data := .seq items n, slots := sl } ∧
      R (.ok (.ret (Value.ref l))) s) :=
  .of_wp fun prog w A R s h => by
    obtain ⟨hp, g, d, tk, os⟩ := s
    obtain ⟨hl, h⟩ := h
    have f1 := AutoSeq1.idx_int
    wp_walk using wpAny_loadPart' hl
    repeat (first
      | (refine wpAny_ite_false (decide_eq_false (by rw [c0]; exact Bool.false_ne_true)) ?_; wp_walk using wpAny_loadPart' hl)
      | (refine wpAny_ite_true (decide_eq_true (by rw [c1])) ?_; wp_walk using wpAny_loadPart' hl))
    exact ⟨_, rfl, h⟩
section
variable {X : Cx}
def rRepT1 (K : PySem.W.Frag) : R2 := fun x y H Q => ∃ l xs, x = .ref l ∧ y = .int 1 ∧ SqT K H l xs ∧ Q (.ref l) H
theorem op_repT1 : OpR X (binaryOp .Mult) (rRepT1 X.K) := by
  intro pins s σ H x y v u Q I rx ry h
  obtain ⟨l, xs, rfl, rfl, hT, q⟩ := h
  cases rx
  obtain ⟨t, rfl⟩ := ry
  obtain ⟨its, r, ⟨⟨cls, dd, data, sl⟩, ho, hc, n, hd⟩, hs⟩ := I.tuple hT
  simp only at hc hd
  subst hc hd
  refine wpAny_binaryOp_repeat_ref (T := "tuple") (U := "int") (by decide) ⟨_, ho, rfl⟩ (fun s' => typeIs_int s' 1 t) noFill_tuple_mul F.fills_int_mul F.slot_int_rmul repeat_tuple F.slot_int_index.lookup
    (call_meets F.slot_int_rmul (typeIs_int s 1 t) F.entry_int_rmul (F.args_int_rmul_2 _ _) (int_rmul_tuple 1 t l its.toArray n dd sl)
      ⟨ho, rfl, ⟨_, ho, rfl⟩, call_meets F.slot_tuple_mul ⟨_, ho, rfl⟩ F.entry_tuple_mul (F.args_tuple_mul_2 _ _) (tuple_mul1 l its.toArray n dd sl 1 t (by decide) (by rw [show ((1 : Int) == 1) = true by decide, Bool.or_true])) ⟨ho, ?_⟩⟩)
  exact ⟨.ref l, H, I, rfl, q⟩
/-- sum of a list or tuple of ints -/
def rSumB (K : PySem.W.Frag) : List V → Hp → VK → Prop := fun vs H Q => ∃ (a : Addr) (ns : List Int), vs = [V.ref a] ∧ (SqL K H a (ns.map V.int) ∨ SqT K H a (ns.map V.int)) ∧ Q (.int ns.sum) H
theorem cr_sumB (hc : X.calm = true) : CallR X (.builtin "sum") (rSumB X.K) := by
  intro pins s σ H vs us Q I r h
  obtain ⟨a, ns, rfl, hs | hs, q⟩ := h
  · exact cr_sum hc pins s σ H [V.ref a] us Q I r ⟨a, ns, rfl, hs, q⟩
  · obtain ⟨its, rv, hl, _⟩ := I.tuple hs
    rw [Vals.ref1 r]
    obtain ⟨xs, hx⟩ := rv.ints.allInts.items
    have hn : numsOf its.toArray.toList = ns := by rw [show its.toArray.toList = its from rfl, rv.ints.numsOf]
    rw [hx] at hl hn
    rw [nums_intItems] at hn
    refine PySem.W.ktm_sumG (I.ok.hd hc) hl fun h' tk t' hk => ?_
    rw [preSum_eq, List.take_of_length_le (by simp), hn]
    exact ⟨.int _, H, I.kept hk, ⟨_, rfl⟩, q⟩
theorem op_repTB : OpR X (binaryOp .Mult) (fun x y H Q => rRepT X.K x y H Q ∨ rRepT1 X.K x y H Q) := fun pins s σ H x y v u Q I rx ry h => h.elim (op_repT pins s σ H x y v u Q I rx ry) (op_repT1 pins s σ H x y v u Q I rx ry)
end
end L2
namespace L3
open PySem PySem.Spec PyProof.Rows L2
section
variable {X : Cx} {G : Ctx} {a b o e : Expr} {ta tb te : DE} {pos apos cpos : Pos}
/-- t * n, n from 1 on -/
def gRepT' : D2 := fun x y Q => asTup x fun xs => asInt y fun n => xs ≠ [] ∧ 1 ≤ n ∧ n ≤ 1000 ∧ xs.length ≤ 1000 ∧ Q (.tup (List.replicate n.toNat xs).flatten)
theorem od_repTB {K : PySem.W.Frag} : OpD G (fun x y H Q => rRepT K x y H Q ∨ rRepT1 K x y H Q) gRepT' := by
  intro F H x y d e Q R hs hd rx ry q k
  obtain ⟨xs, rfl, z0⟩ := asTup_iff.mp q
  obtain ⟨n, rfl, h0, h2, h3, hl, z1⟩ := asInt_iff.mp z0
  by_cases h1 : n = 1
  · subst h1
    obtain ⟨p, vs, rfl, h1, rv⟩ := Rep.tup_iff.mp rx
    refine .inr ⟨p, vs, rfl, Rep.int_iff.mp ry, SqT.of (hs _ _ h1), k _ H F _ (Step.refl hs hd) ?_ z1⟩
    simpa using rx
  · exact .inl (od_repT F H x y (.tup xs) (.int n) Q R hs hd rx ry ⟨h0, by omega, h3, hl, z1⟩ k)
/-- sum, of lists and tuples -/
def gSumB : DLK := fun ds Q => arg1 ds fun x => asSeq x fun xs => ∃ ns : List Int, xs = ns.map D.int ∧ Q (.int ns.sum)
theorem cd_sumB {K : PySem.W.Frag} : CallD G (rSumB K) gSumB := by
  intro F H vs ds Q R hs hd rv q k
  obtain ⟨x, rfl, z0⟩ := arg1_iff.mp q
  obtain ⟨xs, e, ns, rfl, z1⟩ := asSeq_iff.mp z0
  obtain ⟨v, rfl, r1⟩ := reps1 rv
  rcases e with rfl | rfl
  · obtain ⟨p, us, rfl, h1, r2⟩ := Rep.lst_iff.mp r1
    rw [r2.ints] at h1
    exact ⟨p, ns, rfl, .inl (SqL.of (hs _ _ h1)), k _ H F _ (Step.refl hs hd) (Rep.int_iff.mpr rfl) z1⟩
  · obtain ⟨p, us, rfl, h1, r2⟩ := Rep.tup_iff.mp r1
    rw [r2.ints] at h1
    exact ⟨p, ns, rfl, .inr (SqT.of (hs _ _ h1)), k _ H F _ (Step.refl hs hd) (Rep.int_iff.mpr rfl) z1⟩
/-- xs.index(e) -/
def dIndex (ta te : DE) : DE := fun δ Q => ta δ fun x => asLst x fun xs => te δ fun y => ∃ (p : PyData) (ps : List PyData) (j : Nat) (z : PyData), pys xs = some ps ∧ py y = some p ∧ SeqAt.shaped (.list ps) = true ∧ SeqAt.shaped p = true ∧
  ps[j]? = some z ∧ PyData.eqv z p = true ∧ (∀ (m : Nat) (z' : PyData), m < j → ps[m]? = some z' → PyData.eqv z' p = false) ∧ Q (.int (j : Nat))
theorem fe_index (hu : X.A.units + 65 < cLine) (ha : FE X G o ta) (h : FE X G e te)
    (hbase : attributeBase o "index" X.env (eval o X.env) = eval o X.env := by rfl)
    (hfew : ((backTo cpos (starEach [e] X.env)).all (fun x => !x.1) && (backToKw cpos (keywordEach [] X.env)).all (fun x => x.1.isSome)
      && decide (([e] : List Expr).length + ([] : List Keyword).length + (if ([] : List Keyword).isEmpty then 0 else 1) < 30)) = true := by rfl)
    (hline : (apos.endLine == cpos.line) = true := by rfl) (he : starEach [e] X.env = (false, eval e X.env) :: starEach [] X.env := by rfl) : FE X G (.Call (.Attribute o "index" apos) [e] [] cpos) (dIndex ta te) :=
  PE.imp (pe_bm PySem.F.plainAttrs_list PySem.F.slot_list_index PySem.F.type_list_index (mt_indexD hu) ha (pa_cons h pa_nil he) hbase hfew hline he) fun σ H R ⟨F, δ, Q, ge, q, k⟩ => ⟨F, δ, _, ge, q, fun v H1 F1 d s1 r1 q1 => by
    obtain ⟨xs, rfl, q2⟩ := asLst_iff.mp q1
    obtain ⟨a, vs, rfl, h1, rv⟩ := Rep.lst_iff.mp r1
    refine ⟨.inl ⟨rfl, vs, SqL.of (s1.fix _ _ h1)⟩, F1, δ, _, ge.step s1, q2, fun w H2 F2 d2 s2 r2 q3 => ?_⟩
    obtain ⟨p, ps, j, z, e1, e2, e3, e4, e5, e6, e7, q4⟩ := q3
    exact ⟨a, w, p, ps, j, z, rfl, rfl, .lst (SqL.of (s2.fix _ _ (s2.grow _ _ h1))) (pys_dp s2.fix (rv.mono s2.grow) e1), py_dp s2.fix r2 e2, e3, e4, e5, e6, e7, k _ H2 F2 _ (s1.trans ge.dr s2) (Rep.int_iff.mpr rfl) q4⟩⟩
end
end L3
end
section
set_option Elab.async false
set_option linter.all false
set_option maxRecDepth 100000
/-! L3k: fields by a table of names; != by an own __eq__. -/
namespace NeI
open PySem PySem.Spec PyProof.Rows PySem.SeqAt
section
variable {M : Model} {prog : Program} {w : World} {A : Around} {E : Value → Shared → Prop} {s : Shared} {K : PySem.W.Frag} {x C f : Addr} {ox : Obj} {od : Option Obj} {b : Value}
theorem ifBound_objNe {args : List Value} {Q : Option Value → Shared → Prop} (X : K.In s.heap) (I : PySem.W.InstAt s.heap x ox C od) (hs : PySem.W.findIn K (.ref C) "__ne__" = some (some (.builtin "object.__ne__")))
    (h : wpAny M A (call (.builtin "object.__ne__") (.ref x :: args)) (fun v => Q (some v)) E s) : wpAny M A (callSpecialIfBound? (.ref x) "__ne__" args) Q E s := by
  simp only [callSpecialIfBound?, bindSpecialIfBound?]
  refine wpAny_holding (wpAny_bind (wpAny_bind (wpAny_bind (I.type.here ((PySem.W.looks_findIn X hs).here ?_)))))
  refine wpAny_bind (wpAny_askSetting (wpAny_ite ?_))
  have fin : wpAny M A (call (.builtin "object.__ne__") ([.ref x] ++ args) >>= fun v => pure (some v)) Q E s := wpAny_bind (wpAny_mono h (fun v s' h' => wpAny_pure h') fun _ _ h' => h')
  split
  · exact wpAny_bind (wpAny_of_eq (F.slot_object_ne.bind _) (wpAny_pure (by exact fin)))
  · exact wpAny_tryCatch (wpAny_bind (wpAny_of_eq (F.slot_object_ne.bind _) (wpAny_pure (by exact fin))))
theorem entry_ne {Q : Fin → Shared → Prop} (hu : A.units < cLine) (X : K.In s.heap) (I : PySem.W.InstAt s.heap x ox C od) (hs : PySem.W.findIn K (.ref C) "__eq__" = some (some (.ref f))) (hf : PySem.W.isFn K (.ref f) = true)
    (h : wpAny M A (call (.ref f) [.ref x, b]) (fun v s' => v = .bool true ∧ Q (.done (.ret (.bool false))) s') E s) : wpAny M A (Builtin.«object.__ne__» ⟨[.ref x, b], []⟩) Q E s := by
  unfold Builtin.«object.__ne__»
  have e : slotArgs "__ne__" 1 ⟨[.ref x, b], []⟩ = pure (.ref x, [b]) := rfl
  rw [e]
  refine wpAny_bind (wpAny_pure ?_)
  dsimp only
  refine wpAny_bind (wpAny_cRoomFor hu ?_)
  refine wpAny_bind (PySem.W.ifBound_K X I hs hf (wpAny_mono h (fun v s' hv => ?_) fun _ _ e => e))
  obtain ⟨rfl, hq⟩ := hv
  dsimp only
  refine wpAny_bind (wpAny_truthy_bool ?_)
  exact wpAny_pure hq
end
end NeI
namespace L3
open PySem PySem.Spec PyProof.Rows L2
section
variable {X : Cx} {G : Ctx} {a b o e : Expr} {ta tb te t : DE} {pos pos' : Pos} {f : Str} {fn : Nat → List Str}
def dFldN (fn : Nat → List Str) (f : Str) (t : DE) : DE := fun δ Q => t δ fun x => asObj x fun c ds => ∃ (i : Nat) (d : D), (fn c)[i]? = some f ∧ ds[i]? = some d ∧ Q d
theorem fe_fldN (hfn : G.tb.fn = fn) (O : TabOk X.K G.tb) (h : FE X G e t) (hb : attributeBase e f X.env (eval e X.env) = eval e X.env := by rfl) : FE X G (.Attribute e f pos) (dFldN fn f t) := by
  subst hfn
  exact fe_fld O h hb
def dAttrN (fn : Nat → List Str) (i : Nat) (f : Str) (te : DE) : DS := fun E ρ => te (shOf ρ) fun d => match ρ[i]? with
  | some (some (.oi p dx c fs)) => (fn c)[fs.length]? = some f ∧ fs.length < 1000 ∧ E.nx (ρ.set i (some (.oi p dx c (fs ++ [d]))))
  | _ => False
def dAttrFN (fn : Nat → List Str) (i : Nat) (f : Str) (te : DE) : DS := fun E ρ => te (alOf ρ) fun d => flat d ∧ match ρ[i]? with
  | some (some (.oi p dx c fs)) => (fn c)[fs.length]? = some f ∧ fs.length < 1000 ∧ E.nx (ρ.set i (some (.oi p dx c (fs ++ [d]))))
  | _ => False
theorem fs_attrN {i : Nat} {x : Str} {px : Pos} (hfn : G.tb.fn = fn) (O : TabOk X.K G.tb) (hx : PE X (.Name x px) (tVar i)) (h : FE X G e te) (hs : swapsWith e (some (.Attribute (.Name x px) f pos')) pos.line X.env = pure false := by rfl) : FS X G (.Assign [.Attribute (.Name x px) f pos'] e pos) (dAttrN fn i f te) := by
  subst hfn
  exact fs_attr O hx h hs
theorem fs_attrFN {i : Nat} {x : Str} {px : Pos} (hfn : G.tb.fn = fn) (O : TabOk X.K G.tb) (hx : PE X (.Name x px) (tVar i)) (h : FE X G e te) (hs : swapsWith e (some (.Attribute (.Name x px) f pos')) pos.line X.env = pure false := by rfl) : FS X G (.Assign [.Attribute (.Name x px) f pos'] e pos) (dAttrFN fn i f te) := by
  subst hfn
  exact fs_attrF O hx h hs
end
/-! ### a comprehension and its name on one line -/
section
variable {X : Cx} {G : Ctx} {elt tg iter : Expr} {ifs : List Expr} {scope : Scope} {own : List (Str × Nat)} {pos spos py : Pos} {ti : DI} {is : List Nat} {td : DG} {tt : DT} {te : DE} {i : Nat} {y : Str}
theorem toF_lc {K : PySem.W.Frag} {vs : List Nat} (hsl : ∀ d asg, td d = some asg → asg.map (·.1) = is) (hsub : ∀ i ∈ is, i ∈ vs) {σ : St} {H : Hp} {R : VK} (h : toF G (dLc ti td tt te vs) σ H R) : tLc (tiF G ti) (tgF G td) (ttF G tt) (teF G te) vs σ H R := by
  obtain ⟨F, δ, Q, ge, q, k⟩ := h
  exact ⟨F, δ, _, ge, q, fun J H1 F1 ds s1 w q1 D hD => lc_read (K := K) hsl hsub ge s1 w q1 k D hD⟩
theorem ps_setLcF (hc : X.calm = true) (hN : X.N.Nodup) (hy : X.N[i]? = some y) (hyl : X.env.scope.names.lookup y = some .local)
    (hi : FI X G tg iter ti) (ok : BlkOk X.N X.env.scope scope own)
    (hg : ∀ (s : Shared) (H : Hp) (C : Addr) (cl : List (Str × Addr)) (fp : List Addr), FG (X.blk s H scope (compEnvC scope cl C X.env) fp) G tg is td)
    (ht : ∀ (s : Shared) (H : Hp) (C : Addr) (cl : List (Str × Addr)) (fp : List Addr), FTs (X.blk s H scope (compEnvC scope cl C X.env) fp) G ifs tt)
    (he : ∀ (s : Shared) (H : Hp) (C : Addr) (cl : List (Str × Addr)) (fp : List Addr), FE (X.blk s H scope (compEnvC scope cl C X.env) fp) G elt te)
    (hsub : ∀ i ∈ is, i ∈ own.map (·.2)) (hsw : swapsWith (.ListComp elt [⟨tg, iter, ifs, 0⟩] scope pos) (some (.Name y py)) spos.line X.env = pure true := by first | rfl | exact sw_true rfl rfl rfl rfl) (hs : ∀ x, foldedSetIterable iter X.env x = pure x := by intro _; rfl) :
    PS X (.Assign [.Name y py] (.ListComp elt [⟨tg, iter, ifs, 0⟩] scope pos) spos) (tAsg (toF G (dLc ti td tt te (own.map (·.2)))) (gName i)) :=
  ⟨fun pins s σ H D I h => (ps_setLc hc hN hy hyl hsw hi ok (fun s H C cl fp => (hg s H C cl fp).pg) ht he hs).run pins s σ H D I (toF_lc (K := X.K) (fun d asg e => (hg s H 0 [] []).sl d asg e) hsub h)⟩
theorem fs_setOLc (hc : X.calm = true) (hN : X.N.Nodup) (hy : X.N[i]? = some y) (hyl : X.env.scope.names.lookup y = some .local)
    (hi : FI X G tg iter ti) (ok : BlkOk X.N X.env.scope scope own)
    (hg : ∀ (s : Shared) (H : Hp) (C : Addr) (cl : List (Str × Addr)) (fp : List Addr), FG (X.blk s H scope (compEnvC scope cl C X.env) fp) G tg is td)
    (ht : ∀ (s : Shared) (H : Hp) (C : Addr) (cl : List (Str × Addr)) (fp : List Addr), FTs (X.blk s H scope (compEnvC scope cl C X.env) fp) G ifs tt)
    (he : ∀ (s : Shared) (H : Hp) (C : Addr) (cl : List (Str × Addr)) (fp : List Addr), FE (X.blk s H scope (compEnvC scope cl C X.env) fp) G elt te)
    (hsub : ∀ i ∈ is, i ∈ own.map (·.2)) (hsw : swapsWith (.ListComp elt [⟨tg, iter, ifs, 0⟩] scope pos) (some (.Name y py)) spos.line X.env = pure true := by first | rfl | exact sw_true rfl rfl rfl rfl) (hs : ∀ x, foldedSetIterable iter X.env x = pure x := by intro _; rfl) :
    FS X G (.Assign [.Name y py] (.ListComp elt [⟨tg, iter, ifs, 0⟩] scope pos) spos) (dSetO i (dLc ti td tt te (own.map (·.2)))) :=
  PS.imp (ps_setLcF hc hN hy hyl hi ok hg ht he hsub hsw hs) fun D σ H ⟨F0, H0, F, ρ, E, g, q, m⟩ =>
    ⟨_, _, _, g.geP, q, fun p vs H' F' ds s hp hf nd hl hr q' => m.nx F' _ _ H' (g.fresh s hp hf nd hl hr) s.grow q'⟩
theorem fs_setLc (hc : X.calm = true) (hN : X.N.Nodup) (hy : X.N[i]? = some y) (hyl : X.env.scope.names.lookup y = some .local)
    (hi : FI X G tg iter ti) (ok : BlkOk X.N X.env.scope scope own)
    (hg : ∀ (s : Shared) (H : Hp) (C : Addr) (cl : List (Str × Addr)) (fp : List Addr), FG (X.blk s H scope (compEnvC scope cl C X.env) fp) G tg is td)
    (ht : ∀ (s : Shared) (H : Hp) (C : Addr) (cl : List (Str × Addr)) (fp : List Addr), FTs (X.blk s H scope (compEnvC scope cl C X.env) fp) G ifs tt)
    (he : ∀ (s : Shared) (H : Hp) (C : Addr) (cl : List (Str × Addr)) (fp : List Addr), FE (X.blk s H scope (compEnvC scope cl C X.env) fp) G elt te)
    (hsub : ∀ i ∈ is, i ∈ own.map (·.2)) (hsw : swapsWith (.ListComp elt [⟨tg, iter, ifs, 0⟩] scope pos) (some (.Name y py)) spos.line X.env = pure true := by first | rfl | exact sw_true rfl rfl rfl rfl) (hs : ∀ x, foldedSetIterable iter X.env x = pure x := by intro _; rfl) :
    FS X G (.Assign [.Name y py] (.ListComp elt [⟨tg, iter, ifs, 0⟩] scope pos) spos) (dSet i (dLst (dLc ti td tt te (own.map (·.2))))) :=
  PS.imp (ps_setLcF hc hN hy hyl hi ok hg ht he hsub hsw hs) fun D σ H ⟨F0, H0, F, ρ, E, g, q, m⟩ =>
    ⟨_, _, _, g.geP, q, fun p vs H' F' ds s hp hf nd hl hr q' => by
      have s2 := s.freeze hp hf nd hl
      exact m.nx _ _ _ H' ((g.afterP s2).setSh (d := .lst ds) (Rep.lst_iff.mpr ⟨p, vs, rfl, upd_same, hr.mono (same_upd' hf)⟩)) s2.grow q'⟩
end
theorem hu1 {k : Nat} {A : Around} (r : Room k A) : A.units + 1 < cLine := by have := r.units; omega
theorem hu65 {k : Nat} {A : Around} (r : Room k A) : A.units + 65 < cLine := by have := r.un; omega
/-- x != y of two instances that their own __eq__ calls equal -/
def gNeC (c : Nat) (sd : DLK) : D2 := fun x y Q => (∃ fs, x = .obj c fs) ∧ (∃ gs, y = .obj c gs) ∧ sd [x, y] (fun r => r = .bl true) ∧ Q (.bl false)
structure NeOk (K : PySem.W.Frag) (C f : Addr) : Prop where
  ob : PySem.W.mroIn K C (.type "object") = some true
  ne : PySem.W.findIn K (.ref C) "__ne__" = some (some (.builtin "object.__ne__"))
  eq : PySem.W.findIn K (.ref C) "__eq__" = some (some (.ref f))
  fn : PySem.W.isFn K (.ref f) = true
def rNeC (G : Ctx) (c : Nat) (sd : DLK) : R2 := fun x y H Q => ∃ F d e, Same F H ∧ DrOk G F H ∧ Rep G F x d ∧ Rep G F y e ∧ gNeC c sd d e (fun _ => True) ∧ ∀ H' F', Step G F H F' H' → Q (.bl false) H'
theorem od_neC {G : Ctx} {c : Nat} {sd : DLK} : OpD G (rNeC G c sd) (gNeC c sd) := by
  rintro F H x y d e Q R hs hd rx ry ⟨h1, h2, h3, q⟩ k
  exact ⟨F, d, e, hs, hd, rx, ry, ⟨h1, h2, h3, trivial⟩, fun H' F' s => k _ H' F' _ s (Rep.bl_iff.mpr rfl) q⟩
theorem op_neC {X : Cx} {G : Ctx} {c k : Nat} {sd : DLK} {f : Addr} {fd : FuncData} {ps : List Str} (N : NeOk X.K (G.tb.ca c) f) (hb : Binds X.K fd ps []) (O : FnOk X.prog X.w X.K X.mg X.base CX0 k f fd ps (spF G.tb 2 sd)) (hr : Room (k + 1) X.A) : OpR X (compareOp .NotEq) (rNeC G c sd) := by
  intro pins s σ H x y u v Q I rx ry h
  obtain ⟨F, d, e, hs, hd, r1, r2, ⟨⟨fs, rfl⟩, ⟨gs, rfl⟩, q, _⟩, kk⟩ := h
  obtain ⟨a, dx, vs, rfl, ha, _, _⟩ := Rep.obj_iff.mp r1
  obtain ⟨b, dy, ws, rfl, hb', _, _⟩ := Rep.obj_iff.mp r2
  cases rx
  cases ry
  obtain ⟨mA, J, _⟩ := ins_get I.hok (hs _ _ ha)
  obtain ⟨mB, J', _⟩ := ins_get I.hok (hs _ _ hb')
  obtain ⟨od, J, _⟩ := J.look
  obtain ⟨od', J', _⟩ := J'.look
  have hsp : spF G.tb 2 sd [.ref a, .ref b] H (fun v H' => v = .bl true ∧ ∃ F', Step G F H F' H') E0 := by
    obtain ⟨T, dr⟩ := G
    exact ⟨dr, F, [.obj c fs, .obj c gs], _, hs, hd, .cons r1 (.cons r2 .nil), rfl, q, fun v H' F' d s r e => ⟨by subst e; exact Rep.bl_iff.mp r, F', s⟩⟩
  have hl := O.len _ _ _ _ hsp
  have rv : Vals [V.ref a, V.ref b] [Value.ref a, Value.ref b] := .cons rfl (.cons rfl .nil)
  have bt : BindsTo s fd ⟨[.ref a, .ref b], []⟩ (ps.zip [.ref a, .ref b]) := by
    have := hb s [.ref a, .ref b] I.kIn (by simpa using hl)
    simpa using this
  have cal : wpAny (model X.prog X.w) X.A.in1 (call (.ref f) [.ref a, .ref b]) (fun v s' => v = .bool true ∧ EP X pins σ Q (.bool false) s') X.xe s := by
    refine wpAny_call (codeAny_mono (O.run X.A.in1 X.stack s H ⟨[.ref a, .ref b], []⟩ [.ref a, .ref b] [.ref a, .ref b] _ E0 hr.in1 I.env0.in1 bt rv hsp) fun r s' hq => ?_)
    cases r with
    | error e => exact hq.elim
    | ok fl =>
      cases fl with
      | ret w =>
        obtain ⟨z, H', I', rz, ez, F', st⟩ := I.after hq
        subst ez
        cases rz
        exact ⟨rfl, .bl false, H', I', rfl, kk H' F' st⟩
      | next => exact False.elim hq
      | brk => exact False.elim hq
      | cont => exact False.elim hq
  have one : wpAny (model X.prog X.w) X.A (tryCompare (.ref a) "__ne__" (.ref b)) (fun r s' => ∃ v, r = some v ∧ EP X pins σ Q v s') X.xe s := by
    unfold tryCompare
    refine wpAny_bind (NeI.ifBound_objNe I.kIn J N.ne ?_)
    refine wpAny_call (codeAny_call_builtin PySem.F.slot_object_ne.plain PySem.F.cmpEntry_ne (PySem.W.check_slot PySem.F.cmpKind_ne PySem.F.cmpSplit_ne (J.type.andThen (PySem.W.looks_mroIn I.kIn N.ob)) (PySem.F.cmpArgs_ne _ _) (NeI.entry_ne (by have := hr.units; show X.A.units + 1 < _; omega) I.kIn J N.eq N.fn (wpAny_mono cal (fun v s' hv => ?_) fun _ _ e => e))))
    exact ⟨hv.1, wpAny_pure ⟨_, rfl, hv.2⟩⟩
  show wpAny (model X.prog X.w) X.A (richCompare .NotEq (.ref a) (.ref b)) (EP X pins σ Q) X.xe s
  unfold richCompare
  simp only [oneThing_ref]
  refine wpAny_holding (wpAny_bind (wpAny_cRoomFor hr.units0 ?_))
  refine wpAny_bind (J.type.here (wpAny_bind (J'.type.here ?_)))
  split
  · rename_i q
    simp at q
  · refine wpAny_bind (wpAny_pure ?_)
    simp only [Bool.false_eq_true, if_false]
    refine wpAny_bind (wpAny_mono one (fun r s' z => ?_) fun _ _ e => e)
    obtain ⟨v, rfl, hq⟩ := z
    exact wpAny_pure hq
end L3
end
section
set_option Elab.async false
set_option linter.all false
set_option maxRecDepth 100000
/-! the defs' readings over data (printed by mkwalk.py) -/
namespace Wk
open PySem PySem.Spec L3
def fnT : Nat → List PySem.Str
  | 0 => ["rows", "many"]
  | 1 => ["moves", "many"]
  | _ => []
def t_is_number : DS := dRet (dAndV (dIsi "int" (dVar 0)) (dNotV (dIsi "bool" (dVar 0))))
def p_is_number : DLK := dDef [] t_is_number
def t_is_between : DS := dRet (dAndV (dCall (gDef 1 p_is_number) (dCons (dVar 0) (dNil))) (dChain gLe gLe (dVar 1) (dVar 0) (dVar 2)))
def p_is_between : DLK := dDef [] t_is_between
def t_is_list : DS := dRet (dIsiT ["list", "tuple"] (dVar 0))
def p_is_list : DLK := dDef [] t_is_list
def t_is_row : DS := dRet (dAndV (dIsi "tuple" (dVar 0)) (dAndV (dBin gEq (dCall gLen (dCons (dVar 0) (dNil))) (dVar 1)) (dCall gAll (dCons (dLst (dLc (dSeqI (dVar 0)) (dNm 2) (dYes) (dCall (gDef 1 p_is_number) (dCons (dVar 2) (dNil))) [2])) (dNil)))))
def p_is_row : DLK := dDef [none] t_is_row
def t_is_count_row : DS := dRet (dAndV (dCall (gDef 2 p_is_row) (dCons (dVar 0) (dCons (dVar 1) (dNil)))) (dCall gAll (dCons (dLst (dLc (dSeqI (dVar 0)) (dNm 2) (dYes) (dBin gGe (dVar 2) (dC (.int 0))) [2])) (dNil))))
def p_is_count_row : DLK := dDef [none] t_is_count_row
def t_divisor_of : DS := dSq (dSet 1 (dC (.int 0))) (dSq (dFor (dSeqI (dVar 0)) (dNm 2) (dSq (dPar [3, 4] (dxCons (dxP (dVar 1)) (dxCons (dxP (dCall gAbs (dCons (dVar 2) (dNil)))) (dxNil)))) (dSq (dWhile (dTest (dBin gNe (dVar 4) (dC (.int 0)))) (dPar [3, 4] (dxCons (dxP (dVar 4)) (dxCons (dxP (dBin gMod (dVar 3) (dVar 4))) (dxNil))))) (dSet 1 (dVar 3))))) (dRet (dVar 1)))
def p_divisor_of : DLK := dDef [none, none, none, none] t_divisor_of
def t_multiple_of : DS := dSq (dSet 1 (dC (.int 1))) (dSq (dFor (dSeqI (dVar 0)) (dNm 2) (dSet 1 (dBin gMul (dBin gDiv (dVar 1) (dCall (gDef 1 p_divisor_of) (dCons (dTup (dCons (dVar 1) (dCons (dVar 2) (dNil)))) (dNil)))) (dVar 2)))) (dRet (dVar 1)))
def p_multiple_of : DLK := dDef [none, none] t_multiple_of
def t_least_pair : DS := dSq (dSet 2 (dCall (gDef 1 p_divisor_of) (dCons (dTup (dCons (dVar 0) (dStar (dVar 1) (dNil)))) (dNil)))) (dRet (dTup (dCons (dBin gDiv (dVar 0) (dVar 2)) (dCons (dCall gTuple (dCons (dLst (dLc (dSeqI (dVar 1)) (dNm 3) (dYes) (dBin gDiv (dVar 3) (dVar 2)) [3])) (dNil))) (dNil)))))
def p_least_pair : DLK := dDef [none, none] t_least_pair
def t_plain_row : DS := dSq (dSet 1 (dCall (gDef 1 p_divisor_of) (dCons (dVar 0) (dNil)))) (dRet (dIf (dTest (dBin gEq (dVar 1) (dC (.int 0)))) (dCall gTuple (dCons (dVar 0) (dNil))) (dCall gTuple (dCons (dLst (dLc (dSeqI (dVar 0)) (dNm 2) (dYes) (dBin gDiv (dVar 2) (dVar 1)) [2])) (dNil)))))
def p_plain_row : DLK := dDef [none, none] t_plain_row
def t_is_index : DS := dRet (dCall (gDef 3 p_is_between) (dCons (dVar 0) (dCons (dC (.int 0)) (dCons (dBin gSub (dVar 1) (dC (.int 1))) (dNil)))))
def p_is_index : DLK := dDef [] t_is_index
def t_ratio_of : DS := dSq (dSet 2 (dIf (dTest (dBin gGt (dVar 1) (dC (.int 0)))) (dCall (gDef 1 p_divisor_of) (dCons (dTup (dCons (dVar 0) (dCons (dVar 1) (dNil)))) (dNil))) (dBin gSub (dC (.int 0)) (dCall (gDef 1 p_divisor_of) (dCons (dTup (dCons (dVar 0) (dCons (dVar 1) (dNil)))) (dNil)))))) (dRet (dTup (dCons (dBin gDiv (dVar 0) (dVar 2)) (dCons (dBin gDiv (dVar 1) (dVar 2)) (dNil)))))
def p_ratio_of : DLK := dDef [none] t_ratio_of
def t_is_ratio : DS := dSq (dIfS (dOr (dNot (dTest (dIsi "tuple" (dVar 0)))) (dOr (dTest (dBin gNe (dCall gLen (dCons (dVar 0) (dNil))) (dC (.int 2)))) (dOr (dNot (dTest (dCall (gDef 1 p_is_number) (dCons (dBin gIx (dVar 0) (dC (.int 0))) (dNil))))) (dNot (dTest (dCall (gDef 1 p_is_number) (dCons (dBin gIx (dVar 0) (dC (.int 1))) (dNil)))))))) (dRet (dC (.bl false))) (dNext)) (dRet (dAndV (dBin gGe (dBin gIx (dVar 0) (dC (.int 1))) (dC (.int 1))) (dBin gEq (dCall (gDef 1 p_divisor_of) (dCons (dVar 0) (dNil))) (dC (.int 1)))))
def p_is_ratio : DLK := dDef [] t_is_ratio
def t_sum_of : DS := dRet (dCall (gDef 2 p_ratio_of) (dCons (dBin gAdd (dBin gMul (dBin gIx (dVar 0) (dC (.int 0))) (dBin gIx (dVar 1) (dC (.int 1)))) (dBin gMul (dBin gIx (dVar 1) (dC (.int 0))) (dBin gIx (dVar 0) (dC (.int 1))))) (dCons (dBin gMul (dBin gIx (dVar 0) (dC (.int 1))) (dBin gIx (dVar 1) (dC (.int 1)))) (dNil))))
def p_sum_of : DLK := dDef [] t_sum_of
def t_less_of : DS := dRet (dCall (gDef 2 p_ratio_of) (dCons (dBin gSub (dBin gMul (dBin gIx (dVar 0) (dC (.int 0))) (dBin gIx (dVar 1) (dC (.int 1)))) (dBin gMul (dBin gIx (dVar 1) (dC (.int 0))) (dBin gIx (dVar 0) (dC (.int 1))))) (dCons (dBin gMul (dBin gIx (dVar 0) (dC (.int 1))) (dBin gIx (dVar 1) (dC (.int 1)))) (dNil))))
def p_less_of : DLK := dDef [] t_less_of
def t_product_of : DS := dRet (dCall (gDef 2 p_ratio_of) (dCons (dBin gMul (dBin gIx (dVar 0) (dC (.int 0))) (dBin gIx (dVar 1) (dC (.int 0)))) (dCons (dBin gMul (dBin gIx (dVar 0) (dC (.int 1))) (dBin gIx (dVar 1) (dC (.int 1)))) (dNil))))
def p_product_of : DLK := dDef [] t_product_of
def t_is_below : DS := dRet (dBin gLt (dBin gMul (dBin gIx (dVar 0) (dC (.int 0))) (dBin gIx (dVar 1) (dC (.int 1)))) (dBin gMul (dBin gIx (dVar 1) (dC (.int 0))) (dBin gIx (dVar 0) (dC (.int 1)))))
def p_is_below : DLK := dDef [] t_is_below
def t_greatest_of : DS := dSq (dSet 1 (dBin gIx (dVar 0) (dC (.int 0)))) (dSq (dFor (dSeqI (dVar 0)) (dNm 2) (dIfS (dTest (dCall (gDef 2 p_is_below) (dCons (dVar 1) (dCons (dVar 2) (dNil))))) (dSet 1 (dVar 2)) (dNext))) (dRet (dVar 1)))
def p_greatest_of : DLK := dDef [none, none] t_greatest_of
def t_total_of : DS := dSq (dSet 1 (dTup (dCons (dC (.int 0)) (dCons (dC (.int 1)) (dNil))))) (dSq (dFor (dSeqI (dVar 0)) (dNm 2) (dSet 1 (dCall (gDef 2 p_sum_of) (dCons (dVar 1) (dCons (dVar 2) (dNil)))))) (dRet (dVar 1)))
def p_total_of : DLK := dDef [none, none] t_total_of
def t_is_pair_of : DS := dSq (dIfS (dOr (dNot (dTest (dIsi "tuple" (dVar 1)))) (dOr (dTest (dBin gNe (dCall gLen (dCons (dVar 1) (dNil))) (dC (.int 2)))) (dOr (dNot (dTest (dCall (gDef 1 p_is_number) (dCons (dBin gIx (dVar 1) (dC (.int 0))) (dNil))))) (dTest (dBin gLt (dBin gIx (dVar 1) (dC (.int 0))) (dC (.int 1))))))) (dRet (dC (.bl false))) (dNext)) (dRet (dAndV (dCall (gDef 2 p_is_count_row) (dCons (dBin gIx (dVar 1) (dC (.int 1))) (dCons (dVar 0) (dNil)))) (dBin gEq (dCall (gDef 1 p_divisor_of) (dCons (dTup (dCons (dBin gIx (dVar 1) (dC (.int 0))) (dStar (dBin gIx (dVar 1) (dC (.int 1))) (dNil)))) (dNil))) (dC (.int 1)))))
def p_is_pair_of : DLK := dDef [] t_is_pair_of
def t_is_share_of : DS := dRet (dAndV (dCall (gDef 2 p_is_pair_of) (dCons (dVar 0) (dCons (dVar 1) (dNil)))) (dBin gEq (dCall gSumB (dCons (dBin gIx (dVar 1) (dC (.int 1))) (dNil))) (dBin gIx (dVar 1) (dC (.int 0)))))
def p_is_share_of : DLK := dDef [] t_is_share_of
def t_need_share : DS := dIfS (dNot (dTest (dCall (gDef 2 p_is_share_of) (dCons (dVar 0) (dCons (dVar 1) (dNil)))))) (dNever) (dNext)
def p_need_share : DLK := dDef [] t_need_share
def t_divided : DS := dSq (dSet 1 (dCall (gDef 1 p_divisor_of) (dCons (dVar 0) (dNil)))) (dRet (dIf (dTest (dBin gLt (dVar 1) (dC (.int 2)))) (dVar 0) (dLst (dLc (dSeqI (dVar 0)) (dNm 2) (dYes) (dBin gDiv (dVar 2) (dVar 1)) [2]))))
def p_divided : DLK := dDef [none, none] t_divided
def t_cleared : DS := dSq (dIfS (dTest (dBin gEq (dBin gIx (dVar 0) (dVar 2)) (dC (.int 0)))) (dRet (dVar 0)) (dNext)) (dRet (dCall (gDef 1 p_divided) (dCons (dLst (dLc (dZip2 (dCons (dVar 0) (dCons (dVar 1) (dNil)))) (dTp (dsCons (dNm 3) (dsCons (dNm 4) (dsNil)))) (dYes) (dBin gSub (dBin gMul (dBin gIx (dVar 1) (dVar 2)) (dVar 3)) (dBin gMul (dBin gIx (dVar 0) (dVar 2)) (dVar 4))) [3, 4])) (dNil))))
def p_cleared : DLK := dDef [none, none] t_cleared
def t_stepped_lines : DS := dSq (dPar [1, 2] (dxCons (dxP (dCall gLen (dCons (dBin gIx (dBin gIx (dVar 0) (dC (.int 0))) (dC (.int 0))) (dNil)))) (dxCons (dxP (dCall gLen (dCons (dVar 0) (dNil)))) (dxNil)))) (dSq (dSet 3 (dLst (dLc (dEnumI (dCons (dVar 0) (dNil))) (dTp (dsCons (dNm 9) (dsCons (dNm 10) (dsNil)))) (dYes) (dLst (dBinL gCatL (dLst (dLen (dStar (dBin gIx (dVar 10) (dC (.int 0))) (dCons (dBin gIx (dVar 10) (dC (.int 1))) (dNil))))) (dLst (dLc (dRng1 (dCons (dVar 2) (dNil))) (dNm 11) (dYes) (dCall gInt (dCons (dBin gEq (dVar 11) (dVar 9)) (dNil))) [11])))) [9, 10]))) (dSq (dPar [4, 5] (dxCons (dxP (dLst (dLen (dNil)))) (dxCons (dxO (dLen (dNil))) (dxNil)))) (dSq (dFor (dRng1 (dCons (dVar 1) (dNil))) (dNm 6) (dSq (dSet 7 (dLst (dLc (dEnumI (dCons (dVar 3) (dNil))) (dTp (dsCons (dNm 11) (dsCons (dNm 12) (dsNil)))) (dTest (dBin gNe (dBin gIx (dVar 12) (dVar 6)) (dC (.int 0)))) (dVar 11) [11, 12]))) (dIfS (dTest (dBin gNe (dVar 7) (dLst (dLen (dNil))))) (dSq (dSet 8 (dBin gIx (dVar 3) (dBin gIx (dVar 7) (dC (.int 0))))) (dSq (dSet 3 (dLst (dLc (dEnumI (dCons (dVar 3) (dNil))) (dTp (dsCons (dNm 11) (dsCons (dNm 12) (dsNil)))) (dTest (dBin gNe (dVar 11) (dBin gIx (dVar 7) (dC (.int 0))))) (dCall (gDef 3 p_cleared) (dCons (dVar 12) (dCons (dVar 8) (dCons (dVar 6) (dNil))))) [11, 12]))) (dSq (dSet 4 (dLst (dBinL gCatL (dLst (dLc (dSeqI (dVar 4)) (dNm 12) (dYes) (dCall (gDef 3 p_cleared) (dCons (dVar 12) (dCons (dVar 8) (dCons (dVar 6) (dNil))))) [12])) (dLst (dLen (dCons (dVar 8) (dNil))))))) (dApp 5 (dVar 6))))) (dNext)))) (dRet (dTup (dCons (dVar 4) (dCons (dVar 5) (dCons (dVar 3) (dNil)))))))))
def p_stepped_lines : DLK := dDef [none, none, none, none, none, none, none, none, none, none, none, none] t_stepped_lines
def t_bar_from : DS := dSq (dFor (dSeqI (dVar 1)) (dNm 2) (dIfS (dTest (dBin gNe (dBin gIx (dVar 2) (dVar 0)) (dC (.int 0)))) (dSq (dSet 3 (dIf (dTest (dBin gGt (dBin gIx (dVar 2) (dVar 0)) (dC (.int 0)))) (dC (.int 1)) (dNeg (dC (.int 1))))) (dRet (dCall (gDef 1 p_plain_row) (dCons (dLst (dLc (dSeqI (dLst (dSlL (dVar 2) (dSoP (dBin gAdd (dVar 0) (dC (.int 1)))) (dNoP)))) (dNm 4) (dYes) (dBin gMul (dVar 3) (dVar 4)) [4])) (dNil))))) (dNext))) (dRet (dC .non))
def p_bar_from : DLK := dDef [none, none, none] t_bar_from
def t_answer_from : DS := dSq (dSet 3 (dC (.int 1))) (dSq (dFor (dZip2 (dCons (dVar 1) (dCons (dVar 2) (dNil)))) (dTp (dsCons (dNm 4) (dsCons (dNm 5) (dsNil)))) (dSet 3 (dBin gMul (dBin gDiv (dVar 3) (dCall (gDef 1 p_divisor_of) (dCons (dTup (dCons (dVar 3) (dCons (dBin gIx (dVar 4) (dVar 5)) (dNil)))) (dNil)))) (dCall gAbs (dCons (dBin gIx (dVar 4) (dVar 5)) (dNil)))))) (dSq (dSetO 6 (dBinL gRepL (dLst (dLen (dCons (dC (.int 0)) (dNil)))) (dVar 0))) (dSq (dFor (dZip2 (dCons (dVar 1) (dCons (dVar 2) (dNil)))) (dTp (dsCons (dNm 4) (dsCons (dNm 5) (dsNil)))) (dPut 6 (dBin gMul (dBin gMul (dBin gIx (dVar 4) (dVar 0)) (dBin gDiv (dVar 3) (dCall gAbs (dCons (dBin gIx (dVar 4) (dVar 5)) (dNil))))) (dIf (dTest (dBin gGt (dBin gIx (dVar 4) (dVar 5)) (dC (.int 0)))) (dC (.int 1)) (dNeg (dC (.int 1))))) (dVar 5))) (dRet (dCall (gDef 2 p_least_pair) (dCons (dVar 3) (dCons (dVar 6) (dNil))))))))
def p_answer_from : DLK := dDef [none, none, none, none] t_answer_from
def t_answer_of : DS := dSq (dSet 1 (dCall gLen (dCons (dBin gIx (dBin gIx (dVar 0) (dC (.int 0))) (dC (.int 0))) (dNil)))) (dSq (dAsg (dTp (dsCons (dNm 2) (dsCons (dNm 3) (dsCons (dNm 4) (dsNil))))) (dCall (gDef 1 p_stepped_lines) (dCons (dVar 0) (dNil)))) (dRet (dIf (dTest (dBin gIsN (dCall (gDef 2 p_bar_from) (dCons (dVar 1) (dCons (dVar 4) (dNil)))) (dC .non))) (dCall (gDef 3 p_answer_from) (dCons (dVar 1) (dCons (dVar 2) (dCons (dVar 3) (dNil))))) (dC .non))))
def p_answer_of : DLK := dDef [none, none, none, none] t_answer_of
def t_is_chance_row : DS := dSq (dIfS (dOr (dNot (dTest (dIsi "tuple" (dVar 1)))) (dOr (dTest (dBin gNe (dCall gLen (dCons (dVar 1) (dNil))) (dC (.int 2)))) (dOr (dNot (dTest (dCall (gDef 1 p_is_number) (dCons (dBin gIx (dVar 1) (dC (.int 0))) (dNil))))) (dTest (dBin gLt (dBin gIx (dVar 1) (dC (.int 0))) (dC (.int 1))))))) (dRet (dC (.bl false))) (dNext)) (dRet (dAndV (dCall (gDef 2 p_is_count_row) (dCons (dBin gIx (dVar 1) (dC (.int 1))) (dCons (dVar 0) (dNil)))) (dBin gLe (dCall gSumB (dCons (dBin gIx (dVar 1) (dC (.int 1))) (dNil))) (dBin gIx (dVar 1) (dC (.int 0))))))
def p_is_chance_row : DLK := dDef [] t_is_chance_row
def t_Walk_init_ : DS := dSq (dIfS (dOr (dNot (dTest (dCall (gDef 1 p_is_list) (dCons (dVar 1) (dNil))))) (dNot (dTest (dChain gLe gLe (dC (.int 1)) (dCall gLen (dCons (dVar 1) (dNil))) (dC (.int 8)))))) (dNever) (dNext)) (dSq (dIfS (dNot (dTest (dCall gAll (dCons (dLst (dLc (dSeqI (dVar 1)) (dNm 4) (dYes) (dCall (gDef 2 p_is_chance_row) (dCons (dCall gLen (dCons (dVar 1) (dNil))) (dCons (dVar 4) (dNil)))) [4])) (dNil))))) (dNever) (dNext)) (dSq (dAttrN fnT 0 "rows" (dCall gTuple (dCons (dLst (dLc (dSeqI (dVar 1)) (dTp (dsCons (dNm 2) (dsCons (dNm 3) (dsNil)))) (dYes) (dCall (gDef 2 p_least_pair) (dCons (dVar 2) (dCons (dVar 3) (dNil)))) [2, 3])) (dNil)))) (dAttrFN fnT 0 "many" (dCall gLen (dCons (dFldN fnT "rows" (dVar 0)) (dNil))))))
def p_Walk_init_ : DLL := dIni 0 [none, none, none] t_Walk_init_
def t_Walk_eq_ : DS := dRet (dAndV (dIsC 0 (dVar 1)) (dBin gEq (dFldN fnT "rows" (dVar 0)) (dFldN fnT "rows" (dVar 1))))
def p_Walk_eq_ : DLK := dDef [] t_Walk_eq_
def t_are_ratios : DS := dRet (dAndV (dIsi "tuple" (dVar 0)) (dAndV (dBin gEq (dCall gLen (dCons (dVar 0) (dNil))) (dVar 1)) (dCall gAll (dCons (dLst (dLc (dSeqI (dVar 0)) (dNm 2) (dYes) (dCall (gDef 1 p_is_ratio) (dCons (dVar 2) (dNil))) [2])) (dNil)))))
def p_are_ratios : DLK := dDef [none] t_are_ratios
def t_mean_by : DS := dSq (dAsg (dTp (dsCons (dNm 2) (dsCons (dNm 3) (dsNil)))) (dVar 0)) (dRet (dCall (gDef 1 p_total_of) (dCons (dLst (dLc (dZip2 (dCons (dVar 3) (dCons (dVar 1) (dNil)))) (dTp (dsCons (dNm 4) (dsCons (dNm 5) (dsNil)))) (dYes) (dCall (gDef 2 p_product_of) (dCons (dVar 5) (dCons (dTup (dCons (dVar 4) (dCons (dVar 2) (dNil)))) (dNil)))) [4, 5])) (dNil))))
def p_mean_by : DLK := dDef [none, none, none, none] t_mean_by
def t_are_moves : DS := dSq (dIfS (dOr (dNot (dTest (dCall (gDef 1 p_is_list) (dCons (dVar 0) (dNil))))) (dNot (dTest (dChain gLe gLe (dC (.int 1)) (dCall gLen (dCons (dVar 0) (dNil))) (dC (.int 8)))))) (dRet (dC (.bl false))) (dNext)) (dSq (dFor (dSeqI (dVar 0)) (dNm 1) (dIfS (dOr (dNot (dTest (dCall (gDef 1 p_is_list) (dCons (dVar 1) (dNil))))) (dOr (dNot (dTest (dChain gLe gLe (dC (.int 1)) (dCall gLen (dCons (dVar 1) (dNil))) (dC (.int 3))))) (dNot (dTest (dCall gAll (dCons (dLst (dLc (dSeqI (dVar 1)) (dNm 2) (dYes) (dCall (gDef 2 p_is_chance_row) (dCons (dCall gLen (dCons (dVar 0) (dNil))) (dCons (dVar 2) (dNil)))) [2])) (dNil))))))) (dRet (dC (.bl false))) (dNext))) (dRet (dC (.bl true))))
def p_are_moves : DLK := dDef [none, none] t_are_moves
def t_House_init_ : DS := dSq (dIfS (dNot (dTest (dCall (gDef 1 p_are_moves) (dCons (dVar 1) (dNil))))) (dNever) (dNext)) (dSq (dAttrN fnT 0 "moves" (dCall gTuple (dCons (dLst (dLc (dSeqI (dVar 1)) (dNm 2) (dYes) (dCall gTuple (dCons (dLst (dLc (dSeqI (dVar 2)) (dTp (dsCons (dNm 3) (dsCons (dNm 4) (dsNil)))) (dYes) (dCall (gDef 2 p_least_pair) (dCons (dVar 3) (dCons (dVar 4) (dNil)))) [3, 4])) (dNil))) [2])) (dNil)))) (dAttrFN fnT 0 "many" (dCall gLen (dCons (dFldN fnT "moves" (dVar 0)) (dNil)))))
def p_House_init_ : DLL := dIni 1 [none, none, none] t_House_init_
def t_House_eq_ : DS := dRet (dAndV (dIsC 1 (dVar 1)) (dBin gEq (dFldN fnT "moves" (dVar 0)) (dFldN fnT "moves" (dVar 1))))
def p_House_eq_ : DLK := dDef [] t_House_eq_
def t_need_house : DS := dIfS (dNot (dTest (dIsC 1 (dVar 0)))) (dNever) (dNext)
def p_need_house : DLK := dDef [] t_need_house
def t_is_plan : DS := dSq (dIfS (dOr (dNot (dTest (dIsi "tuple" (dVar 1)))) (dTest (dBin gNe (dCall gLen (dCons (dVar 1) (dNil))) (dFldN fnT "many" (dVar 0))))) (dRet (dC (.bl false))) (dNext)) (dRet (dCall gAll (dCons (dLst (dLc (dZip2 (dCons (dVar 1) (dCons (dFldN fnT "moves" (dVar 0)) (dNil)))) (dTp (dsCons (dNm 2) (dsCons (dNm 3) (dsNil)))) (dYes) (dCall (gDef 2 p_is_index) (dCons (dVar 2) (dCons (dCall gLen (dCons (dVar 3) (dNil))) (dNil)))) [2, 3])) (dNil))))
def p_is_plan : DLK := dDef [none, none] t_is_plan
def t_need_plan : DS := dIfS (dNot (dTest (dCall (gDef 2 p_is_plan) (dCons (dVar 0) (dCons (dVar 1) (dNil)))))) (dNever) (dNext)
def p_need_plan : DLK := dDef [] t_need_plan
def t_rows_of : DS := dRet (dCall gTuple (dCons (dLst (dLc (dZip2 (dCons (dFldN fnT "moves" (dVar 0)) (dCons (dVar 1) (dNil)))) (dTp (dsCons (dNm 2) (dsCons (dNm 3) (dsNil)))) (dYes) (dBin gIx (dVar 2) (dVar 3)) [2, 3])) (dNil)))
def p_rows_of : DLK := dDef [none, none] t_rows_of
def t_stays_in : DS := dRet (dBin gEq (dCall gSumB (dCons (dLst (dLc (dSeqI (dVar 1)) (dNm 2) (dYes) (dBin gIx (dBin gIx (dVar 0) (dC (.int 1))) (dVar 2)) [2])) (dNil))) (dBin gIx (dVar 0) (dC (.int 0))))
def p_stays_in : DLK := dDef [none] t_stays_in
def t_staying_lot : DS := dSq (dSet 1 (dLst (dLc (dRng1 (dCons (dFldN fnT "many" (dVar 0)) (dNil))) (dNm 3) (dYes) (dVar 3) [3]))) (dSq (dFor (dRng1 (dCons (dFldN fnT "many" (dVar 0)) (dNil))) (dNm 2) (dSet 1 (dLst (dLc (dSeqI (dVar 1)) (dNm 3) (dTest (dCall gAny (dCons (dLst (dLc (dSeqI (dBin gIx (dFldN fnT "moves" (dVar 0)) (dVar 3))) (dNm 4) (dYes) (dCall (gDef 2 p_stays_in) (dCons (dVar 4) (dCons (dVar 1) (dNil)))) [4])) (dNil)))) (dVar 3) [3])))) (dRet (dVar 1)))
def p_staying_lot : DLK := dDef [none, none, none, none] t_staying_lot
def t_need_leaky : DS := dIfS (dTest (dBin gNe (dCall (gDef 1 p_staying_lot) (dCons (dVar 0) (dNil))) (dLst (dLen (dNil))))) (dNever) (dNext)
def p_need_leaky : DLK := dDef [] t_need_leaky
def t_are_parts : DS := dSq (dIfS (dOr (dNot (dTest (dIsi "tuple" (dVar 1)))) (dTest (dBin gNe (dCall gLen (dCons (dVar 1) (dNil))) (dFldN fnT "many" (dVar 0))))) (dRet (dC (.bl false))) (dNext)) (dRet (dCall gAll (dCons (dLst (dLc (dZip2 (dCons (dVar 1) (dCons (dFldN fnT "moves" (dVar 0)) (dNil)))) (dTp (dsCons (dNm 2) (dsCons (dNm 3) (dsNil)))) (dYes) (dCall (gDef 2 p_are_ratios) (dCons (dVar 2) (dCons (dCall gLen (dCons (dVar 3) (dNil))) (dNil)))) [2, 3])) (dNil))))
def p_are_parts : DLK := dDef [none, none] t_are_parts
def t_need_gains : DS := dSq (dDrop (dCall (gDef 1 p_need_house) (dCons (dVar 0) (dNil)))) (dSq (dIfS (dNot (dTest (dCall (gDef 2 p_are_parts) (dCons (dVar 0) (dCons (dVar 1) (dNil)))))) (dNever) (dNext)) (dDrop (dCall (gDef 1 p_need_leaky) (dCons (dVar 0) (dNil)))))
def p_need_gains : DLK := dDef [] t_need_gains
def t_gained_by : DS := dSq (dPar [2, 3] (dxCons (dxP (dCall (gDef 1 p_multiple_of) (dCons (dLst (dLc (dSeqI (dVar 1)) (dNm 12) (dYes) (dBin gIx (dVar 12) (dC (.int 1))) [12])) (dNil)))) (dxCons (dxO (dLen (dNil))) (dxNil)))) (dSq (dFor (dEnumI (dCons (dVar 0) (dNil))) (dTp (dsCons (dNm 4) (dsCons (dNm 5) (dsNil)))) (dSq (dAsg (dTp (dsCons (dNm 6) (dsCons (dNm 7) (dsNil)))) (dVar 5)) (dSq (dSet 8 (dCall gTuple (dCons (dLst (dLc (dEnumI (dCons (dVar 7) (dNil))) (dTp (dsCons (dNm 13) (dsCons (dNm 14) (dsNil)))) (dYes) (dBin gSub (dBin gMul (dVar 6) (dCall gInt (dCons (dBin gEq (dVar 4) (dVar 13)) (dNil)))) (dVar 14)) [13, 14])) (dNil)))) (dApp 3 (dTup (dCons (dVar 8) (dCons (dBin gMul (dBin gMul (dVar 6) (dBin gIx (dBin gIx (dVar 1) (dVar 4)) (dC (.int 0)))) (dBin gDiv (dVar 2) (dBin gIx (dBin gIx (dVar 1) (dVar 4)) (dC (.int 1))))) (dNil)))))))) (dFrz 3 (dSq (dAsg (dTp (dsCons (dNm 9) (dsCons (dNm 10) (dsNil)))) (dCall (gDef 1 p_answer_of) (dCons (dVar 3) (dNil)))) (dRet (dCall gTuple (dCons (dLst (dLc (dSeqI (dVar 10)) (dNm 11) (dYes) (dCall (gDef 2 p_ratio_of) (dCons (dVar 11) (dCons (dBin gMul (dVar 9) (dVar 2)) (dNil)))) [11])) (dNil)))))))
def p_gained_by : DLK := dDef [none, none, none, none, none, none, none, none, none, none, none, none, none] t_gained_by
def t_sums_of_moves : DS := dRet (dLst (dLc (dZip2 (dCons (dVar 0) (dCons (dVar 1) (dNil)))) (dTp (dsCons (dNm 3) (dsCons (dNm 4) (dsNil)))) (dYes) (dCall (gDef 2 p_sum_of) (dCons (dVar 4) (dCons (dCall (gDef 2 p_mean_by) (dCons (dVar 3) (dCons (dVar 2) (dNil)))) (dNil)))) [3, 4]))
def p_sums_of_moves : DLK := dDef [none, none] t_sums_of_moves
def t_first_best : DS := dSq (dSetO 3 (dLen (dNil))) (dSq (dFor (dZip2 (dCons (dFldN fnT "moves" (dVar 0)) (dCons (dVar 1) (dNil)))) (dTp (dsCons (dNm 4) (dsCons (dNm 5) (dsNil)))) (dSq (dSet 6 (dCall (gDef 3 p_sums_of_moves) (dCons (dVar 4) (dCons (dVar 5) (dCons (dVar 2) (dNil)))))) (dApp 3 (dIndex (dVar 6) (dCall (gDef 1 p_greatest_of) (dCons (dVar 6) (dNil))))))) (dRet (dCall gTuple (dCons (dVar 3) (dNil)))))
def p_first_best : DLK := dDef [none, none, none, none] t_first_best
def t_gains_of : DS := dRet (dLst (dLc (dZip2 (dCons (dVar 0) (dCons (dVar 1) (dNil)))) (dTp (dsCons (dNm 2) (dsCons (dNm 3) (dsNil)))) (dYes) (dBin gIx (dVar 2) (dVar 3)) [2, 3]))
def p_gains_of : DLK := dDef [none, none] t_gains_of
def t_most_of : DS := dSq (dSet 2 (dBin gRepT' (dTup (dCons (dC (.int 0)) (dNil))) (dFldN fnT "many" (dVar 0)))) (dSq (dSet 3 (dCall (gDef 2 p_gained_by) (dCons (dCall (gDef 2 p_rows_of) (dCons (dVar 0) (dCons (dVar 2) (dNil)))) (dCons (dCall (gDef 2 p_gains_of) (dCons (dVar 1) (dCons (dVar 2) (dNil)))) (dNil))))) (dSq (dSet 4 (dC (.bl false))) (dSq (dWhile (dNot (dTest (dVar 4))) (dSq (dSet 2 (dCall (gDef 3 p_first_best) (dCons (dVar 0) (dCons (dVar 1) (dCons (dVar 3) (dNil)))))) (dSq (dSet 5 (dCall (gDef 2 p_gained_by) (dCons (dCall (gDef 2 p_rows_of) (dCons (dVar 0) (dCons (dVar 2) (dNil)))) (dCons (dCall (gDef 2 p_gains_of) (dCons (dVar 1) (dCons (dVar 2) (dNil)))) (dNil))))) (dPar [4, 3] (dxCons (dxP (dBin gEq (dVar 5) (dVar 3))) (dxCons (dxP (dVar 5)) (dxNil))))))) (dRet (dVar 3)))))
def p_most_of : DLK := dDef [none, none, none, none] t_most_of
def t_flow_by : DS := dSq (dPar [3, 4] (dxCons (dxP (dCall (gDef 2 p_rows_of) (dCons (dVar 0) (dCons (dVar 2) (dNil))))) (dxCons (dxO (dLen (dNil))) (dxNil)))) (dSq (dFor (dRng1 (dCons (dFldN fnT "many" (dVar 0)) (dNil))) (dNm 5) (dSq (dSet 6 (dCall (gDef 1 p_multiple_of) (dCons (dLst (dLc (dSeqI (dVar 3)) (dNm 15) (dYes) (dBin gIx (dVar 15) (dC (.int 0))) [15])) (dNil)))) (dSq (dSet 7 (dLst (dLc (dEnumI (dCons (dVar 3) (dNil))) (dTp (dsCons (dNm 14) (dsCons (dNm 15) (dsNil)))) (dYes) (dBin gSub (dBin gMul (dVar 6) (dCall gInt (dCons (dBin gEq (dVar 5) (dVar 14)) (dNil)))) (dBin gMul (dBin gIx (dBin gIx (dVar 15) (dC (.int 1))) (dVar 5)) (dBin gDiv (dVar 6) (dBin gIx (dVar 15) (dC (.int 0)))))) [14, 15]))) (dApp 4 (dTup (dCons (dCall gTuple (dCons (dVar 7) (dNil))) (dCons (dBin gMul (dVar 6) (dBin gIx (dBin gIx (dVar 1) (dC (.int 1))) (dVar 5))) (dNil)))))))) (dFrz 4 (dSq (dAsg (dTp (dsCons (dNm 8) (dsCons (dNm 9) (dsNil)))) (dCall (gDef 1 p_answer_of) (dCons (dVar 4) (dNil)))) (dSq (dSetO 10 (dLen (dNil))) (dSq (dFor (dZip3 (dCons (dFldN fnT "moves" (dVar 0)) (dCons (dVar 2) (dCons (dVar 9) (dNil))))) (dTp (dsCons (dNm 11) (dsCons (dNm 12) (dsCons (dNm 13) (dsNil))))) (dApp 10 (dCall gTuple (dCons (dLst (dLc (dRng1 (dCons (dCall gLen (dCons (dVar 11) (dNil))) (dNil))) (dNm 16) (dYes) (dCall (gDef 2 p_ratio_of) (dCons (dBin gMul (dVar 13) (dCall gInt (dCons (dBin gEq (dVar 16) (dVar 12)) (dNil)))) (dCons (dBin gMul (dVar 8) (dBin gIx (dVar 1) (dC (.int 0)))) (dNil)))) [16])) (dNil))))) (dRet (dCall gTuple (dCons (dVar 10) (dNil)))))))))
def p_flow_by : DLK := dDef [none, none, none, none, none, none, none, none, none, none, none, none, none, none] t_flow_by
def t_begun_by : DS := dSq (dSetO 2 (dLen (dNil))) (dSq (dFor (dRng1 (dCons (dFldN fnT "many" (dVar 0)) (dNil))) (dNm 3) (dSq (dSet 4 (dLst (dLen (dNil)))) (dSq (dFor (dZip2 (dCons (dFldN fnT "moves" (dVar 0)) (dCons (dVar 1) (dNil)))) (dTp (dsCons (dNm 5) (dsCons (dNm 6) (dsNil)))) (dSet 4 (dLst (dBinL gCatL (dVar 4) (dLst (dLc (dZip2 (dCons (dVar 5) (dCons (dVar 6) (dNil)))) (dTp (dsCons (dNm 7) (dsCons (dNm 8) (dsNil)))) (dYes) (dCall (gDef 2 p_product_of) (dCons (dVar 8) (dCons (dTup (dCons (dBin gIx (dBin gIx (dVar 7) (dC (.int 1))) (dVar 3)) (dCons (dBin gIx (dVar 7) (dC (.int 0))) (dNil)))) (dNil)))) [7, 8])))))) (dApp 2 (dCall (gDef 2 p_less_of) (dCons (dCall (gDef 1 p_total_of) (dCons (dLst (dCallL gList (dCons (dBin gIx (dVar 1) (dVar 3)) (dNil)))) (dNil))) (dCons (dCall (gDef 1 p_total_of) (dCons (dVar 4) (dNil))) (dNil)))))))) (dRet (dVar 2)))
def p_begun_by : DLK := dDef [none, none, none, none, none, none, none] t_begun_by
def t_are_counts : DS := dSq (dIfS (dNot (dTest (dCall (gDef 2 p_are_parts) (dCons (dVar 0) (dCons (dVar 1) (dNil)))))) (dRet (dC (.bl false))) (dNext)) (dRet (dCall gAll (dCons (dLst (dLc (dSeqI (dVar 1)) (dNm 2) (dYes) (dCall gAll (dCons (dLst (dLc (dSeqI (dVar 2)) (dNm 3) (dYes) (dBin gGe (dBin gIx (dVar 3) (dC (.int 0))) (dC (.int 0))) [3])) (dNil))) [2])) (dNil))))
def p_are_counts : DLK := dDef [none, none] t_are_counts
def t_walk_of : DS := dSq (dDrop (dCall (gDef 1 p_need_house) (dCons (dVar 0) (dNil)))) (dSq (dDrop (dCall (gDef 2 p_need_plan) (dCons (dVar 0) (dCons (dVar 1) (dNil))))) (dRet (dCall (gMake 0 1 p_Walk_init_) (dCons (dCall (gDef 2 p_rows_of) (dCons (dVar 0) (dCons (dVar 1) (dNil)))) (dNil)))))
def p_walk_of : DLK := dDef [] t_walk_of
def t_most : DS := dSq (dDrop (dCall (gDef 2 p_need_gains) (dCons (dVar 0) (dCons (dVar 1) (dNil))))) (dRet (dCall (gDef 2 p_most_of) (dCons (dVar 0) (dCons (dVar 1) (dNil)))))
def p_most : DLK := dDef [] t_most
def t_best_plan : DS := dSq (dDrop (dCall (gDef 2 p_need_gains) (dCons (dVar 0) (dCons (dVar 1) (dNil))))) (dRet (dCall (gDef 3 p_first_best) (dCons (dVar 0) (dCons (dVar 1) (dCons (dCall (gDef 2 p_most_of) (dCons (dVar 0) (dCons (dVar 1) (dNil)))) (dNil))))))
def p_best_plan : DLK := dDef [] t_best_plan
def t_is_most_paper : DS := dSq (dDrop (dCall (gDef 2 p_need_gains) (dCons (dVar 0) (dCons (dVar 1) (dNil))))) (dSq (dIfS (dOr (dNot (dTest (dIsi "tuple" (dVar 2)))) (dOr (dTest (dBin gNe (dCall gLen (dCons (dVar 2) (dNil))) (dC (.int 2)))) (dNot (dTest (dCall (gDef 2 p_are_ratios) (dCons (dBin gIx (dVar 2) (dC (.int 0))) (dCons (dFldN fnT "many" (dVar 0)) (dNil)))))))) (dRet (dC (.bl false))) (dNext)) (dSq (dIfS (dNot (dTest (dCall (gDef 2 p_is_plan) (dCons (dVar 0) (dCons (dBin gIx (dVar 2) (dC (.int 1))) (dNil)))))) (dRet (dC (.bl false))) (dNext)) (dSq (dFor (dEnumI (dCons (dFldN fnT "moves" (dVar 0)) (dNil))) (dTp (dsCons (dNm 3) (dsCons (dNm 4) (dsNil)))) (dSq (dSet 5 (dCall (gDef 3 p_sums_of_moves) (dCons (dVar 4) (dCons (dBin gIx (dVar 1) (dVar 3)) (dCons (dBin gIx (dVar 2) (dC (.int 0))) (dNil)))))) (dIfS (dOr (dTest (dCall gAny (dCons (dLst (dLc (dSeqI (dVar 5)) (dNm 6) (dYes) (dCall (gDef 2 p_is_below) (dCons (dBin gIx (dBin gIx (dVar 2) (dC (.int 0))) (dVar 3)) (dCons (dVar 6) (dNil)))) [6])) (dNil)))) (dTest (dBin gNe (dBin gIx (dVar 5) (dBin gIx (dBin gIx (dVar 2) (dC (.int 1))) (dVar 3))) (dBin gIx (dBin gIx (dVar 2) (dC (.int 0))) (dVar 3))))) (dRet (dC (.bl false))) (dNext)))) (dRet (dC (.bl true))))))
def p_is_most_paper : DLK := dDef [none, none, none, none] t_is_most_paper
def t_flow_of : DS := dSq (dDrop (dCall (gDef 1 p_need_house) (dCons (dVar 0) (dNil)))) (dSq (dDrop (dCall (gDef 2 p_need_share) (dCons (dFldN fnT "many" (dVar 0)) (dCons (dVar 1) (dNil))))) (dSq (dDrop (dCall (gDef 2 p_need_plan) (dCons (dVar 0) (dCons (dVar 2) (dNil))))) (dSq (dDrop (dCall (gDef 1 p_need_leaky) (dCons (dVar 0) (dNil)))) (dRet (dCall (gDef 3 p_flow_by) (dCons (dVar 0) (dCons (dVar 1) (dCons (dVar 2) (dNil)))))))))
def p_flow_of : DLK := dDef [] t_flow_of
def t_is_flow : DS := dSq (dDrop (dCall (gDef 1 p_need_house) (dCons (dVar 0) (dNil)))) (dSq (dDrop (dCall (gDef 2 p_need_share) (dCons (dFldN fnT "many" (dVar 0)) (dCons (dVar 1) (dNil))))) (dSq (dDrop (dCall (gDef 1 p_need_leaky) (dCons (dVar 0) (dNil)))) (dSq (dIfS (dNot (dTest (dCall (gDef 2 p_are_counts) (dCons (dVar 0) (dCons (dVar 2) (dNil)))))) (dRet (dC (.bl false))) (dNext)) (dRet (dBin gEq (dCall (gDef 2 p_begun_by) (dCons (dVar 0) (dCons (dVar 2) (dNil)))) (dLst (dLc (dSeqI (dBin gIx (dVar 1) (dC (.int 1)))) (dNm 3) (dYes) (dCall (gDef 2 p_ratio_of) (dCons (dVar 3) (dCons (dBin gIx (dVar 1) (dC (.int 0))) (dNil)))) [3])))))))
def p_is_flow : DLK := dDef [none] t_is_flow
def t__law_mixed : DS := dSq (dDput 0 (dBin gAdd (dDrN (dVar 0)) (dC (.int 1)))) (dSq (dPar [1, 2] (dxCons (dxP (dCall gInt (dCons (dDrN (dVar 0)) (dNil)))) (dxCons (dxP (dC (.int 0))) (dxNil)))) (dSq (dFor (dSeqI (dLst (dLen (dCons (dC (.int 2147483647)) (dCons (dC (.int 2147483629)) (dCons (dC (.int 2147483587)) (dNil))))))) (dNm 3) (dSq (dSet 4 (dBin gMod (dBin gAdd (dBin gMul (dVar 1) (dC (.int 48271))) (dBin gDiv (dVar 3) (dC (.int 11)))) (dVar 3))) (dSq (dFor (dSeqI (dDrC (dVar 0))) (dNm 5) (dSet 4 (dBin gMod (dBin gAdd (dBin gAdd (dBin gMul (dVar 4) (dC (.int 69621))) (dCall gInt (dCons (dVar 5) (dNil)))) (dVar 1)) (dVar 3)))) (dSet 2 (dBin gAdd (dBin gMul (dVar 2) (dC (.int 2147483659))) (dBin gMod (dBin gPow (dVar 4) (dC (.int 5))) (dVar 3))))))) (dRet (dVar 2))))
def p__law_mixed : DLK := dDef [none, none, none, none, none] t__law_mixed
def t__law_take : DS := dSq (dIfS (dTest (dBin gEq (dDrN (dVar 0)) (dC (.int 0)))) (dDput 0 (dPop 0 (dCall (gDef 1 p__law_mixed) (dCons (dVar 0) (dNil))))) (dNext)) (dSq (dSet 2 (dBin gMod (dCall gInt (dCons (dDrN (dVar 0)) (dNil))) (dVar 1))) (dSq (dDput 0 (dBin gDiv (dCall gInt (dCons (dDrN (dVar 0)) (dNil))) (dVar 1))) (dRet (dVar 2))))
def p__law_take : DLK := dDef [none] t__law_take
def t__law_pick : DS := dRet (dBin gIx (dVar 1) (dCall (gDef 2 p__law_take) (dCons (dVar 0) (dCons (dCall gLen (dCons (dVar 1) (dNil))) (dNil)))))
def p__law_pick : DLK := dDef [] t__law_pick
def t__law_common : DS := dSq (dPar [0, 1] (dxCons (dxP (dCall gAbs (dCons (dVar 0) (dNil)))) (dxCons (dxP (dCall gAbs (dCons (dVar 1) (dNil)))) (dxNil)))) (dSq (dWhile (dTest (dBin gNe (dVar 1) (dC (.int 0)))) (dPar [0, 1] (dxCons (dxP (dVar 1)) (dxCons (dxP (dBin gMod (dVar 0) (dVar 1))) (dxNil))))) (dRet (dVar 0)))
def p__law_common : DLK := dDef [] t__law_common
def t__law_ratio : DS := dSq (dSet 2 (dIf (dTest (dBin gGt (dVar 1) (dC (.int 0)))) (dCall (gDef 2 p__law_common) (dCons (dVar 0) (dCons (dVar 1) (dNil)))) (dBin gSub (dC (.int 0)) (dCall (gDef 2 p__law_common) (dCons (dVar 0) (dCons (dVar 1) (dNil))))))) (dRet (dTup (dCons (dBin gDiv (dVar 0) (dVar 2)) (dCons (dBin gDiv (dVar 1) (dVar 2)) (dNil)))))
def p__law_ratio : DLK := dDef [none] t__law_ratio
def t__law_plus : DS := dRet (dCall (gDef 2 p__law_ratio) (dCons (dBin gAdd (dBin gMul (dBin gIx (dVar 0) (dC (.int 0))) (dBin gIx (dVar 1) (dC (.int 1)))) (dBin gMul (dBin gIx (dVar 1) (dC (.int 0))) (dBin gIx (dVar 0) (dC (.int 1))))) (dCons (dBin gMul (dBin gIx (dVar 0) (dC (.int 1))) (dBin gIx (dVar 1) (dC (.int 1)))) (dNil))))
def p__law_plus : DLK := dDef [] t__law_plus
def t__law_times : DS := dRet (dCall (gDef 2 p__law_ratio) (dCons (dBin gMul (dBin gIx (dVar 0) (dC (.int 0))) (dBin gIx (dVar 1) (dC (.int 0)))) (dCons (dBin gMul (dBin gIx (dVar 0) (dC (.int 1))) (dBin gIx (dVar 1) (dC (.int 1)))) (dNil))))
def p__law_times : DLK := dDef [] t__law_times
def t__law_total : DS := dSq (dSet 1 (dTup (dCons (dC (.int 0)) (dCons (dC (.int 1)) (dNil))))) (dSq (dFor (dSeqI (dVar 0)) (dNm 2) (dSet 1 (dCall (gDef 2 p__law_plus) (dCons (dVar 1) (dCons (dVar 2) (dNil)))))) (dRet (dVar 1)))
def p__law_total : DLK := dDef [none, none] t__law_total
def t__law_parts : DS := dRet (dLst (dLc (dSeqI (dBin gIx (dVar 0) (dC (.int 1)))) (dNm 1) (dYes) (dCall (gDef 2 p__law_ratio) (dCons (dVar 1) (dCons (dBin gIx (dVar 0) (dC (.int 0))) (dNil)))) [1]))
def p__law_parts : DLK := dDef [none] t__law_parts
def t__law_pair : DS := dSq (dPar [1, 2] (dxCons (dxP (dC (.int 1))) (dxCons (dxP (dC (.int 0))) (dxNil)))) (dSq (dFor (dSeqI (dVar 0)) (dTp (dsCons (dNm 3) (dsCons (dNm 4) (dsNil)))) (dSet 1 (dBin gMul (dBin gDiv (dVar 1) (dCall (gDef 2 p__law_common) (dCons (dVar 1) (dCons (dVar 4) (dNil))))) (dVar 4)))) (dSq (dSet 5 (dLst (dLc (dSeqI (dVar 0)) (dTp (dsCons (dNm 3) (dsCons (dNm 4) (dsNil)))) (dYes) (dBin gMul (dVar 3) (dBin gDiv (dVar 1) (dVar 4))) [3, 4]))) (dSq (dFor (dSeqI (dLst (dBinL gCatL (dVar 5) (dLst (dLen (dCons (dVar 1) (dNil))))))) (dNm 6) (dSet 2 (dCall (gDef 2 p__law_common) (dCons (dVar 2) (dCons (dVar 6) (dNil)))))) (dRet (dTup (dCons (dBin gDiv (dVar 1) (dVar 2)) (dCons (dCall gTuple (dCons (dLst (dLc (dSeqI (dVar 5)) (dNm 6) (dYes) (dBin gDiv (dVar 6) (dVar 2)) [6])) (dNil))) (dNil))))))))
def p__law_pair : DLK := dDef [none, none, none, none, none, none] t__law_pair
def t__law_some_share : DS := dSq (dSetO 2 (dLc (dRng1 (dCons (dVar 1) (dNil))) (dNm 3) (dYes) (dCall (gDef 2 p__law_pick) (dCons (dVar 0) (dCons (dLst (dLen (dCons (dC (.int 0)) (dCons (dC (.int 0)) (dCons (dC (.int 1)) (dCons (dC (.int 2)) (dCons (dC (.int 3)) (dCons (dC (.int 7)) (dNil))))))))) (dNil)))) [3])) (dSq (dIfS (dTest (dBin gEq (dCall gSumB (dCons (dVar 2) (dNil))) (dC (.int 0)))) (dPut 2 (dC (.int 1)) (dCall (gDef 2 p__law_take) (dCons (dVar 0) (dCons (dVar 1) (dNil))))) (dNext)) (dRet (dCall (gDef 1 p__law_pair) (dCons (dLst (dLc (dSeqI (dVar 2)) (dNm 4) (dYes) (dCall (gDef 2 p__law_ratio) (dCons (dVar 4) (dCons (dCall gSumB (dCons (dVar 2) (dNil))) (dNil)))) [4])) (dNil)))))
def p__law_some_share : DLK := dDef [none, none, none] t__law_some_share
def t__law_dot : DS := dRet (dCall (gDef 1 p__law_total) (dCons (dLst (dLc (dZip2 (dCons (dVar 0) (dCons (dVar 1) (dNil)))) (dTp (dsCons (dNm 2) (dsCons (dNm 3) (dsNil)))) (dYes) (dCall (gDef 2 p__law_times) (dCons (dVar 2) (dCons (dVar 3) (dNil)))) [2, 3])) (dNil)))
def p__law_dot : DLK := dDef [none, none] t__law_dot
def t__law_stays : DS := dRet (dLst (dLc (dRng1 (dCons (dVar 1) (dNil))) (dNm 2) (dYes) (dCall (gDef 2 p__law_pick) (dCons (dVar 0) (dCons (dLst (dLen (dCons (dTup (dCons (dC (.int 0)) (dCons (dC (.int 1)) (dNil)))) (dCons (dTup (dCons (dC (.int 1)) (dCons (dC (.int 2)) (dNil)))) (dCons (dTup (dCons (dC (.int 1)) (dCons (dC (.int 3)) (dNil)))) (dCons (dTup (dCons (dC (.int 2)) (dCons (dC (.int 3)) (dNil)))) (dCons (dTup (dCons (dC (.int 1)) (dCons (dC (.int 10)) (dNil)))) (dCons (dTup (dCons (dC (.int 4)) (dCons (dC (.int 5)) (dNil)))) (dNil))))))))) (dNil)))) [2]))
def p__law_stays : DLK := dDef [none] t__law_stays
def t__law_slow : DS := dSq (dSetO 2 (dLen (dNil))) (dSq (dFor (dEnumI (dCons (dVar 0) (dNil))) (dTp (dsCons (dNm 3) (dsCons (dTp (dsCons (dNm 4) (dsCons (dNm 5) (dsNil)))) (dsNil)))) (dSq (dAsg (dTp (dsCons (dNm 6) (dsCons (dNm 7) (dsNil)))) (dBin gIx (dVar 1) (dVar 3))) (dSq (dSetO 8 (dLc (dSeqI (dVar 5)) (dNm 9) (dYes) (dBin gMul (dVar 9) (dBin gSub (dVar 7) (dVar 6))) [9])) (dSq (dPutF 8 (dBin gAdd (dBin gIx (dVar 8) (dVar 3)) (dBin gMul (dVar 4) (dVar 6))) (dVar 3)) (dFrz 8 (dApp 2 (dTup (dCons (dBin gMul (dVar 4) (dVar 7)) (dCons (dCall gTuple (dCons (dVar 8) (dNil))) (dNil)))))))))) (dRet (dVar 2)))
def p__law_slow : DLK := dDef [none, none, none, none, none, none, none, none] t__law_slow
def t__law_longer : DS := dRet (dLst (dLc (dSeqI (dVar 0)) (dTp (dsCons (dNm 1) (dsCons (dNm 2) (dsNil)))) (dYes) (dCall (gDef 2 p__law_ratio) (dCons (dVar 2) (dCons (dBin gSub (dVar 2) (dVar 1)) (dNil)))) [1, 2]))
def p__law_longer : DLK := dDef [none, none] t__law_longer
def t__law_shorter : DS := dRet (dLst (dLc (dSeqI (dVar 0)) (dTp (dsCons (dNm 1) (dsCons (dNm 2) (dsNil)))) (dYes) (dCall (gDef 2 p__law_ratio) (dCons (dBin gSub (dVar 2) (dVar 1)) (dCons (dVar 2) (dNil)))) [1, 2]))
def p__law_shorter : DLK := dDef [none, none] t__law_shorter
def t__law_rows_of : DS := dRet (dLst (dLc (dSeqI (dFldN fnT "rows" (dVar 0))) (dTp (dsCons (dNm 1) (dsCons (dNm 2) (dsNil)))) (dYes) (dTup (dCons (dVar 1) (dCons (dVar 2) (dNil)))) [1, 2]))
def p__law_rows_of : DLK := dDef [none, none] t__law_rows_of
def t__law_house : DS := dSq (dPar [1, 2] (dxCons (dxP (dBin gAdd (dC (.int 1)) (dCall (gDef 2 p__law_take) (dCons (dVar 0) (dCons (dC (.int 4)) (dNil)))))) (dxCons (dxO (dLen (dNil))) (dxNil)))) (dSq (dFor (dRng1 (dCons (dVar 1) (dNil))) (dNm 3) (dSq (dSetO 4 (dLen (dNil))) (dSq (dFor (dRng1 (dCons (dBin gAdd (dC (.int 1)) (dCall (gDef 2 p__law_take) (dCons (dVar 0) (dCons (dC (.int 3)) (dNil))))) (dNil))) (dNm 5) (dSq (dSet 6 (dLst (dLc (dRng1 (dCons (dVar 1) (dNil))) (dNm 7) (dYes) (dCall (gDef 2 p__law_pick) (dCons (dVar 0) (dCons (dLst (dLen (dCons (dC (.int 0)) (dCons (dC (.int 0)) (dCons (dC (.int 1)) (dCons (dC (.int 2)) (dCons (dC (.int 5)) (dNil)))))))) (dNil)))) [7]))) (dApp 4 (dTup (dCons (dBin gAdd (dBin gAdd (dCall gSumB (dCons (dVar 6) (dNil))) (dC (.int 1))) (dCall (gDef 2 p__law_take) (dCons (dVar 0) (dCons (dC (.int 3)) (dNil))))) (dCons (dCall gTuple (dCons (dVar 6) (dNil))) (dNil))))))) (dFrz 4 (dApp 2 (dVar 4)))))) (dRet (dVar 2)))
def p__law_house : DLK := dDef [none, none, none, none, none, none, none] t__law_house
def t__law_slow_moves : DS := dSq (dSet 2 (dCall gLen (dCons (dVar 0) (dNil)))) (dRet (dLst (dLc (dRng1 (dCons (dVar 2) (dNil))) (dNm 3) (dYes) (dLst (dLc (dSeqI (dBin gIx (dVar 0) (dVar 3))) (dNm 4) (dYes) (dBin gIx (dCall (gDef 2 p__law_slow) (dCons (dLst (dBinL gRepL (dLst (dLen (dCons (dVar 4) (dNil)))) (dVar 2))) (dCons (dLst (dBinL gRepL (dLst (dLen (dCons (dBin gIx (dVar 1) (dVar 3)) (dNil)))) (dVar 2))) (dNil)))) (dVar 3)) [4])) [3])))
def p__law_slow_moves : DLK := dDef [none, none, none] t__law_slow_moves
def t__law_gain : DS := dRet (dCall gTuple (dCons (dLst (dLc (dSeqI (dVar 1)) (dNm 2) (dYes) (dCall gTuple (dCons (dLst (dLc (dSeqI (dVar 2)) (dNm 3) (dYes) (dCall (gDef 2 p__law_ratio) (dCons (dBin gSub (dCall (gDef 2 p__law_take) (dCons (dVar 0) (dCons (dC (.int 21)) (dNil)))) (dC (.int 10))) (dCons (dCall (gDef 2 p__law_pick) (dCons (dVar 0) (dCons (dLst (dLen (dCons (dC (.int 1)) (dCons (dC (.int 1)) (dCons (dC (.int 3)) (dNil)))))) (dNil)))) (dNil)))) [3])) (dNil))) [2])) (dNil)))
def p__law_gain : DLK := dDef [none, none] t__law_gain
def t__law_right : DS := dSq (dSet 1 (dCall (gDef 1 p__law_house) (dCons (dVar 0) (dNil)))) (dSq (dSet 2 (dCall gLen (dCons (dVar 1) (dNil)))) (dSq (dPar [3, 4] (dxCons (dxP (dCall (gDef 2 p__law_stays) (dCons (dVar 0) (dCons (dVar 2) (dNil))))) (dxCons (dxP (dCall (gDef 2 p__law_gain) (dCons (dVar 0) (dCons (dVar 1) (dNil))))) (dxNil)))) (dSq (dPar [5, 6] (dxCons (dxP (dCall (gMake 1 1 p_House_init_) (dCons (dVar 1) (dNil)))) (dxCons (dxP (dCall (gMake 1 1 p_House_init_) (dCons (dCall (gDef 2 p__law_slow_moves) (dCons (dVar 1) (dCons (dVar 3) (dNil)))) (dNil)))) (dxNil)))) (dSq (dSet 7 (dCall gTuple (dCons (dLst (dLc (dZip2 (dCons (dVar 4) (dCons (dCall (gDef 1 p__law_shorter) (dCons (dVar 3) (dNil))) (dNil)))) (dTp (dsCons (dNm 17) (dsCons (dNm 13) (dsNil)))) (dYes) (dCall gTuple (dCons (dLst (dLc (dSeqI (dVar 17)) (dNm 19) (dYes) (dCall (gDef 2 p__law_times) (dCons (dVar 19) (dCons (dVar 13) (dNil)))) [19])) (dNil))) [17, 13])) (dNil)))) (dSq (dSet 8 (dLst (dLen (dCons (dCall (gDef 2 p_most) (dCons (dVar 5) (dCons (dVar 4) (dNil)))) (dCons (dCall (gDef 2 p_best_plan) (dCons (dVar 5) (dCons (dVar 4) (dNil)))) (dNil)))))) (dSq (dIfS (dOr (dTest (dBin gNe (dLst (dLen (dCons (dCall (gDef 2 p_most) (dCons (dVar 6) (dCons (dVar 7) (dNil)))) (dCons (dCall (gDef 2 p_best_plan) (dCons (dVar 6) (dCons (dVar 7) (dNil)))) (dNil))))) (dVar 8))) (dTest (dBin gNotB (dCall (gDef 3 p_is_most_paper) (dCons (dVar 6) (dCons (dVar 7) (dCons (dTup (dCons (dBin gIx (dVar 8) (dC (.int 0))) (dCons (dBin gIx (dVar 8) (dC (.int 1))) (dNil)))) (dNil))))) (dC (.bl true))))) (dRet (dC (.bl false))) (dNext)) (dSq (dPar [9, 10] (dxCons (dxP (dCall (gDef 2 p__law_some_share) (dCons (dVar 0) (dCons (dVar 2) (dNil))))) (dxCons (dxP (dCall gTuple (dCons (dLst (dLc (dSeqI (dVar 1)) (dNm 18) (dYes) (dCall (gDef 2 p__law_take) (dCons (dVar 0) (dCons (dCall gLen (dCons (dVar 18) (dNil))) (dNil)))) [18])) (dNil)))) (dxNil)))) (dSq (dIfS (dTest (dBin (gNeC 0 p_Walk_eq_) (dCall (gDef 2 p_walk_of) (dCons (dVar 6) (dCons (dVar 10) (dNil)))) (dCall (gMake 0 1 p_Walk_init_) (dCons (dCall (gDef 2 p__law_slow) (dCons (dCall (gDef 1 p__law_rows_of) (dCons (dCall (gDef 2 p_walk_of) (dCons (dVar 5) (dCons (dVar 10) (dNil)))) (dNil))) (dCons (dVar 3) (dNil)))) (dNil))))) (dRet (dC (.bl false))) (dNext)) (dSq (dSet 11 (dCall (gDef 3 p_flow_of) (dCons (dVar 5) (dCons (dVar 9) (dCons (dVar 10) (dNil)))))) (dSq (dSet 12 (dCall gTuple (dCons (dLst (dLc (dZip2 (dCons (dVar 11) (dCons (dCall (gDef 1 p__law_longer) (dCons (dVar 3) (dNil))) (dNil)))) (dTp (dsCons (dNm 17) (dsCons (dNm 13) (dsNil)))) (dYes) (dCall gTuple (dCons (dLst (dLc (dSeqI (dVar 17)) (dNm 20) (dYes) (dCall (gDef 2 p__law_times) (dCons (dVar 20) (dCons (dVar 13) (dNil)))) [20])) (dNil))) [17, 13])) (dNil)))) (dSq (dIfS (dOr (dTest (dBin gNe (dCall (gDef 3 p_flow_of) (dCons (dVar 6) (dCons (dVar 9) (dCons (dVar 10) (dNil))))) (dVar 12))) (dTest (dBin gNotB (dCall (gDef 3 p_is_flow) (dCons (dVar 6) (dCons (dVar 9) (dCons (dVar 12) (dNil))))) (dC (.bl true))))) (dRet (dC (.bl false))) (dNext)) (dSq (dSet 13 (dCall (gDef 2 p__law_pick) (dCons (dVar 0) (dCons (dLst (dLen (dCons (dTup (dCons (dC (.int 1)) (dCons (dC (.int 2)) (dNil)))) (dCons (dTup (dCons (dC (.int 3)) (dCons (dC (.int 1)) (dNil)))) (dCons (dTup (dCons (dC (.int 7)) (dCons (dC (.int 5)) (dNil)))) (dNil)))))) (dNil))))) (dSq (dSet 14 (dCall gTuple (dCons (dLst (dLc (dSeqI (dVar 4)) (dNm 17) (dYes) (dCall gTuple (dCons (dLst (dLc (dSeqI (dVar 17)) (dNm 19) (dYes) (dCall (gDef 2 p__law_times) (dCons (dVar 19) (dCons (dVar 13) (dNil)))) [19])) (dNil))) [17])) (dNil)))) (dSq (dIfS (dOr (dTest (dBin gNe (dCall (gDef 2 p_most) (dCons (dVar 5) (dCons (dVar 14) (dNil)))) (dCall gTuple (dCons (dLst (dLc (dSeqI (dBin gIx (dVar 8) (dC (.int 0)))) (dNm 20) (dYes) (dCall (gDef 2 p__law_times) (dCons (dVar 20) (dCons (dVar 13) (dNil)))) [20])) (dNil))))) (dTest (dBin gNe (dCall (gDef 2 p_best_plan) (dCons (dVar 5) (dCons (dVar 14) (dNil)))) (dBin gIx (dVar 8) (dC (.int 1)))))) (dRet (dC (.bl false))) (dNext)) (dSq (dSet 15 (dCall (gMake 1 1 p_House_init_) (dCons (dLst (dLc (dSeqI (dVar 1)) (dNm 18) (dYes) (dIf (dTest (dBin gLt (dCall gLen (dCons (dVar 18) (dNil))) (dC (.int 3)))) (dLst (dBinL gCatL (dVar 18) (dLst (dSlL (dVar 18) (dNoP) (dSoP (dC (.int 1))))))) (dVar 18)) [18])) (dNil)))) (dSq (dSet 16 (dCall gTuple (dCons (dLst (dLc (dSeqI (dVar 4)) (dNm 17) (dYes) (dIf (dTest (dBin gLt (dCall gLen (dCons (dVar 17) (dNil))) (dC (.int 3)))) (dBin gCatT (dVar 17) (dSlT (dVar 17) (dNoP) (dSoP (dC (.int 1))))) (dVar 17)) [17])) (dNil)))) (dSq (dIfS (dOr (dTest (dBin gNe (dCall (gDef 2 p_most) (dCons (dVar 15) (dCons (dVar 16) (dNil)))) (dBin gIx (dVar 8) (dC (.int 0))))) (dTest (dBin gNe (dCall (gDef 2 p_best_plan) (dCons (dVar 15) (dCons (dVar 16) (dNil)))) (dBin gIx (dVar 8) (dC (.int 1)))))) (dRet (dC (.bl false))) (dNext)) (dRet (dBin gEq (dCall (gDef 1 p__law_total) (dCons (dLst (dLc (dZip2 (dCons (dCall (gDef 3 p_flow_of) (dCons (dVar 5) (dCons (dVar 9) (dCons (dBin gIx (dVar 8) (dC (.int 1))) (dNil))))) (dCons (dVar 4) (dNil)))) (dTp (dsCons (dNm 17) (dsCons (dNm 19) (dsNil)))) (dYes) (dCall (gDef 2 p__law_dot) (dCons (dVar 17) (dCons (dVar 19) (dNil)))) [17, 19])) (dNil))) (dCall (gDef 2 p__law_dot) (dCons (dCall (gDef 1 p__law_parts) (dCons (dVar 9) (dNil))) (dCons (dBin gIx (dVar 8) (dC (.int 0))) (dNil)))))))))))))))))))))))
def p__law_right : DLK := dDef [none, none, none, none, none, none, none, none, none, none, none, none, none, none, none, none, none, none, none, none] t__law_right
def t_law : DS := dSq (dFor (dRng1 (dCons (dBin gAdd (dC (.int 5)) (dCall gMin2 (dCons (dLenS (dVar 0)) (dCons (dC (.int 12)) (dNil))))) (dNil))) (dNm 2) (dIfS (dNot (dTest (dCall (gDef 1 p__law_right) (dCons (dVar 1) (dNil))))) (dRet (dC (.bl false))) (dNext))) (dRet (dC (.bl true)))
/-- the law over data -/
def p_law : Prop := t_law { nx := fun _ => False, rt := fun d => d = .bl true } (some (.sh .scr) :: some (.sh .drw) :: [none])
def t_begun : DS := dSetO 1 (dLc (dScrI (dVar 0)) (dNm 2) (dTest (dBin gGe (dCall gAbs (dCons (dVar 2) (dNil))) (dBin gPow (dC (.int 10)) (dC (.int 18))))) (dBin gSub (dCall gAbs (dCons (dVar 2) (dNil))) (dBin gPow (dC (.int 10)) (dC (.int 18)))) [2])
def l_begun : DA := dLc (dScrI (dVar 0)) (dNm 2) (dYes) (dCall gAbs (dCons (dVar 2) (dNil))) [2]
end Wk
end
section
set_option Elab.async false
set_option linter.all false
set_option maxRecDepth 100000
/-! D1: tools for readings over data. -/
namespace Wk
open PySem PySem.Spec L3
theorem dVar_0 {d : D} {δ : DEnv} {Q : DK} : dVar 0 (some d :: δ) Q = Q d := propext Iff.rfl
theorem dVar_s {n : Nat} {o : Option D} {δ : DEnv} {Q : DK} : dVar (n + 1) (o :: δ) Q = dVar n δ Q := propext Iff.rfl
theorem shOf_nil : shOf [] = [] := congrArg id rfl
theorem shOf_c {o : Option S} {ρ : EnvS} : shOf (o :: ρ) = shO o :: shOf ρ := congrArg id rfl
theorem shO_n : shO none = none := congrArg id rfl
theorem shO_s {d : D} : shO (some (.sh d)) = some d := congrArg id rfl
theorem shO_o {d : List D} : shO (some (.ow d)) = none := congrArg id rfl
theorem shO_i {p dx c fs} : shO (some (.oi p dx c fs)) = none := congrArg id rfl
theorem alOf_nil : alOf [] = [] := congrArg id rfl
theorem alOf_c {o : Option S} {ρ : EnvS} : alOf (o :: ρ) = alO o :: alOf ρ := congrArg id rfl
theorem alO_n : alO none = none := congrArg id rfl
theorem alO_s {d : D} : alO (some (.sh d)) = some d := congrArg id rfl
theorem alO_o {d : List D} : alO (some (.ow d)) = some (.lst d) := congrArg id rfl
theorem alO_i {p dx c fs} : alO (some (.oi p dx c fs)) = some (.obj c fs) := congrArg id rfl
theorem asInt_int {i : Int} {k : Int → Prop} : asInt (.int i) k = k i := propext Iff.rfl
theorem asBl_bl {i : Bool} {k : Bool → Prop} : asBl (.bl i) k = k i := propext Iff.rfl
theorem asSeq_l {i : List D} {k : List D → Prop} : asSeq (.lst i) k = k i := propext Iff.rfl
theorem asSeq_t {i : List D} {k : List D → Prop} : asSeq (.tup i) k = k i := propext Iff.rfl
theorem asLst_l {i : List D} {k : List D → Prop} : asLst (.lst i) k = k i := propext Iff.rfl
theorem asTup_t {i : List D} {k : List D → Prop} : asTup (.tup i) k = k i := propext Iff.rfl
theorem asObj_o {c : Nat} {i : List D} {k : Nat → List D → Prop} : asObj (.obj c i) k = k c i := propext Iff.rfl
theorem arg1_ {x : D} {k : D → Prop} : arg1 [x] k = k x := propext Iff.rfl
theorem arg2_ {x y : D} {k : D → D → Prop} : arg2 [x, y] k = k x y := propext Iff.rfl
theorem arg3_ {x y z : D} {k : D → D → D → Prop} : arg3 [x, y, z] k = k x y z := propext Iff.rfl
/-! the combinators' equations, as propositions (not by rfl: the kernel is not to compare promises) -/
section
variable {δ : DEnv} {Q : DK} {QL : List D → Prop} {QB : Bool → Prop} {E : DEnds} {ρ : EnvS} {ta tb tc t : DE} {tA tB tT : DT} {a r : DA} {g : D2} {g2 : D2} {gl : DL2} {k : DLK} {kl : DLL} {i n c : Nat} {d x y : D} {ds : List D} {T : String} {s u : DS} {ti : DI} {td : DG} {is vs : List Nat} {rx : DXs} {tx : DX} {QS : S → Prop} {QSs : List S → Prop} {QO : Option Int → Prop} {to tp : DO}
theorem q_dC : dC d δ Q = Q d := propext Iff.rfl
theorem q_dBin : dBin g ta tb δ Q = ta δ fun x => tb δ fun y => g x y Q := propext Iff.rfl
theorem q_dBinL : dBinL gl ta tb δ QL = ta δ fun x => tb δ fun y => gl x y QL := propext Iff.rfl
theorem q_dTest : dTest t δ QB = t δ fun x => asBl x QB := propext Iff.rfl
theorem q_dChain : dChain g g2 ta tb tc δ Q = ta δ fun x => tb δ fun y => g x y fun z => asBl z fun k => (if k = true then tc δ fun w => g2 y w Q else Q (.bl false)) := propext Iff.rfl
theorem q_dNot : dNot tT δ QB = tT δ fun k => QB (!k) := propext Iff.rfl
theorem q_dNotV : dNotV t δ Q = t δ fun x => asBl x fun k => Q (.bl (!k)) := propext Iff.rfl
theorem q_dAnd : dAnd tA tB δ QB = tA δ fun k => if k = true then tB δ QB else QB false := propext Iff.rfl
theorem q_dOr : dOr tA tB δ QB = tA δ fun k => if k = true then QB true else tB δ QB := propext Iff.rfl
theorem q_dAndV : dAndV ta tb δ Q = ta δ fun x => asBl x fun k => if k = true then tb δ Q else Q (.bl false) := propext Iff.rfl
theorem q_dOrV : dOrV ta tb δ Q = ta δ fun x => asBl x fun k => if k = true then Q (.bl true) else tb δ Q := propext Iff.rfl
theorem q_dIf : dIf tT ta tb δ Q = tT δ fun k => if k = true then ta δ Q else tb δ Q := propext Iff.rfl
theorem q_dNeg : dNeg t δ Q = t δ fun x => asInt x fun i => Q (.int (-i)) := propext Iff.rfl
theorem q_dCall : dCall k a δ Q = a δ fun ds => k ds Q := propext Iff.rfl
theorem q_dCallL : dCallL kl a δ QL = a δ fun ds => kl ds QL := propext Iff.rfl
theorem q_dNil : dNil δ QL = QL [] := propext Iff.rfl
theorem q_dCons : dCons t a δ QL = t δ fun x => a δ fun xs => QL (x :: xs) := propext Iff.rfl
theorem q_dStar : dStar t a δ QL = t δ fun x => asSeq x fun xs => a δ fun ys => QL (xs ++ ys) := propext Iff.rfl
theorem q_dLst : dLst a δ Q = a δ fun ds => Q (.lst ds) := propext Iff.rfl
theorem q_dTup : dTup a δ Q = a δ fun ds => ds.length ≤ sizeLine ∧ Q (.tup ds) := propext Iff.rfl
theorem q_dLen : dLen a δ QL = a δ fun ds => ds.length ≤ sizeLine ∧ QL ds := propext Iff.rfl
theorem q_dFldN {fn : Nat → List Str} {f : Str} : dFldN fn f t δ Q = t δ fun x => asObj x fun c ds => ∃ (i : Nat) (d : D), (fn c)[i]? = some f ∧ ds[i]? = some d ∧ Q d := propext Iff.rfl
theorem q_dYes : dYes δ QB = QB true := propext Iff.rfl
theorem q_dSeqI : dSeqI t δ QL = t δ fun x => asSeq x QL := propext Iff.rfl
theorem q_dEnumI : dEnumI a δ QL = a δ fun xs => arg1 xs fun x => asSeq x fun ds => QL (enumD 0 ds) := propext Iff.rfl
theorem q_dZip2 : dZip2 a δ QL = a δ fun xs => arg2 xs fun x y => asSeq x fun ds => asSeq y fun es => QL (zipD ds es) := propext Iff.rfl
theorem q_dZip3 : dZip3 a δ QL = a δ fun xs => arg3 xs fun x y z => asSeq x fun ds => asSeq y fun es => asSeq z fun fs => QL (zip3D ds es fs) := propext Iff.rfl
theorem q_dRng1 : dRng1 a δ QL = a δ fun xs => arg1 xs fun x => asInt x fun n => Rng n ∧ QL (rangeD 0 n.toNat) := propext Iff.rfl
theorem q_dRng2 : dRng2 a δ QL = a δ fun xs => arg2 xs fun x y => asInt x fun m => asInt y fun n => Rng m ∧ Rng n ∧ QL (rangeD m (n - m).toNat) := propext Iff.rfl
theorem q_dLc : dLc ti td tT t vs δ QL = ti δ fun ds => dLcL td tT t (wipeD δ vs) ds [] QL := propext Iff.rfl
theorem q_dSlL : dSlL t to tp δ QL = t δ fun x => to δ fun l => tp δ fun u => asLst x fun ds => QL (cutD ds l u) := propext Iff.rfl
theorem q_dSlT : dSlT t to tp δ Q = t δ fun x => to δ fun l => tp δ fun u => asTup x fun ds => Q (.tup (cutD ds l u)) := propext Iff.rfl
theorem q_dNoP : dNoP δ QO = QO none := propext Iff.rfl
theorem q_dSoP : dSoP t δ QO = t δ fun x => asInt x fun i => QO (some i) := propext Iff.rfl
theorem q_dIndex : dIndex ta tb δ Q = ta δ fun x => asLst x fun xs => tb δ fun y => ∃ (p : PyData) (ps : List PyData) (j : Nat) (z : PyData), pys xs = some ps ∧ py y = some p ∧ SeqAt.shaped (.list ps) = true ∧ SeqAt.shaped p = true ∧
  ps[j]? = some z ∧ PyData.eqv z p = true ∧ (∀ (m : Nat) (z' : PyData), m < j → ps[m]? = some z' → PyData.eqv z' p = false) ∧ Q (.int (j : Nat)) := propext Iff.rfl
theorem q_dxP : dxP t δ QS = t δ fun d => QS (.sh d) := propext Iff.rfl
theorem q_dxO : dxO a δ QS = a δ fun ds => QS (.ow ds) := propext Iff.rfl
theorem q_dxNil : dxNil δ QSs = QSs [] := propext Iff.rfl
theorem q_dxCons : dxCons tx rx δ QSs = tx δ fun s => rx δ fun ss => QSs (s :: ss) := propext Iff.rfl
theorem q_gI {C : Int → Int → Prop} {f : Int → Int → D} : gI C f x y Q = asInt x fun i => asInt y fun j => C i j ∧ Q (f i j) := propext Iff.rfl
theorem q_gI0 {f : Int → Int → D} : gI0 f x y Q = asInt x fun i => asInt y fun j => Q (f i j) := propext Iff.rfl
theorem q_gCatL : gCatL x y QL = asLst x fun xs => asLst y fun ys => xs.length + ys.length ≤ sizeLine ∧ QL (xs ++ ys) := propext Iff.rfl
theorem q_gRepL : gRepL x y QL = asLst x fun xs => asInt y fun k => -(2 ^ 63) ≤ k ∧ k < 2 ^ 63 ∧ xs.length * k.toNat ≤ sizeLine ∧ QL ((List.replicate k.toNat xs).flatten) := propext Iff.rfl
theorem q_gCatT : gCatT x y Q = asTup x fun xs => asTup y fun ys => xs.length + ys.length ≤ sizeLine ∧ Q (.tup (xs ++ ys)) := propext Iff.rfl
theorem q_gRepT : gRepT' x y Q = asTup x fun xs => asInt y fun n => xs ≠ [] ∧ 1 ≤ n ∧ n ≤ 1000 ∧ xs.length ≤ 1000 ∧ Q (.tup (List.replicate n.toNat xs).flatten) := propext Iff.rfl
theorem q_gIsB : gIsB x y Q = asBl x fun a => asBl y fun b => Q (.bl (decide (a = b))) := propext Iff.rfl
theorem q_gNotB : gNotB x y Q = asBl x fun a => asBl y fun b => Q (.bl (!decide (a = b))) := propext Iff.rfl
theorem q_gLen : gLen ds Q = arg1 ds fun x => asSeq x fun xs => Q (.int xs.length) := propext Iff.rfl
theorem q_gAbs : gAbs ds Q = arg1 ds fun x => asInt x fun i => Q (.int (if i < 0 then -i else i)) := propext Iff.rfl
theorem q_gMax2 : gMax2 ds Q = arg2 ds fun x y => asInt x fun i => asInt y fun j => Q (.int (if j > i then j else i)) := propext Iff.rfl
theorem q_gMin2 : gMin2 ds Q = arg2 ds fun x y => asInt x fun i => asInt y fun j => Q (.int (if j < i then j else i)) := propext Iff.rfl
theorem q_gInt_i {z : Int} : gInt [.int z] Q = Q (.int z) := propext Iff.rfl
theorem q_gInt_b {z : Bool} : gInt [.bl z] Q = Q (.int (if z then 1 else 0)) := propext Iff.rfl
theorem q_gTuple : gTuple ds Q = arg1 ds fun x => asSeq x fun xs => Q (.tup xs) := propext Iff.rfl
theorem q_gList : gList ds QL = arg1 ds fun x => asSeq x QL := propext Iff.rfl
theorem q_gDef {sd : DLK} : gDef n sd ds Q = (ds.length = n ∧ sd ds Q) := propext Iff.rfl
theorem q_gMake {sd : DLL} : gMake c n sd ds Q = (ds.length = n ∧ sd ds fun fs => Q (.obj c fs)) := propext Iff.rfl
theorem q_dNext : dNext E ρ = E.nx ρ := propext Iff.rfl
theorem q_dSq : dSq s u E ρ = s { E with nx := u E } ρ := propext Iff.rfl
theorem q_dSet : dSet i t E ρ = t (shOf ρ) fun d => E.nx (ρ.set i (some (.sh d))) := propext Iff.rfl
theorem q_dSetF : dSetF i t E ρ = t (alOf ρ) fun d => flat d ∧ E.nx (ρ.set i (some (.sh d))) := propext Iff.rfl
theorem q_dSetO : dSetO i a E ρ = a (shOf ρ) fun ds => E.nx (ρ.set i (some (.ow ds))) := propext Iff.rfl
theorem q_dRet : dRet t E ρ = t (alOf ρ) E.rt := propext Iff.rfl
theorem q_dRetN : dRetN E ρ = E.rt .non := propext Iff.rfl
theorem q_dIfS : dIfS tT s u E ρ = tT (alOf ρ) fun b => if b = true then s E ρ else u E ρ := propext Iff.rfl
theorem q_dNever : dNever E ρ = False := propext Iff.rfl
theorem q_dDrop : dDrop t E ρ = t (alOf ρ) fun _ => E.nx ρ := propext Iff.rfl
theorem q_dWhile : dWhile tT s E ρ = ∃ n, dWhileN tT s E n ρ := propext Iff.rfl
theorem q_dFor : dFor ti td s E ρ = ti (shOf ρ) fun ds => dForL td s E ds ρ := propext Iff.rfl
theorem q_dPar : dPar is rx E ρ = rx (shOf ρ) fun ss => ss.length = is.length ∧ E.nx (setSs ρ is ss) := propext Iff.rfl
theorem q_dAsg : dAsg td t E ρ = t (shOf ρ) fun d => ∃ asg, td d = some asg ∧ E.nx (setS ρ asg) := propext Iff.rfl
theorem q_setS0 : setS ρ [] = ρ := congrArg id rfl
theorem q_setSc {l : List (Nat × D)} : setS ρ ((i, d) :: l) = setS (ρ.set i (some (.sh d))) l := congrArg id rfl
theorem q_setSs0 {ss : List S} : setSs ρ [] ss = ρ := by cases ss <;> exact congrArg id rfl
theorem q_setSsc {is : List Nat} {z : S} {ss : List S} : setSs ρ (i :: is) (z :: ss) = setSs (ρ.set i (some z)) is ss := congrArg id rfl
theorem q_setD0 : setD δ [] = δ := congrArg id rfl
theorem q_setDc {l : List (Nat × D)} : setD δ ((i, d) :: l) = setD (δ.set i (some d)) l := congrArg id rfl
theorem q_wipe0 : wipeD δ [] = δ := congrArg id rfl
theorem q_wipec : wipeD δ (i :: is) = (wipeD δ is).set i none := congrArg id rfl
theorem q_dDef {nones : EnvS} : dDef nones s ds Q = s { nx := fun _ => Q .non, rt := Q } (sh0 ds nones) := propext Iff.rfl
theorem q_sh0 {nones : EnvS} : sh0 ds nones = ds.map (fun d => some (S.sh d)) ++ nones := congrArg id rfl
theorem q_dFrz : dFrz i s E ρ = match ρ[i]? with
  | some (some (.ow xs)) => s E (ρ.set i (some (.sh (.lst xs))))
  | _ => False := propext Iff.rfl
theorem q_dApp : dApp i t E ρ = match ρ[i]? with
  | some (some (.ow xs)) => t (shOf ρ) fun d => xs.length < sizeLine ∧ E.nx (ρ.set i (some (.ow (xs ++ [d]))))
  | _ => False := propext Iff.rfl
theorem q_dAppF : dAppF i t E ρ = match ρ[i]? with
  | some (some (.ow xs)) => t (alOf ρ) fun d => flat d ∧ xs.length < sizeLine ∧ E.nx (ρ.set i (some (.ow (xs ++ [d]))))
  | _ => False := propext Iff.rfl
theorem q_dPut : dPut i ta tb E ρ = ta (shOf ρ) fun d => match ρ[i]? with
  | some (some (.ow xs)) => tb (alOf ρ) fun z => asInt z fun k => ∃ j, L2.ixN xs.length k = some j ∧ E.nx (ρ.set i (some (.ow (xs.set j d))))
  | _ => False := propext Iff.rfl
theorem q_dPutF : dPutF i ta tb E ρ = ta (alOf ρ) fun d => flat d ∧ match ρ[i]? with
  | some (some (.ow xs)) => tb (alOf ρ) fun z => asInt z fun k => ∃ j, L2.ixN xs.length k = some j ∧ E.nx (ρ.set i (some (.ow (xs.set j d))))
  | _ => False := propext Iff.rfl
theorem q_dAttrN {fn : Nat → List Str} {f : Str} : dAttrN fn i f t E ρ = t (shOf ρ) fun d => match ρ[i]? with
  | some (some (.oi p dx c fs)) => (fn c)[fs.length]? = some f ∧ fs.length < 1000 ∧ E.nx (ρ.set i (some (.oi p dx c (fs ++ [d]))))
  | _ => False := propext Iff.rfl
theorem q_dAttrFN {fn : Nat → List Str} {f : Str} : dAttrFN fn i f t E ρ = t (alOf ρ) fun d => flat d ∧ match ρ[i]? with
  | some (some (.oi p dx c fs)) => (fn c)[fs.length]? = some f ∧ fs.length < 1000 ∧ E.nx (ρ.set i (some (.oi p dx c (fs ++ [d]))))
  | _ => False := propext Iff.rfl
theorem q_dNm : dNm i d = some [(i, d)] := congrArg id rfl
theorem q_at0 {o : Option S} {l : EnvS} : (o :: l)[0]? = some o := rfl
end
theorem gEq_int {i j : Int} {Q : DK} : gEq (.int i) (.int j) Q = Q (.bl (i == j)) := by
  unfold gEq
  apply propext
  constructor
  · rintro ⟨p, q, e1, e2, _, _, h⟩
    cases e1
    cases e2
    exact h
  · intro h
    exact ⟨.int i, .int j, rfl, rfl, rfl, rfl, h⟩
theorem gNe_int {i j : Int} {Q : DK} : gNe (.int i) (.int j) Q = Q (.bl (!(i == j))) := by
  unfold gNe
  apply propext
  constructor
  · rintro ⟨p, q, e1, e2, _, _, h⟩
    cases e1
    cases e2
    exact h
  · intro h
    exact ⟨.int i, .int j, rfl, rfl, rfl, rfl, h⟩
theorem gIx_0 {d : D} {ds : List D} {Q : DK} : gIx (.tup (d :: ds)) (.int 0) Q = Q d := by
  unfold gIx
  rw [asSeq_t, asInt_int]
  apply propext
  constructor
  · rintro ⟨x, e, h⟩
    have : L2.atI (d :: ds) 0 = some d := by simp [L2.atI, L2.ixN]
    rw [this] at e
    cases e
    exact h
  · intro h
    exact ⟨d, by simp [L2.atI, L2.ixN], h⟩
theorem gIx_1 {c d : D} {ds : List D} {Q : DK} : gIx (.tup (c :: d :: ds)) (.int 1) Q = Q d := by
  unfold gIx
  rw [asSeq_t, asInt_int]
  have this : L2.atI (c :: d :: ds) 1 = some d := by
    have : (1 : Int) < (ds.length : Int) + 1 + 1 := by omega
    simp [L2.atI, L2.ixN, this]
  rw [this]
  apply propext
  constructor
  · rintro ⟨x, e, h⟩
    cases e
    exact h
  · intro h
    exact ⟨d, rfl, h⟩
theorem gIx_at {x : D} {ds : List D} {i : Nat} {d : D} {Q : DK} (hx : x = .lst ds ∨ x = .tup ds) (h : ds[i]? = some d) : gIx x (.int (i : Int)) Q = Q d := by
  have hx : asSeq x = asSeq (.lst ds) := by rcases hx with rfl | rfl <;> rfl
  unfold gIx
  rw [hx, asSeq_l, asInt_int]
  have hi := (List.getElem?_eq_some_iff.mp h).1
  have this : L2.atI ds (i : Int) = some d := by
    have h1 : (i : Int) < (ds.length : Int) := by omega
    have h2 : (0 : Int) ≤ (i : Int) := by omega
    simp [L2.atI, L2.ixN, h1, h2, h]
  rw [this]
  apply propext
  constructor
  · rintro ⟨x, e, h⟩
    cases e
    exact h
  · intro h
    exact ⟨d, rfl, h⟩
theorem gIx_0l {d : D} {ds : List D} {Q : DK} : gIx (.lst (d :: ds)) (.int 0) Q = Q d := gIx_at (i := 0) (.inl rfl) rfl
theorem gIx_1l {c d : D} {ds : List D} {Q : DK} : gIx (.lst (c :: d :: ds)) (.int 1) Q = Q d := gIx_at (i := 1) (.inl rfl) rfl
def isiK (T : String) (x : D) (Q : DK) : Prop := ∃ k b, tyD x = some k ∧ L2.kitB k T = some b ∧ Q (.bl b)
theorem isi_ {T : String} {t : DE} {δ : DEnv} {Q : DK} : dIsi T t δ Q = t δ fun x => isiK T x Q := propext Iff.rfl
theorem isiK_of {T k : String} {x : D} {b : Bool} {Q : DK} (e : tyD x = some k) (h : L2.kitB k T = some b) : isiK T x Q = Q (.bl b) := by
  unfold isiK
  apply propext
  constructor
  · rintro ⟨k', b', e1, e2, q⟩
    rw [e] at e1
    cases e1
    rw [h] at e2
    cases e2
    exact q
  · intro q
    exact ⟨k, b, e, h, q⟩
theorem isi_int_int {i : Int} {Q : DK} : isiK "int" (.int i) Q = Q (.bl true) := isiK_of (k := "int") rfl (by decide +kernel)
theorem isi_bool_int {i : Int} {Q : DK} : isiK "bool" (.int i) Q = Q (.bl false) := isiK_of (k := "int") rfl (by decide +kernel)
theorem isi_tup_tup {x : List D} {Q : DK} : isiK "tuple" (.tup x) Q = Q (.bl true) := isiK_of (k := "tuple") rfl (by decide +kernel)
def isiTK (Ts : List String) (x : D) (Q : DK) : Prop := ∃ k b, tyD x = some k ∧ kitAnyB k Ts = some b ∧ Q (.bl b)
theorem isiT_ {Ts : List String} {t : DE} {δ : DEnv} {Q : DK} : dIsiT Ts t δ Q = t δ fun x => isiTK Ts x Q := propext Iff.rfl
theorem isiTK_of {Ts : List String} {k : String} {x : D} {b : Bool} {Q : DK} (e : tyD x = some k) (h : kitAnyB k Ts = some b) : isiTK Ts x Q = Q (.bl b) := by
  unfold isiTK
  apply propext
  constructor
  · rintro ⟨k', b', e1, e2, q⟩
    rw [e] at e1
    cases e1
    rw [h] at e2
    cases e2
    exact q
  · intro q
    exact ⟨k, b, e, h, q⟩
theorem isiT_lst {x : List D} {Q : DK} : isiTK ["list", "tuple"] (.lst x) Q = Q (.bl true) := isiTK_of (k := "list") rfl (by decide +kernel)
theorem isiT_tup {x : List D} {Q : DK} : isiTK ["list", "tuple"] (.tup x) Q = Q (.bl true) := isiTK_of (k := "tuple") rfl (by decide +kernel)
def isCK (c : Nat) (x : D) (Q : DK) : Prop := ∃ ds, x = .obj c ds ∧ Q (.bl true)
theorem isC_ {c : Nat} {t : DE} {δ : DEnv} {Q : DK} : dIsC c t δ Q = t δ fun x => isCK c x Q := propext Iff.rfl
theorem isCK_o {c : Nat} {ds : List D} {Q : DK} : isCK c (.obj c ds) Q = Q (.bl true) := by
  unfold isCK
  apply propext
  constructor
  · rintro ⟨es, e, q⟩
    exact q
  · intro q
    exact ⟨ds, rfl, q⟩
/-- evaluates a reading -/
local macro_rules | `(tactic| walk_at "dv") => `(tactic| simp only [q_dDef, q_sh0, List.map_cons, List.map_nil, List.cons_append, List.nil_append, q_dSq, q_dNext, q_dSet, q_dSetF, q_dSetO, q_dRet, q_dRetN, q_dIfS, q_dNever, q_dWhile, q_dFor, q_dPar, q_dAsg, q_dDrop,
  q_dFrz, q_dApp, q_dAppF, q_dPut, q_dPutF, q_dAttrN, q_dAttrFN, q_dFldN,
  List.getElem?_cons_zero, List.getElem?_cons_succ, List.set_cons_zero, List.set_cons_succ, q_setS0, q_setSc, q_setSs0, q_setSsc, q_setD0, q_setDc, q_wipe0, q_wipec,
  shOf_nil, shOf_c, shO_n, shO_s, shO_o, shO_i, alOf_nil, alOf_c, alO_n, alO_s, alO_o, alO_i, dVar_0, dVar_s, q_dC, q_dBin, q_dBinL, q_dTest, q_dChain, q_dNot, q_dNotV, q_dAnd, q_dAndV, q_dOr, q_dOrV, q_dIf, q_dNeg, q_dCall, q_dCallL, q_dCons, q_dNil, q_dStar, q_dLst, q_dTup, q_dLen, q_dxCons, q_dxNil, q_dxP, q_dxO, q_dYes,
  asInt_int, asBl_bl, asSeq_l, asSeq_t, asLst_l, asTup_t, asObj_o, arg1_, arg2_, arg3_, q_gDef, q_gMake, q_gI0, q_gI, gEq_int, gNe_int, q_gLen, q_gAbs, q_gMax2, q_gMin2, q_gInt_i, q_gInt_b, q_gTuple, q_gList, gIx_0, gIx_1, gIx_0l, gIx_1l, q_gCatL, q_gRepL, q_gCatT, q_gRepT, isi_, isi_int_int, isi_bool_int, isi_tup_tup, isiT_, isiT_lst, isiT_tup, isC_, isCK_o, q_dSeqI, q_dEnumI, q_dZip2, q_dZip3, q_dRng1, q_dRng2, q_dLc, q_gIsB, q_gNotB, q_dSlL, q_dSlT, q_dNoP, q_dSoP,
  List.length_cons, List.length_nil, true_and, and_true, Bool.not_true, Bool.not_false, if_true, Bool.false_eq_true, if_false])
theorem is_number_int {i : Int} {Q : DK} (h : Q (.bl true)) : p_is_number [.int i] Q := by
  unfold p_is_number t_is_number
  walk_at "dv"
  exact h
theorem is_between_int {i j k : Int} {Q : DK} (h : Q (.bl (decide (j ≤ i) && decide (i ≤ k)))) : p_is_between [.int i, .int j, .int k] Q := by
  unfold p_is_between t_is_between
  walk_at "dv"
  refine is_number_int ?_
  walk_at "dv"
  by_cases hj : j ≤ i
  · simpa [hj] using h
  · simpa [hj] using h
theorem is_list_l {x : List D} {Q : DK} (h : Q (.bl true)) : p_is_list [.lst x] Q := by
  unfold p_is_list t_is_list
  walk_at "dv"
  exact h
theorem is_list_t {x : List D} {Q : DK} (h : Q (.bl true)) : p_is_list [.tup x] Q := by
  unfold p_is_list t_is_list
  walk_at "dv"
  exact h
/-! ### comprehensions and loops -/
theorem yes_if {A B : Prop} {δ : DEnv} (h : A) : dYes δ (fun b => if b = true then A else B) := by
  show (if true = true then A else B)
  rw [if_pos rfl]
  exact h
/-- each item gives one value that R allows (all of them are met) -/
theorem lc_dem {td : DG} {te : DE} {δ : DEnv} {R : D → D → Prop} : ∀ {ds acc : List D} {Q : List D → Prop}, (∀ d ∈ ds, ∃ asg, td d = some asg ∧ ∀ Q : DK, (∀ y, R d y → Q y) → te (setD δ asg) Q) → acc.length + ds.length ≤ sizeLine →
    (∀ ys : List D, ys.length = ds.length → (∀ (i : Nat) (d y : D), ds[i]? = some d → ys[i]? = some y → R d y) → Q (acc ++ ys)) → dLcL td dYes te δ ds acc Q
  | [], acc, Q, _, _, h => by
    have := h [] rfl (by simp)
    simpa [dLcL] using this
  | d :: ds, acc, Q, ht, hl, h => by
    obtain ⟨asg, e, q⟩ := ht d (List.mem_cons_self ..)
    refine ⟨asg, e, yes_if ?_⟩
    refine q _ fun y hy => ⟨by simp at hl; omega, ?_⟩
    refine lc_dem (fun d' hd => ht d' (List.mem_cons_of_mem _ hd)) (by simp at hl ⊢; omega) fun ys hy2 hr => ?_
    have := h (y :: ys) (by simp [hy2]) fun i d' y' h1 h2 => by
      cases i with
      | zero => simp at h1 h2; subst h1 h2; exact hy
      | succ i => exact hr i d' y' (by simpa using h1) (by simpa using h2)
    simpa using this
theorem lc_map {td : DG} {te : DE} {δ : DEnv} {f : D → D} {ds acc : List D} {Q : List D → Prop} (ht : ∀ d ∈ ds, ∃ asg, td d = some asg ∧ ∀ Q : DK, Q (f d) → te (setD δ asg) Q) (hl : acc.length + ds.length ≤ sizeLine) (h : Q (acc ++ ds.map f)) : dLcL td dYes te δ ds acc Q := by
  refine lc_dem (R := fun d y => y = f d) (fun d hd => ?_) hl fun ys hy hr => ?_
  · obtain ⟨asg, e, q⟩ := ht d hd
    exact ⟨asg, e, fun Q hq => q Q (hq _ rfl)⟩
  · have e : ys = ds.map f := by
      apply List.ext_getElem?
      intro i
      rw [List.getElem?_map]
      cases h1 : ds[i]? with
      | none =>
        have : ds.length ≤ i := List.getElem?_eq_none_iff.mp h1
        rw [List.getElem?_eq_none (by omega)]
        rfl
      | some d =>
        have hi : i < ys.length := by
          have := (List.getElem?_eq_some_iff.mp h1).1
          omega
        rw [List.getElem?_eq_getElem hi]
        rw [hr i d _ h1 (List.getElem?_eq_getElem hi)]
        rfl
    rw [e]
    exact h
/-- from plain items -/
theorem lc_of {α : Type} {td : DG} {te : DE} {δ : DEnv} {enc : α → D} {f : α → D} {xs : List α} {acc : List D} {Q : List D → Prop} (ht : ∀ x ∈ xs, ∃ asg, td (enc x) = some asg ∧ ∀ Q : DK, Q (f x) → te (setD δ asg) Q) (hl : acc.length + xs.length ≤ sizeLine) (h : Q (acc ++ xs.map f)) :
    dLcL td dYes te δ (xs.map enc) acc Q := by
  induction xs generalizing acc with
  | nil => simpa [dLcL] using h
  | cons x xs ih =>
    obtain ⟨asg, e, q⟩ := ht x (List.mem_cons_self ..)
    refine ⟨asg, e, yes_if ?_⟩
    refine q _ ⟨by simp at hl; omega, ?_⟩
    exact ih (fun y hy => ht y (List.mem_cons_of_mem _ hy)) (by simp at hl ⊢; omega) (by simpa using h)
/-- with a test -/
theorem lc_filter {α : Type} {td : DG} {tt : DT} {te : DE} {δ : DEnv} {enc : α → D} {p : α → Bool} {f : α → D} {xs : List α} {acc : List D} {Q : List D → Prop} (ht : ∀ x ∈ xs, ∃ asg, td (enc x) = some asg ∧ (∀ Q : Bool → Prop, Q (p x) → tt (setD δ asg) Q) ∧ (p x = true → ∀ Q : DK, Q (f x) → te (setD δ asg) Q))
    (hl : acc.length + xs.length ≤ sizeLine) (h : Q (acc ++ (xs.filter p).map f)) : dLcL td tt te δ (xs.map enc) acc Q := by
  induction xs generalizing acc with
  | nil => simpa [dLcL] using h
  | cons x xs ih =>
    obtain ⟨asg, e, q, r⟩ := ht x (List.mem_cons_self ..)
    refine ⟨asg, e, q _ ?_⟩
    try dsimp only
    cases hp : p x with
    | true =>
      rw [if_pos rfl]
      refine r hp _ ⟨by simp at hl; omega, ?_⟩
      exact ih (fun y hy => ht y (List.mem_cons_of_mem _ hy)) (by simp at hl ⊢; omega) (by simpa [hp] using h)
    | false =>
      rw [if_neg Bool.false_ne_true]
      exact ih (fun y hy => ht y (List.mem_cons_of_mem _ hy)) (by simp at hl ⊢; omega) (by simpa [hp] using h)
theorem for_of {α : Type} {td : DG} {tb : DS} {E : DEnds} {enc : α → D} (P : List α → EnvS → Prop) : ∀ {xs : List α} {ρ : EnvS}, P xs ρ → (∀ x xs ρ, P (x :: xs) ρ → ∃ asg, td (enc x) = some asg ∧ ∀ N : EnvS → Prop, (∀ ρ', P xs ρ' → N ρ') → tb { E with nx := N, ct := N, bk := E.nx } (setS ρ asg)) →
    (∀ ρ, P [] ρ → E.nx ρ) → dForL td tb E (xs.map enc) ρ
  | [], ρ, h, _, hd => hd ρ h
  | x :: xs, ρ, h, hs, hd => by
    obtain ⟨asg, e, q⟩ := hs x xs ρ h
    exact ⟨asg, e, q _ fun ρ' h' => for_of P h' hs hd⟩
end Wk
end
section
set_option Elab.async false
set_option linter.all false
set_option maxRecDepth 100000
/-! D2: numbers. -/
namespace Wk
open PySem PySem.Spec L3
local macro_rules | `(tactic| walk_at "dv") => `(tactic| simp only [q_dDef, q_sh0, List.map_cons, List.map_nil, List.cons_append, List.nil_append, q_dSq, q_dNext, q_dSet, q_dSetF, q_dSetO, q_dRet, q_dRetN, q_dIfS, q_dNever, q_dWhile, q_dFor, q_dPar, q_dAsg, q_dDrop,
  q_dFrz, q_dApp, q_dAppF, q_dPut, q_dPutF, q_dAttrN, q_dAttrFN, q_dFldN,
  List.getElem?_cons_zero, List.getElem?_cons_succ, List.set_cons_zero, List.set_cons_succ, q_setS0, q_setSc, q_setSs0, q_setSsc, q_setD0, q_setDc, q_wipe0, q_wipec,
  shOf_nil, shOf_c, shO_n, shO_s, shO_o, shO_i, alOf_nil, alOf_c, alO_n, alO_s, alO_o, alO_i, dVar_0, dVar_s, q_dC, q_dBin, q_dBinL, q_dTest, q_dChain, q_dNot, q_dNotV, q_dAnd, q_dAndV, q_dOr, q_dOrV, q_dIf, q_dNeg, q_dCall, q_dCallL, q_dCons, q_dNil, q_dStar, q_dLst, q_dTup, q_dLen, q_dxCons, q_dxNil, q_dxP, q_dxO, q_dYes,
  asInt_int, asBl_bl, asSeq_l, asSeq_t, asLst_l, asTup_t, asObj_o, arg1_, arg2_, arg3_, q_gDef, q_gMake, q_gI0, q_gI, gEq_int, gNe_int, q_gLen, q_gAbs, q_gMax2, q_gMin2, q_gInt_i, q_gInt_b, q_gTuple, q_gList, gIx_0, gIx_1, gIx_0l, gIx_1l, q_gCatL, q_gRepL, q_gCatT, q_gRepT, isi_, isi_int_int, isi_bool_int, isi_tup_tup, isiT_, isiT_lst, isiT_tup, isC_, isCK_o, q_dSeqI, q_dEnumI, q_dZip2, q_dZip3, q_dRng1, q_dRng2, q_dLc, q_gIsB, q_gNotB, q_dSlL, q_dSlT, q_dNoP, q_dSoP,
  List.length_cons, List.length_nil, true_and, and_true, Bool.not_true, Bool.not_false, if_true, Bool.false_eq_true, if_false])
def dis (ns : List Int) : List D := ns.map D.int
def gcdL (g : Nat) : List Int → Nat
  | [] => g
  | n :: ns => gcdL (Nat.gcd g n.natAbs) ns
theorem abs_if (i : Int) : (if i < 0 then -i else i) = ((i.natAbs : Nat) : Int) := by split <;> omega
theorem euclid {o1 o2 o3 : Option S} {E : DEnds} (b : Nat) : ∀ a : Nat, E.nx [o1, o2, o3, some (.sh (.int (Nat.gcd a b : Nat))), some (.sh (.int 0))] →
    ∃ n, dWhileN (dTest (dBin gNe (dVar 4) (dC (.int 0)))) (dPar [3, 4] (dxCons (dxP (dVar 4)) (dxCons (dxP (dBin gMod (dVar 3) (dVar 4))) dxNil))) E n [o1, o2, o3, some (.sh (.int (a : Int))), some (.sh (.int (b : Int)))] := by
  induction b using Nat.strongRecOn with
  | _ b ih =>
    intro a h
    by_cases hb : b = 0
    · subst hb
      refine ⟨1, ?_⟩
      unfold dWhileN
      walk_at "dv"
      rw [Nat.gcd_zero_right] at h
      simpa using h
    · obtain ⟨n, hn⟩ := ih (a % b) (Nat.mod_lt _ (by omega)) b (by rw [Nat.gcd_comm b, ← Nat.gcd_rec, Nat.gcd_comm]; exact h)
      refine ⟨n + 1, ?_⟩
      unfold dWhileN
      walk_at "dv"
      have e : (!((b : Int) == 0)) = true := by
        rw [show ((b : Int) == 0) = false from beq_eq_false_iff_ne.mpr (by omega)]
        rfl
      rw [if_pos e]
      refine ⟨by omega, ?_⟩
      exact hn
theorem divisor_seq {ns : List Int} {x : D} {Q : DK} (hx : x = .lst (dis ns) ∨ x = .tup (dis ns)) (h : Q (.int (gcdL 0 ns : Nat))) : p_divisor_of [x] Q := by
  unfold p_divisor_of t_divisor_of
  have hs : ∀ k, asSeq x k = k (dis ns) := fun k => by rcases hx with rfl | rfl <;> rfl
  walk_at "dv"
  rw [hs]
  refine for_of (fun ns ρ => ∃ (g : Nat) (o2 o3 o4 : Option S), ρ = [some (.sh x), some (.sh (.int (g : Int))), o2, o3, o4] ∧ Q (.int (gcdL g ns : Nat))) ⟨0, none, none, none, rfl, h⟩ ?_ ?_
  · rintro n ns ρ ⟨g, o2, o3, o4, rfl, q⟩
    refine ⟨_, rfl, fun N hN => ?_⟩
    walk_at "dv"
    rw [abs_if]
    refine euclid n.natAbs g ?_
    walk_at "dv"
    exact hN _ ⟨_, _, _, _, rfl, q⟩
  · rintro ρ ⟨g, o2, o3, o4, rfl, q⟩
    walk_at "dv"
    exact q
/-! ### ratios -/
def pr (a : Int) (b : Nat) : D := .tup [.int a, .int (b : Int)]
def rt (q : Rat) : D := pr q.num q.den
/-- sizes that all the operators stand -/
def Sz (a : Int) (b : Nat) : Prop := 0 < b ∧ a.natAbs < 2 ^ 40000 ∧ b < 2 ^ 4400
theorem mulB {i j : Int} {a b : Nat} (ha : i.natAbs < 2 ^ a) (hb : j.natAbs < 2 ^ b) (h0 : 0 < a := by decide) (h1 : 0 < b := by decide) (h : a + b ≤ 1000000 := by decide) : CMulB i j := .inr (L2.wide_mul ha hb h0 h1 h)
theorem divB {i : Int} {j : Nat} {b : Nat} (h : 0 < j) (hb : j < 2 ^ b) (h0 : 0 < b := by decide) (h9 : b ≤ 9000 := by decide) : L2.CDivW i (j : Int) := L2.wide_div (by omega) (by simpa using hb) h0 h9
theorem gcdL_two {a : Int} {b : Nat} : gcdL 0 [a, (b : Int)] = Nat.gcd a.natAbs b := by
  simp [gcdL]
theorem mkRat_nd {a : Int} {b : Nat} (hb : 0 < b) : (mkRat a b).num = a / ((Nat.gcd a.natAbs b : Nat) : Int) ∧ (((mkRat a b).den : Nat) : Int) = (b : Int) / ((Nat.gcd a.natAbs b : Nat) : Int) := by
  have hb' : b ≠ 0 := by omega
  unfold mkRat
  rw [dif_neg hb', Rat.normalize_eq]
  refine ⟨rfl, ?_⟩
  show (((b / Nat.gcd a.natAbs b : Nat)) : Int) = _
  exact Int.natCast_ediv _ _
theorem ratio_ok {a : Int} {b : Nat} {Q : DK} (hb : 0 < b) (h9 : b < 2 ^ 9000) (h : Q (rt (mkRat a b))) : p_ratio_of [.int a, .int (b : Int)] Q := by
  have g0 : 0 < Nat.gcd a.natAbs b := Nat.gcd_pos_of_pos_right _ hb
  have g9 : Nat.gcd a.natAbs b < 2 ^ 9000 := Nat.lt_of_le_of_lt (Nat.gcd_le_right _ hb) h9
  unfold p_ratio_of t_ratio_of
  walk_at "dv"
  rw [if_pos (decide_eq_true (by omega))]
  refine ⟨by decide, divisor_seq (ns := [a, (b : Int)]) (.inr rfl) ?_⟩
  rw [gcdL_two]
  walk_at "dv"
  refine ⟨divB g0 g9, divB g0 g9, by decide, ?_⟩
  obtain ⟨e1, e2⟩ := mkRat_nd (a := a) hb
  unfold rt pr at h
  rw [e1, e2] at h
  exact h
end Wk
end
section
set_option Elab.async false
set_option linter.all false
set_option maxRecDepth 100000
set_option exponentiation.threshold 100
/-! D3: the operators on ratios. -/
namespace Wk
open PySem PySem.Spec L3
local macro_rules | `(tactic| walk_at "dv") => `(tactic| simp only [q_dDef, q_sh0, List.map_cons, List.map_nil, List.cons_append, List.nil_append, q_dSq, q_dNext, q_dSet, q_dSetF, q_dSetO, q_dRet, q_dRetN, q_dIfS, q_dNever, q_dWhile, q_dFor, q_dPar, q_dAsg, q_dDrop,
  q_dFrz, q_dApp, q_dAppF, q_dPut, q_dPutF, q_dAttrN, q_dAttrFN, q_dFldN,
  List.getElem?_cons_zero, List.getElem?_cons_succ, List.set_cons_zero, List.set_cons_succ, q_setS0, q_setSc, q_setSs0, q_setSsc, q_setD0, q_setDc, q_wipe0, q_wipec,
  shOf_nil, shOf_c, shO_n, shO_s, shO_o, shO_i, alOf_nil, alOf_c, alO_n, alO_s, alO_o, alO_i, dVar_0, dVar_s, q_dC, q_dBin, q_dBinL, q_dTest, q_dChain, q_dNot, q_dNotV, q_dAnd, q_dAndV, q_dOr, q_dOrV, q_dIf, q_dNeg, q_dCall, q_dCallL, q_dCons, q_dNil, q_dStar, q_dLst, q_dTup, q_dLen, q_dxCons, q_dxNil, q_dxP, q_dxO, q_dYes,
  asInt_int, asBl_bl, asSeq_l, asSeq_t, asLst_l, asTup_t, asObj_o, arg1_, arg2_, arg3_, q_gDef, q_gMake, q_gI0, q_gI, gEq_int, gNe_int, q_gLen, q_gAbs, q_gMax2, q_gMin2, q_gInt_i, q_gInt_b, q_gTuple, q_gList, gIx_0, gIx_1, gIx_0l, gIx_1l, q_gCatL, q_gRepL, q_gCatT, q_gRepT, isi_, isi_int_int, isi_bool_int, isi_tup_tup, isiT_, isiT_lst, isiT_tup, isC_, isCK_o, q_dSeqI, q_dEnumI, q_dZip2, q_dZip3, q_dRng1, q_dRng2, q_dLc, q_gIsB, q_gNotB, q_dSlL, q_dSlT, q_dNoP, q_dSoP,
  List.length_cons, List.length_nil, true_and, and_true, Bool.not_true, Bool.not_false, if_true, Bool.false_eq_true, if_false])
theorem natAbs_den {b : Nat} {n : Nat} (h : b < 2 ^ n) : ((b : Int)).natAbs < 2 ^ n := by simpa using h
theorem Sz.den9 {a c : Int} {b d : Nat} (h1 : Sz a b) (h2 : Sz c d) : b * d < 2 ^ 9000 := by
  have : b * d < 2 ^ 4400 * 2 ^ 4400 := Nat.mul_lt_mul'' h1.2.2 h2.2.2
  rw [← Nat.pow_add] at this
  exact Nat.lt_trans this (Nat.pow_lt_pow_right (by decide) (by decide))
theorem mul_ok1 {a c : Int} {b d : Nat} (h1 : Sz a b) (h2 : Sz c d) : CMulB a (d : Int) ∧ CMulB c (b : Int) ∧ CMulB (b : Int) (d : Int) ∧ CMulB a c :=
  ⟨mulB h1.2.1 (natAbs_den h2.2.2), mulB h2.2.1 (natAbs_den h1.2.2), mulB (natAbs_den h1.2.2) (natAbs_den h2.2.2), mulB h1.2.1 h2.2.1⟩
section
variable {a c : Int} {b d : Nat} {Q : DK}
theorem sum_ok (h1 : Sz a b) (h2 : Sz c d) (h : Q (rt (mkRat a b + mkRat c d))) : p_sum_of [pr a b, pr c d] Q := by
  obtain ⟨m1, m2, m3, m4⟩ := mul_ok1 h1 h2
  unfold p_sum_of t_sum_of pr
  walk_at "dv"
  refine ⟨m1, m2, m3, ?_⟩
  rw [Rat.mkRat_add_mkRat _ _ (by have := h1.1; omega) (by have := h2.1; omega)] at h
  rw [← Int.natCast_mul]
  exact ratio_ok (Nat.mul_pos h1.1 h2.1) (h1.den9 h2) h
theorem less_ok (h1 : Sz a b) (h2 : Sz c d) (h : Q (rt (mkRat a b - mkRat c d))) : p_less_of [pr a b, pr c d] Q := by
  obtain ⟨m1, m2, m3, m4⟩ := mul_ok1 h1 h2
  unfold p_less_of t_less_of pr
  walk_at "dv"
  refine ⟨m1, m2, m3, ?_⟩
  rw [Rat.sub_eq_add_neg, Rat.neg_mkRat, Rat.mkRat_add_mkRat _ _ (by have := h1.1; omega) (by have := h2.1; omega), Int.neg_mul, ← Int.sub_eq_add_neg] at h
  rw [← Int.natCast_mul]
  exact ratio_ok (Nat.mul_pos h1.1 h2.1) (h1.den9 h2) h
theorem product_ok (h1 : Sz a b) (h2 : Sz c d) (h : Q (rt (mkRat a b * mkRat c d))) : p_product_of [pr a b, pr c d] Q := by
  obtain ⟨m1, m2, m3, m4⟩ := mul_ok1 h1 h2
  unfold p_product_of t_product_of pr
  walk_at "dv"
  refine ⟨m4, m3, ?_⟩
  rw [Rat.mkRat_mul_mkRat] at h
  rw [← Int.natCast_mul]
  exact ratio_ok (Nat.mul_pos h1.1 h2.1) (h1.den9 h2) h
theorem below_ok (h1 : Sz a b) (h2 : Sz c d) (h : Q (.bl (decide (a * d < c * b)))) : p_is_below [pr a b, pr c d] Q := by
  obtain ⟨m1, m2, m3, m4⟩ := mul_ok1 h1 h2
  unfold p_is_below t_is_below pr
  walk_at "dv"
  exact ⟨m1, m2, h⟩
end
/-- reduced ratios -/
def RSz (q : Rat) : Prop := Sz q.num q.den
section
variable {p q : Rat} {Q : DK}
theorem rsum_ok (h1 : RSz p) (h2 : RSz q) (h : Q (rt (p + q))) : p_sum_of [rt p, rt q] Q := sum_ok h1 h2 (by rw [Rat.mkRat_self, Rat.mkRat_self]; exact h)
theorem rless_ok (h1 : RSz p) (h2 : RSz q) (h : Q (rt (p - q))) : p_less_of [rt p, rt q] Q := less_ok h1 h2 (by rw [Rat.mkRat_self, Rat.mkRat_self]; exact h)
theorem rbelow_ok (h1 : RSz p) (h2 : RSz q) (h : Q (.bl (decide (p < q)))) : p_is_below [rt p, rt q] Q := below_ok h1 h2 (by
  have : (p < q) ↔ p.num * q.den < q.num * p.den := Rat.lt_iff _ _
  rw [show decide (p.num * (q.den : Int) < q.num * (p.den : Int)) = decide (p < q) by rw [decide_eq_decide]; exact this.symm]
  exact h)
end
section
variable {a c : Int} {b d : Nat} {Q : DK}
theorem lcommon_ok (h : Q (.int (Nat.gcd a.natAbs c.natAbs : Nat))) : p__law_common [.int a, .int c] Q := by
  unfold p__law_common t__law_common
  walk_at "dv"
  rw [abs_if, abs_if]
  have key : ∀ (n : Nat) (m : Nat) (E : DEnds), E.nx [some (.sh (.int (Nat.gcd m n : Nat))), some (.sh (.int 0))] →
      ∃ k, dWhileN (dTest (dBin gNe (dVar 1) (dC (.int 0)))) (dPar [0, 1] (dxCons (dxP (dVar 1)) (dxCons (dxP (dBin gMod (dVar 0) (dVar 1))) dxNil))) E k [some (.sh (.int (m : Int))), some (.sh (.int (n : Int)))] := by
    intro n
    induction n using Nat.strongRecOn with
    | _ n ih =>
      intro m E h
      by_cases hb : n = 0
      · subst hb
        refine ⟨1, ?_⟩
        unfold dWhileN
        walk_at "dv"
        rw [Nat.gcd_zero_right] at h
        simpa using h
      · obtain ⟨k, hk⟩ := ih (m % n) (Nat.mod_lt _ (by omega)) n E (by rw [Nat.gcd_comm n, ← Nat.gcd_rec, Nat.gcd_comm]; exact h)
        refine ⟨k + 1, ?_⟩
        unfold dWhileN
        walk_at "dv"
        have e : (!((n : Int) == 0)) = true := by
          rw [show ((n : Int) == 0) = false from beq_eq_false_iff_ne.mpr (by omega)]
          rfl
        rw [if_pos e]
        refine ⟨by omega, ?_⟩
        exact hk
  refine key _ _ _ ?_
  walk_at "dv"
  exact h
theorem lratio_ok {a : Int} {b : Nat} {Q : DK} (hb : 0 < b) (h9 : b < 2 ^ 9000) (h : Q (rt (mkRat a b))) : p__law_ratio [.int a, .int (b : Int)] Q := by
  have g0 : 0 < Nat.gcd a.natAbs b := Nat.gcd_pos_of_pos_right _ hb
  have g9 : Nat.gcd a.natAbs b < 2 ^ 9000 := Nat.lt_of_le_of_lt (Nat.gcd_le_right _ hb) h9
  unfold p__law_ratio t__law_ratio
  walk_at "dv"
  rw [if_pos (decide_eq_true (by omega))]
  refine lcommon_ok ?_
  rw [Int.natAbs_natCast]
  walk_at "dv"
  refine ⟨divB g0 g9, divB g0 g9, by decide, ?_⟩
  obtain ⟨e1, e2⟩ := mkRat_nd (a := a) hb
  unfold rt pr at h
  rw [e1, e2] at h
  exact h
theorem lplus_ok (h1 : Sz a b) (h2 : Sz c d) (h : Q (rt (mkRat a b + mkRat c d))) : p__law_plus [pr a b, pr c d] Q := by
  obtain ⟨m1, m2, m3, m4⟩ := mul_ok1 h1 h2
  unfold p__law_plus t__law_plus pr
  walk_at "dv"
  refine ⟨m1, m2, m3, ?_⟩
  rw [Rat.mkRat_add_mkRat _ _ (by have := h1.1; omega) (by have := h2.1; omega)] at h
  rw [← Int.natCast_mul]
  exact lratio_ok (Nat.mul_pos h1.1 h2.1) (h1.den9 h2) h
theorem ltimes_ok (h1 : Sz a b) (h2 : Sz c d) (h : Q (rt (mkRat a b * mkRat c d))) : p__law_times [pr a b, pr c d] Q := by
  obtain ⟨m1, m2, m3, m4⟩ := mul_ok1 h1 h2
  unfold p__law_times t__law_times pr
  walk_at "dv"
  refine ⟨m4, m3, ?_⟩
  rw [Rat.mkRat_mul_mkRat] at h
  rw [← Int.natCast_mul]
  exact lratio_ok (Nat.mul_pos h1.1 h2.1) (h1.den9 h2) h
theorem rplus_ok {p q : Rat} (h1 : RSz p) (h2 : RSz q) (h : Q (rt (p + q))) : p__law_plus [rt p, rt q] Q := lplus_ok h1 h2 (by rw [Rat.mkRat_self, Rat.mkRat_self]; exact h)
theorem rtimes_ok {p q : Rat} (h1 : RSz p) (h2 : RSz q) (h : Q (rt (p * q))) : p__law_times [rt p, rt q] Q := ltimes_ok h1 h2 (by rw [Rat.mkRat_self, Rat.mkRat_self]; exact h)
end
/-! ### sums -/
def sumR (qs : List Rat) : Rat := qs.foldl (· + ·) 0
theorem foldl_add (qs : List Rat) : ∀ a : Rat, qs.foldl (· + ·) a = a + sumR qs := by
  induction qs with
  | nil => intro a; simp [sumR, Rat.add_zero]
  | cons q qs ih =>
    intro a
    unfold sumR
    rw [List.foldl_cons, List.foldl_cons, ih, ih (0 + q), Rat.zero_add, Rat.add_assoc]
theorem sumR_nil : sumR [] = 0 := rfl
theorem sumR_cons {q : Rat} {qs : List Rat} : sumR (q :: qs) = q + sumR qs := by
  rw [sumR, List.foldl_cons, foldl_add, Rat.zero_add]
/-- all sums from the left are of a good size -/
def SumSz (a : Rat) : List Rat → Prop
  | [] => True
  | q :: qs => RSz a ∧ RSz q ∧ SumSz (a + q) qs
theorem rt_zero : rt 0 = .tup [.int 0, .int 1] := rfl
theorem total_ok {qs : List Rat} {Q : DK} {x : D} (hx : x = .lst (qs.map rt) ∨ x = .tup (qs.map rt)) (hs : SumSz 0 qs) (h : Q (rt (sumR qs))) : p_total_of [x] Q := by
  have hx : ∀ k, asSeq x k = k (qs.map rt) := fun k => by rcases hx with rfl | rfl <;> rfl
  unfold p_total_of t_total_of
  walk_at "dv"
  refine ⟨by decide, ?_⟩
  rw [hx]
  refine for_of (fun qs ρ => ∃ (a : Rat) (o : Option S), ρ = [some (.sh x), some (.sh (rt a)), o] ∧ SumSz a qs ∧ Q (rt (a + sumR qs))) ⟨0, none, rfl, hs, by rw [Rat.zero_add]; exact h⟩ ?_ ?_
  · rintro q qs ρ ⟨a, o, rfl, ⟨h1, h2, h3⟩, h4⟩
    refine ⟨_, rfl, fun N hN => ?_⟩
    walk_at "dv"
    refine rsum_ok h1 h2 ?_
    try walk_at "dv"
    exact hN _ ⟨a + q, _, rfl, h3, by rw [Rat.add_assoc, ← sumR_cons]; exact h4⟩
  · rintro ρ ⟨a, o, rfl, _, h4⟩
    walk_at "dv"
    rw [sumR_nil, Rat.add_zero] at h4
    exact h4
theorem ltotal_ok {qs : List Rat} {Q : DK} {x : D} (hx : x = .lst (qs.map rt) ∨ x = .tup (qs.map rt)) (hs : SumSz 0 qs) (h : Q (rt (sumR qs))) : p__law_total [x] Q := by
  have hx : ∀ k, asSeq x k = k (qs.map rt) := fun k => by rcases hx with rfl | rfl <;> rfl
  unfold p__law_total t__law_total
  walk_at "dv"
  refine ⟨by decide, ?_⟩
  rw [hx]
  refine for_of (fun qs ρ => ∃ (a : Rat) (o : Option S), ρ = [some (.sh x), some (.sh (rt a)), o] ∧ SumSz a qs ∧ Q (rt (a + sumR qs))) ⟨0, none, rfl, hs, by rw [Rat.zero_add]; exact h⟩ ?_ ?_
  · rintro q qs ρ ⟨a, o, rfl, ⟨h1, h2, h3⟩, h4⟩
    refine ⟨_, rfl, fun N hN => ?_⟩
    walk_at "dv"
    refine rplus_ok h1 h2 ?_
    try walk_at "dv"
    exact hN _ ⟨a + q, _, rfl, h3, by rw [Rat.add_assoc, ← sumR_cons]; exact h4⟩
  · rintro ρ ⟨a, o, rfl, _, h4⟩
    walk_at "dv"
    rw [sumR_nil, Rat.add_zero] at h4
    exact h4
/-- the greatest, the first of them -/
def maxR (a : Rat) : List Rat → Rat
  | [] => a
  | q :: qs => maxR (if a < q then q else a) qs
theorem greatest_ok {q : Rat} {qs : List Rat} {Q : DK} (hs : ∀ p ∈ q :: qs, RSz p) (h : Q (rt (maxR q (q :: qs)))) : p_greatest_of [.lst ((q :: qs).map rt)] Q := by
  unfold p_greatest_of t_greatest_of
  walk_at "dv"
  rw [← List.map_cons]
  refine for_of (fun ps ρ => ∃ (a : Rat) (o : Option S), ρ = [some (.sh (.lst ((q :: qs).map rt))), some (.sh (rt a)), o] ∧ RSz a ∧ (∀ p ∈ ps, RSz p) ∧ Q (rt (maxR a ps))) ⟨q, none, rfl, hs q (List.mem_cons_self ..), hs, h⟩ ?_ ?_
  · rintro p ps ρ ⟨a, o, rfl, h1, h2, h3⟩
    refine ⟨_, rfl, fun N hN => ?_⟩
    have hp := h2 p (List.mem_cons_self ..)
    walk_at "dv"
    refine rbelow_ok h1 hp ?_
    walk_at "dv"
    unfold maxR at h3
    by_cases hlt : a < p
    · rw [if_pos (decide_eq_true hlt)]
      rw [if_pos hlt] at h3
      try walk_at "dv"
      exact hN _ ⟨p, _, rfl, hp, fun z hz => h2 z (List.mem_cons_of_mem _ hz), h3⟩
    · rw [if_neg (by simpa using hlt)]
      rw [if_neg hlt] at h3
      exact hN _ ⟨a, _, rfl, h1, fun z hz => h2 z (List.mem_cons_of_mem _ hz), h3⟩
  · rintro ρ ⟨a, o, rfl, _, _, h4⟩
    walk_at "dv"
    exact h4
end Wk
end
section
set_option Elab.async false
set_option linter.all false
set_option maxRecDepth 100000
/-! D4: rows, pairs, shares. -/
namespace Wk
open PySem PySem.Spec L3
local macro_rules | `(tactic| walk_at "dv") => `(tactic| simp only [q_dDef, q_sh0, List.map_cons, List.map_nil, List.cons_append, List.nil_append, q_dSq, q_dNext, q_dSet, q_dSetF, q_dSetO, q_dRet, q_dRetN, q_dIfS, q_dNever, q_dWhile, q_dFor, q_dPar, q_dAsg, q_dDrop,
  q_dFrz, q_dApp, q_dAppF, q_dPut, q_dPutF, q_dAttrN, q_dAttrFN, q_dFldN,
  List.getElem?_cons_zero, List.getElem?_cons_succ, List.set_cons_zero, List.set_cons_succ, q_setS0, q_setSc, q_setSs0, q_setSsc, q_setD0, q_setDc, q_wipe0, q_wipec,
  shOf_nil, shOf_c, shO_n, shO_s, shO_o, shO_i, alOf_nil, alOf_c, alO_n, alO_s, alO_o, alO_i, dVar_0, dVar_s, q_dC, q_dBin, q_dBinL, q_dTest, q_dChain, q_dNot, q_dNotV, q_dAnd, q_dAndV, q_dOr, q_dOrV, q_dIf, q_dNeg, q_dCall, q_dCallL, q_dCons, q_dNil, q_dStar, q_dLst, q_dTup, q_dLen, q_dxCons, q_dxNil, q_dxP, q_dxO, q_dYes,
  asInt_int, asBl_bl, asSeq_l, asSeq_t, asLst_l, asTup_t, asObj_o, arg1_, arg2_, arg3_, q_gDef, q_gMake, q_gI0, q_gI, gEq_int, gNe_int, q_gLen, q_gAbs, q_gMax2, q_gMin2, q_gInt_i, q_gInt_b, q_gTuple, q_gList, gIx_0, gIx_1, gIx_0l, gIx_1l, q_gCatL, q_gRepL, q_gCatT, q_gRepT, isi_, isi_int_int, isi_bool_int, isi_tup_tup, isiT_, isiT_lst, isiT_tup, isC_, isCK_o, q_dSeqI, q_dEnumI, q_dZip2, q_dZip3, q_dRng1, q_dRng2, q_dLc, q_gIsB, q_gNotB, q_dSlL, q_dSlT, q_dNoP, q_dSoP,
  List.length_cons, List.length_nil, true_and, and_true, Bool.not_true, Bool.not_false, if_true, Bool.false_eq_true, if_false])
theorem line_ok {n : Nat} (h : n ≤ 1000) : n ≤ sizeLine := by
  rw [show sizeLine = 16777216 from sizeLine_eq]; omega
theorem Qiff {a b : Prop} (h : a ↔ b) : a = b := propext h
theorem gSumB_l {ns : List Int} {Q : DK} : gSumB [.lst (dis ns)] Q = Q (.int ns.sum) := by
  unfold gSumB
  rw [arg1_, asSeq_l]
  refine Qiff ⟨?_, fun h => ⟨ns, rfl, h⟩⟩
  rintro ⟨ms, e, h⟩
  have inj : ∀ a b : List Int, a.map D.int = b.map D.int → a = b := fun a b h => by
    have := congrArg (List.map fun d => match d with | D.int i => i | _ => 0) h
    simpa [List.map_map, Function.comp_def] using this
  rw [inj ns ms e]
  exact h
theorem gSumB_t {ns : List Int} {Q : DK} : gSumB [.tup (dis ns)] Q = Q (.int ns.sum) := gSumB_l
theorem gAll_m {α : Type} {xs : List α} {p : α → Bool} {Q : DK} (h : Q (.bl (xs.all p))) : gAll [.lst (xs.map fun x => D.bl (p x))] Q := ⟨xs.map p, by rw [List.map_map]; rfl, by rw [List.all_map]; exact h⟩
theorem gAny_m {α : Type} {xs : List α} {p : α → Bool} {Q : DK} (h : Q (.bl (xs.any p))) : gAny [.lst (xs.map fun x => D.bl (p x))] Q := ⟨xs.map p, by rw [List.map_map]; rfl, by rw [List.any_map]; exact h⟩
theorem len_eq {n : Nat} {m : Int} (h : (n : Int) = m) : ((n : Int) == m) = true := beq_iff_eq.mpr h
theorem dis_len {ns : List Int} : (dis ns).length = ns.length := by unfold dis; rw [List.length_map]
theorem is_row_ok {ns : List Int} {many : Int} {Q : DK} (hl : (ns.length : Int) = many) (h0 : ns.length ≤ 1000) (h : Q (.bl true)) : p_is_row [.tup (dis ns), .int many] Q := by
  unfold p_is_row t_is_row
  walk_at "dv"
  rw [dis_len, len_eq hl, if_pos rfl]
  refine lc_of (f := fun _ => D.bl true) (fun n _ => ⟨_, rfl, fun Q h => ?_⟩) (by simpa using line_ok h0) ?_
  · walk_at "dv"
    exact is_number_int h
  · rw [List.nil_append]
    refine gAll_m (p := fun _ => true) ?_
    rw [show (ns.all fun _ => true) = true by simp]
    exact h
theorem is_count_row_ok {ns : List Int} {many : Int} {Q : DK} (hl : (ns.length : Int) = many) (h0 : ns.length ≤ 1000) (hp : ∀ n ∈ ns, 0 ≤ n) (h : Q (.bl true)) : p_is_count_row [.tup (dis ns), .int many] Q := by
  unfold p_is_count_row t_is_count_row
  walk_at "dv"
  refine is_row_ok hl h0 ?_
  walk_at "dv"
  refine lc_of (f := fun n => D.bl (decide (0 ≤ n))) (fun n _ => ⟨_, rfl, fun Q h => ?_⟩) (by simpa using line_ok h0) ?_
  · walk_at "dv"
    exact h
  · rw [List.nil_append]
    refine gAll_m (p := fun n => decide (0 ≤ n)) ?_
    rw [show (ns.all fun n => decide (0 ≤ n)) = true by simpa using hp]
    exact h
/-- a row as the program holds it -/
def encR (t : Int) (ns : List Int) : D := .tup [.int t, .tup (dis ns)]
theorem is_chance_row_ok {ns : List Int} {t many : Int} {Q : DK} (hl : (ns.length : Int) = many) (h0 : ns.length ≤ 1000) (hp : ∀ n ∈ ns, 0 ≤ n) (ht : 1 ≤ t) (hs : ns.sum ≤ t) (h : Q (.bl true)) : p_is_chance_row [.int many, encR t ns] Q := by
  unfold p_is_chance_row t_is_chance_row encR
  walk_at "dv"
  refine is_number_int ?_
  walk_at "dv"
  rw [if_neg (by simpa using ht)]
  refine is_count_row_ok hl h0 hp ?_
  walk_at "dv"
  rw [gSumB_t]
  walk_at "dv"
  rw [decide_eq_true hs]
  exact h
theorem is_pair_ok {ns : List Int} {t many : Int} {Q : DK} (hl : (ns.length : Int) = many) (h0 : ns.length ≤ 999) (hp : ∀ n ∈ ns, 0 ≤ n) (ht : 1 ≤ t) (hg : gcdL 0 (t :: ns) = 1) (h : Q (.bl true)) : p_is_pair_of [.int many, encR t ns] Q := by
  unfold p_is_pair_of t_is_pair_of encR
  walk_at "dv"
  refine is_number_int ?_
  walk_at "dv"
  rw [if_neg (by simpa using ht)]
  refine is_count_row_ok hl (by omega) hp ?_
  walk_at "dv"
  refine ⟨by rw [List.append_nil, dis_len]; exact line_ok (by omega), ?_⟩
  rw [List.append_nil]
  refine divisor_seq (ns := t :: ns) (.inr rfl) ?_
  rw [hg]
  walk_at "dv"
  exact h
theorem is_share_ok {ns : List Int} {t many : Int} {Q : DK} (hl : (ns.length : Int) = many) (h0 : ns.length ≤ 999) (hp : ∀ n ∈ ns, 0 ≤ n) (ht : 1 ≤ t) (hg : gcdL 0 (t :: ns) = 1) (hs : ns.sum = t) (h : Q (.bl true)) : p_is_share_of [.int many, encR t ns] Q := by
  unfold p_is_share_of t_is_share_of
  walk_at "dv"
  refine is_pair_ok hl (by omega) hp ht hg ?_
  unfold encR
  walk_at "dv"
  rw [gSumB_t]
  walk_at "dv"
  rw [show (ns.sum == t) = true from beq_iff_eq.mpr hs]
  exact h
theorem need_share_ok {ns : List Int} {t many : Int} {Q : DK} (hl : (ns.length : Int) = many) (h0 : ns.length ≤ 999) (hp : ∀ n ∈ ns, 0 ≤ n) (ht : 1 ≤ t) (hg : gcdL 0 (t :: ns) = 1) (hs : ns.sum = t) (h : Q .non) : p_need_share [.int many, encR t ns] Q := by
  unfold p_need_share t_need_share
  walk_at "dv"
  refine is_share_ok hl h0 hp ht hg hs ?_
  walk_at "dv"
  exact h
/-! ### least_pair, multiple_of, divided -/
theorem gcdL_le {g : Nat} (h : 0 < g) : ∀ ns : List Int, 0 < gcdL g ns ∧ gcdL g ns ≤ g
  | [] => ⟨h, Nat.le_refl _⟩
  | n :: ns => by
    have h1 : 0 < Nat.gcd g n.natAbs := Nat.gcd_pos_of_pos_left _ h
    obtain ⟨a, b⟩ := gcdL_le h1 ns
    exact ⟨a, Nat.le_trans b (Nat.gcd_le_left _ h)⟩
theorem gcdL_dvd : ∀ (ns : List Int) (g : Nat), gcdL g ns ∣ g ∧ ∀ n ∈ ns, (gcdL g ns : Int) ∣ n
  | [], g => ⟨Nat.dvd_refl _, by simp⟩
  | n :: ns, g => by
    obtain ⟨a, b⟩ := gcdL_dvd ns (Nat.gcd g n.natAbs)
    refine ⟨Nat.dvd_trans a (Nat.gcd_dvd_left _ _), fun m hm => ?_⟩
    rcases List.mem_cons.mp hm with rfl | hm
    · exact Int.ofNat_dvd_left.mpr (Nat.dvd_trans a (Nat.gcd_dvd_right _ _))
    · exact b m hm
theorem gcdL_head {t : Int} {ns : List Int} (ht : 0 < t) : 0 < gcdL 0 (t :: ns) ∧ gcdL 0 (t :: ns) ≤ t.toNat := by
  show 0 < gcdL (Nat.gcd 0 t.natAbs) ns ∧ gcdL (Nat.gcd 0 t.natAbs) ns ≤ _
  rw [Nat.gcd_zero_left]
  have := gcdL_le (g := t.natAbs) (by omega) ns
  omega
theorem dis_map {α : Type} {xs : List α} {g : α → Int} : (xs.map fun x => D.int (g x)) = dis (xs.map g) := by
  unfold dis
  rw [List.map_map]
  rfl
theorem least_pair_ok {x : D} {ns : List Int} {t : Int} {Q : DK} (hx : x = .lst (dis ns) ∨ x = .tup (dis ns)) (h0 : ns.length ≤ 900) (ht : 0 < t) (h9 : t.toNat < 2 ^ 9000) (h : Q (encR (t / (gcdL 0 (t :: ns) : Nat)) (ns.map fun n => n / (gcdL 0 (t :: ns) : Nat)))) : p_least_pair [.int t, x] Q := by
  obtain ⟨g0, g1⟩ := gcdL_head (ns := ns) ht
  have hx' : ∀ k, asSeq x k = k (dis ns) := fun k => by rcases hx with rfl | rfl <;> rfl
  have g9 : gcdL 0 (t :: ns) < 2 ^ 9000 := Nat.lt_of_le_of_lt g1 h9
  unfold p_least_pair t_least_pair
  walk_at "dv"
  rw [hx']
  refine ⟨by rw [List.append_nil, dis_len]; exact line_ok (by omega), ?_⟩
  rw [List.append_nil]
  refine divisor_seq (ns := t :: ns) (.inr rfl) ?_
  walk_at "dv"
  refine ⟨divB g0 g9, ?_⟩
  rw [hx']
  refine lc_of (f := fun n => D.int (n / (gcdL 0 (t :: ns) : Nat))) (fun n _ => ⟨_, rfl, fun Q h => ?_⟩) (by simpa using line_ok (by omega : ns.length ≤ 1000)) ?_
  · walk_at "dv"
    exact ⟨divB g0 g9, h⟩
  · rw [List.nil_append]
    refine ⟨by decide, ?_⟩
    rw [dis_map]
    exact h
/-- an int list divided by its gcd -/
def divL (ns : List Int) : List Int := if gcdL 0 ns < 2 then ns else ns.map fun n => n / (gcdL 0 ns : Nat)
theorem divided_ok {ns : List Int} {Q : DK} (h0 : ns.length ≤ 1000) (h9 : gcdL 0 ns < 2 ^ 9000) (h : Q (.lst (dis (divL ns)))) : p_divided [.lst (dis ns)] Q := by
  unfold p_divided t_divided
  walk_at "dv"
  refine divisor_seq (.inl rfl) ?_
  walk_at "dv"
  unfold divL at h
  by_cases h2 : gcdL 0 ns < 2
  · rw [if_pos h2] at h
    rw [if_pos (decide_eq_true (by omega))]
    exact h
  · rw [if_neg h2] at h
    rw [if_neg (by simp; omega)]
    refine lc_of (f := fun n => D.int (n / (gcdL 0 ns : Nat))) (fun n _ => ⟨_, rfl, fun Q h => ?_⟩) (by simpa using line_ok h0) ?_
    · walk_at "dv"
      exact ⟨divB (by omega) h9, h⟩
    · rw [List.nil_append, dis_map]
      exact h
end Wk
end
section
set_option Elab.async false
set_option linter.all false
set_option maxRecDepth 100000
/-! D5: systems of equations: a line is cleared. -/
namespace Wk
open PySem PySem.Spec L3
local macro_rules | `(tactic| walk_at "dv") => `(tactic| simp only [q_dDef, q_sh0, List.map_cons, List.map_nil, List.cons_append, List.nil_append, q_dSq, q_dNext, q_dSet, q_dSetF, q_dSetO, q_dRet, q_dRetN, q_dIfS, q_dNever, q_dWhile, q_dFor, q_dPar, q_dAsg, q_dDrop,
  q_dFrz, q_dApp, q_dAppF, q_dPut, q_dPutF, q_dAttrN, q_dAttrFN, q_dFldN,
  List.getElem?_cons_zero, List.getElem?_cons_succ, List.set_cons_zero, List.set_cons_succ, q_setS0, q_setSc, q_setSs0, q_setSsc, q_setD0, q_setDc, q_wipe0, q_wipec,
  shOf_nil, shOf_c, shO_n, shO_s, shO_o, shO_i, alOf_nil, alOf_c, alO_n, alO_s, alO_o, alO_i, dVar_0, dVar_s, q_dC, q_dBin, q_dBinL, q_dTest, q_dChain, q_dNot, q_dNotV, q_dAnd, q_dAndV, q_dOr, q_dOrV, q_dIf, q_dNeg, q_dCall, q_dCallL, q_dCons, q_dNil, q_dStar, q_dLst, q_dTup, q_dLen, q_dxCons, q_dxNil, q_dxP, q_dxO, q_dYes,
  asInt_int, asBl_bl, asSeq_l, asSeq_t, asLst_l, asTup_t, asObj_o, arg1_, arg2_, arg3_, q_gDef, q_gMake, q_gI0, q_gI, gEq_int, gNe_int, q_gLen, q_gAbs, q_gMax2, q_gMin2, q_gInt_i, q_gInt_b, q_gTuple, q_gList, gIx_0, gIx_1, gIx_0l, gIx_1l, q_gCatL, q_gRepL, q_gCatT, q_gRepT, isi_, isi_int_int, isi_bool_int, isi_tup_tup, isiT_, isiT_lst, isiT_tup, isC_, isCK_o, q_dSeqI, q_dEnumI, q_dZip2, q_dZip3, q_dRng1, q_dRng2, q_dLc, q_gIsB, q_gNotB, q_dSlL, q_dSlT, q_dNoP, q_dSoP,
  List.length_cons, List.length_nil, true_and, and_true, Bool.not_true, Bool.not_false, if_true, Bool.false_eq_true, if_false])
def gi (l : List Int) (i : Nat) : Int := l.getD i 0
theorem gi_of {l : List Int} {i : Nat} {x : Int} (h : l[i]? = some x) : gi l i = x := by
  unfold gi
  rw [List.getD_eq_getElem?_getD, h]
  rfl
theorem gi_get {l : List Int} {i : Nat} (h : i < l.length) : l[i]? = some (gi l i) := by
  have e : l[i]? = some l[i] := List.getElem?_eq_getElem h
  rw [e, gi_of e]
theorem dis_get {l : List Int} {i : Nat} (h : i < l.length) : (dis l)[i]? = some (.int (gi l i)) := by
  unfold dis
  rw [List.getElem?_map, gi_get h]
  rfl
theorem gi_map {α : Type} {l : List α} {f : α → Int} {i : Nat} {x : α} (h : l[i]? = some x) : gi (l.map f) i = f x := gi_of (by rw [List.getElem?_map, h]; rfl)
theorem gIx_l {l : List Int} {i : Nat} {Q : DK} (h : i < l.length) : gIx (.lst (dis l)) (.int (i : Int)) Q = Q (.int (gi l i)) := gIx_at (.inl rfl) (dis_get h)
theorem gIx_t {l : List Int} {i : Nat} {Q : DK} (h : i < l.length) : gIx (.tup (dis l)) (.int (i : Int)) Q = Q (.int (gi l i)) := gIx_at (.inr rfl) (dis_get h)
theorem zip_dis : ∀ (a b : List Int), zipD (dis a) (dis b) = (a.zip b).map fun p => D.tup [.int p.1, .int p.2]
  | [], _ => rfl
  | _ :: _, [] => rfl
  | x :: a, y :: b => by
    show D.tup [.int x, .int y] :: zipD (dis a) (dis b) = _
    rw [zip_dis a b]
    rfl
theorem gcdL_zero : ∀ {ns : List Int} {g : Nat}, gcdL g ns = 0 → g = 0 ∧ ∀ n ∈ ns, n = 0
  | [], g, h => ⟨h, by simp⟩
  | n :: ns, g, h => by
    obtain ⟨h1, h2⟩ := gcdL_zero (ns := ns) h
    obtain ⟨h3, h4⟩ := Nat.gcd_eq_zero_iff.mp h1
    refine ⟨h3, fun m hm => ?_⟩
    rcases List.mem_cons.mp hm with rfl | hm
    · omega
    · exact h2 m hm
theorem gcdL_lt {ns : List Int} {b : Nat} (h : ∀ n ∈ ns, n.natAbs < 2 ^ b) : gcdL 0 ns < 2 ^ b := by
  by_cases hz : gcdL 0 ns = 0
  · rw [hz]; exact Nat.two_pow_pos b
  · have : ∃ n ∈ ns, n ≠ 0 := by
      refine Classical.byContradiction fun hn => hz ?_
      have all0 : ∀ n ∈ ns, n = 0 := fun n hn' => Classical.byContradiction fun hz => hn ⟨n, hn', hz⟩
      clear hn hz h
      induction ns with
      | nil => rfl
      | cons n ns ih =>
        show gcdL (Nat.gcd 0 n.natAbs) ns = 0
        rw [all0 n (List.mem_cons_self ..)]
        exact ih fun m hm => all0 m (List.mem_cons_of_mem _ hm)
    obtain ⟨n, hn, h0⟩ := this
    have d := (gcdL_dvd ns 0).2 n hn
    have := Nat.le_of_dvd (by omega) (Int.ofNat_dvd_left.mp d)
    exact Nat.lt_of_le_of_lt this (h n hn)
/-- every entry is small -/
def Sm (b : Nat) (l : List Int) : Prop := ∀ n ∈ l, n.natAbs < 2 ^ b
theorem Sm.gi {b : Nat} {l : List Int} (h : Sm b l) (i : Nat) : (gi l i).natAbs < 2 ^ b := by
  by_cases hi : i < l.length
  · have e := gi_get hi
    exact h _ (List.mem_of_getElem? e)
  · unfold Wk.gi
    rw [List.getD_eq_getElem?_getD, List.getElem?_eq_none (by omega)]
    exact Nat.two_pow_pos b
theorem Sm.mono {b c : Nat} {l : List Int} (h : Sm b l) (hc : b ≤ c) : Sm c l := fun n hn => Nat.lt_of_lt_of_le (h n hn) (Nat.pow_le_pow_right (by decide) hc)
/-- what a division of a line by its gcd gives -/
theorem divL_spec (ns : List Int) : (divL ns).length = ns.length ∧ ∃ g : Int, g ≠ 0 ∧ ∀ i, g * gi (divL ns) i = gi ns i := by
  unfold divL
  by_cases h : gcdL 0 ns < 2
  · rw [if_pos h]
    exact ⟨rfl, 1, by decide, fun i => Int.one_mul _⟩
  · rw [if_neg h]
    refine ⟨by rw [List.length_map], (gcdL 0 ns : Nat), by omega, fun i => ?_⟩
    by_cases hi : i < ns.length
    · have e := gi_get hi
      rw [gi_map e]
      exact Int.mul_ediv_cancel' ((gcdL_dvd ns 0).2 _ (List.mem_of_getElem? e))
    · have z : ∀ l : List Int, l.length = ns.length → gi l i = 0 := fun l hl => by
        unfold gi
        rw [List.getD_eq_getElem?_getD, List.getElem?_eq_none (by omega)]
        rfl
      rw [z _ (by rw [List.length_map]), z _ rfl, Int.mul_zero]
theorem divL_sm {b : Nat} {ns : List Int} (h : Sm b ns) : Sm b (divL ns) := by
  unfold divL
  by_cases h2 : gcdL 0 ns < 2
  · rw [if_pos h2]; exact h
  · rw [if_neg h2]
    intro m hm
    obtain ⟨n, hn, rfl⟩ := List.mem_map.mp hm
    have := h n hn
    have : (n / (gcdL 0 ns : Nat)).natAbs ≤ n.natAbs := Int.natAbs_ediv_le_natAbs _ _
    omega
/-- line', from line with pivot's help, has 0 at s -/
def Clr (b : Nat) (line pivot : List Int) (s : Nat) (line' : List Int) : Prop :=
  line'.length = line.length ∧ Sm (2 * b + 1) line' ∧ gi line' s = 0 ∧ ∃ g c e : Int, g ≠ 0 ∧ c ≠ 0 ∧ ∀ i, i < line.length → g * gi line' i = c * gi line i - e * gi pivot i
def clrF (line pivot : List Int) (s : Nat) : List Int := if gi line s = 0 then line else divL ((line.zip pivot).map fun p => gi pivot s * p.1 - gi line s * p.2)
theorem cleared_ok {line pivot : List Int} {s b : Nat} {Q : DK} (hl : pivot.length = line.length) (h0 : line.length ≤ 900) (hs : s < line.length) (hb : b ≤ 4000) (h1 : Sm b line) (h2 : Sm b pivot) (hp : gi pivot s ≠ 0) :
    Clr b line pivot s (clrF line pivot s) ∧ (Q (.lst (dis (clrF line pivot s))) → p_cleared [.lst (dis line), .lst (dis pivot), .int (s : Int)] Q) := by
  unfold clrF
  by_cases hz : gi line s = 0
  · rw [if_pos hz]
    refine ⟨⟨rfl, h1.mono (by omega), hz, 1, 1, 0, by decide, by decide, fun i _ => by omega⟩, fun h => ?_⟩
    unfold p_cleared t_cleared
    walk_at "dv"
    rw [gIx_l hs]
    walk_at "dv"
    rw [if_pos (beq_iff_eq.mpr hz)]
    exact h
  · rw [if_neg hz]
    have hcol : ∀ x ∈ line.zip pivot, x.1.natAbs < 2 ^ b ∧ x.2.natAbs < 2 ^ b := fun x hx => ⟨h1 _ (List.of_mem_zip hx).1, h2 _ (List.of_mem_zip hx).2⟩
    have mb : ∀ {i j : Int}, i.natAbs < 2 ^ b → j.natAbs < 2 ^ b → CMulB i j := fun hi hj => by
      have up : ∀ {i : Int}, i.natAbs < 2 ^ b → i.natAbs < 2 ^ 4001 := fun h => Nat.lt_of_lt_of_le h (Nat.pow_le_pow_right (by decide) (by omega))
      exact mulB (up hi) (up hj)
    have hlen : ((line.zip pivot).map fun p => gi pivot s * p.1 - gi line s * p.2).length = line.length := by simp [hl]
    have hsm : Sm (2 * b + 1) ((line.zip pivot).map fun p => gi pivot s * p.1 - gi line s * p.2) := by
      intro m hm
      obtain ⟨p, hp', rfl⟩ := List.mem_map.mp hm
      obtain ⟨c1, c2⟩ := hcol p hp'
      have e1 : (gi pivot s * p.1).natAbs < 2 ^ (b + b) := L2.wide_lt (h2.gi s) c1
      have e2 : (gi line s * p.2).natAbs < 2 ^ (b + b) := L2.wide_lt (h1.gi s) c2
      have e3 : 2 ^ (2 * b + 1) = 2 ^ (b + b) + 2 ^ (b + b) := by rw [show 2 * b + 1 = (b + b) + 1 by omega, Nat.pow_succ]; omega
      omega
    have hgi : ∀ i, i < line.length → gi ((line.zip pivot).map fun p => gi pivot s * p.1 - gi line s * p.2) i = gi pivot s * gi line i - gi line s * gi pivot i := fun i hi => by
      have e : (line.zip pivot)[i]? = some (gi line i, gi pivot i) := by
        rw [List.getElem?_zip_eq_some]
        exact ⟨gi_get hi, gi_get (by omega)⟩
      rw [gi_map e]
    have dok : gcdL 0 ((line.zip pivot).map fun p => gi pivot s * p.1 - gi line s * p.2) < 2 ^ 9000 := Nat.lt_of_lt_of_le (gcdL_lt hsm) (Nat.pow_le_pow_right (by decide) (by omega))
    obtain ⟨d1, g, g0, d2⟩ := divL_spec ((line.zip pivot).map fun p => gi pivot s * p.1 - gi line s * p.2)
    refine ⟨⟨by rw [d1, hlen], divL_sm hsm, ?_, g, gi pivot s, gi line s, g0, hp, fun i hi => by rw [d2, hgi i hi]⟩, fun h => ?_⟩
    · have := d2 s
      rw [hgi s hs, Int.mul_comm (gi line s), Int.sub_self] at this
      exact (Int.mul_eq_zero.mp this).resolve_left g0
    unfold p_cleared t_cleared
    walk_at "dv"
    rw [gIx_l hs]
    walk_at "dv"
    rw [if_neg (by simpa using hz), zip_dis]
    refine lc_of (f := fun p => D.int (gi pivot s * p.1 - gi line s * p.2)) (fun p hp' => ⟨_, rfl, fun Q h => ?_⟩) (by simp; exact line_ok (by omega)) ?_
    · obtain ⟨c1, c2⟩ := hcol p hp'
      walk_at "dv"
      rw [gIx_l (by omega)]
      walk_at "dv"
      refine ⟨mb (h2.gi s) c1, ?_⟩
      rw [gIx_l hs]
      walk_at "dv"
      exact ⟨mb (h1.gi s) c2, h⟩
    · rw [List.nil_append, dis_map]
      exact divided_ok (by rw [hlen]; omega) dok h
end Wk
end
section
set_option Elab.async false
/-! M1: finite sums of rationals. -/
namespace Mx
def S : Nat → (Nat → Rat) → Rat
  | 0, _ => 0
  | n + 1, f => S n f + f n
theorem S_congr {n : Nat} {f g : Nat → Rat} (h : ∀ i, i < n → f i = g i) : S n f = S n g := by
  induction n with
  | zero => rfl
  | succ n ih => rw [S, S, ih fun i hi => h i (by omega), h n (by omega)]
theorem S_zero {n : Nat} {f : Nat → Rat} (h : ∀ i, i < n → f i = 0) : S n f = 0 := by
  induction n with
  | zero => rfl
  | succ n ih => rw [S, ih fun i hi => h i (by omega), h n (by omega)]; grind
theorem S_add (n : Nat) (f g : Nat → Rat) : S n (fun i => f i + g i) = S n f + S n g := by
  induction n with
  | zero => simp [S]; grind
  | succ n ih => simp only [S]; rw [ih]; grind
theorem S_mul (n : Nat) (c : Rat) (f : Nat → Rat) : S n (fun i => c * f i) = c * S n f := by
  induction n with
  | zero => simp [S]
  | succ n ih => simp only [S]; rw [ih]; grind
theorem S_sub (n : Nat) (f g : Nat → Rat) : S n (fun i => f i - g i) = S n f - S n g := by
  induction n with
  | zero => simp [S]; grind
  | succ n ih => simp only [S]; rw [ih]; grind
theorem S_le {n : Nat} {f g : Nat → Rat} (h : ∀ i, i < n → f i ≤ g i) : S n f ≤ S n g := by
  induction n with
  | zero => simp [S]
  | succ n ih =>
    have h1 := ih fun i hi => h i (by omega)
    have h2 := h n (by omega)
    simp only [S]
    grind
theorem S_nonneg {n : Nat} {f : Nat → Rat} (h : ∀ i, i < n → 0 ≤ f i) : 0 ≤ S n f := by
  have := S_le (f := fun _ => 0) h
  rw [S_zero fun _ _ => rfl] at this
  exact this
theorem S_comm (n m : Nat) (f : Nat → Nat → Rat) : S n (fun i => S m fun j => f i j) = S m (fun j => S n fun i => f i j) := by
  induction n with
  | zero => simp only [S]; rw [S_zero fun _ _ => rfl]
  | succ n ih => simp only [S]; rw [ih, S_add]
/-- one place alone -/
theorem S_one {n k : Nat} {f : Nat → Rat} (hk : k < n) (h : ∀ i, i < n → i ≠ k → f i = 0) : S n f = f k := by
  induction n with
  | zero => omega
  | succ n ih =>
    simp only [S]
    by_cases e : k = n
    · subst e
      rw [S_zero fun i hi => h i (by omega) (by omega)]
      grind
    · rw [ih (by omega) fun i hi hn => h i (by omega) hn, h n (by omega) (by omega)]
      grind
/-- two places alone -/
theorem S_two {n k l : Nat} {f : Nat → Rat} (hk : k < n) (hl : l < n) (hkl : k ≠ l) (h : ∀ i, i < n → i ≠ k → i ≠ l → f i = 0) : S n f = f k + f l := by
  have e : S n f = S n (fun i => if i = k then f i else 0) + S n (fun i => if i = k then 0 else f i) := by
    rw [← S_add]
    refine S_congr fun i _ => ?_
    by_cases hi : i = k
    · rw [if_pos hi, if_pos hi]; grind
    · rw [if_neg hi, if_neg hi]; grind
  rw [e, S_one hk (fun i hi hn => if_neg hn), S_one hl (fun i hi hn => ?_), if_pos rfl, if_neg (Ne.symm hkl)]
  by_cases hik : i = k
  · rw [if_pos hik]
  · rw [if_neg hik]; exact h i hi hik hn
end Mx
end
section
set_option Elab.async false
set_option linter.all false
set_option maxRecDepth 100000
/-! D6: elimination. -/
namespace Wk
open PySem PySem.Spec L3
local macro_rules | `(tactic| walk_at "dv") => `(tactic| simp only [q_dDef, q_sh0, List.map_cons, List.map_nil, List.cons_append, List.nil_append, q_dSq, q_dNext, q_dSet, q_dSetF, q_dSetO, q_dRet, q_dRetN, q_dIfS, q_dNever, q_dWhile, q_dFor, q_dPar, q_dAsg, q_dDrop,
  q_dFrz, q_dApp, q_dAppF, q_dPut, q_dPutF, q_dAttrN, q_dAttrFN, q_dFldN,
  List.getElem?_cons_zero, List.getElem?_cons_succ, List.set_cons_zero, List.set_cons_succ, q_setS0, q_setSc, q_setSs0, q_setSsc, q_setD0, q_setDc, q_wipe0, q_wipec,
  shOf_nil, shOf_c, shO_n, shO_s, shO_o, shO_i, alOf_nil, alOf_c, alO_n, alO_s, alO_o, alO_i, dVar_0, dVar_s, q_dC, q_dBin, q_dBinL, q_dTest, q_dChain, q_dNot, q_dNotV, q_dAnd, q_dAndV, q_dOr, q_dOrV, q_dIf, q_dNeg, q_dCall, q_dCallL, q_dCons, q_dNil, q_dStar, q_dLst, q_dTup, q_dLen, q_dxCons, q_dxNil, q_dxP, q_dxO, q_dYes,
  asInt_int, asBl_bl, asSeq_l, asSeq_t, asLst_l, asTup_t, asObj_o, arg1_, arg2_, arg3_, q_gDef, q_gMake, q_gI0, q_gI, gEq_int, gNe_int, q_gLen, q_gAbs, q_gMax2, q_gMin2, q_gInt_i, q_gInt_b, q_gTuple, q_gList, gIx_0, gIx_1, gIx_0l, gIx_1l, q_gCatL, q_gRepL, q_gCatT, q_gRepT, isi_, isi_int_int, isi_bool_int, isi_tup_tup, isiT_, isiT_lst, isiT_tup, isC_, isCK_o, q_dSeqI, q_dEnumI, q_dZip2, q_dZip3, q_dRng1, q_dRng2, q_dLc, q_gIsB, q_gNotB, q_dSlL, q_dSlT, q_dNoP, q_dSoP,
  List.length_cons, List.length_nil, true_and, and_true, Bool.not_true, Bool.not_false, if_true, Bool.false_eq_true, if_false])
open Mx (S)
def dot (n : Nat) (l : List Int) (x : Nat → Rat) : Rat := S n fun j => (gi l j : Rat) * x j
/-- a cleared line over the rationals -/
theorem Clr.dot {b n s : Nat} {line pivot line' : List Int} (h : Clr b line pivot s line') (hn : n ≤ line.length) : ∃ g c e : Rat, g ≠ 0 ∧ c ≠ 0 ∧ (∀ i, i < line.length → g * (gi line' i : Rat) = c * (gi line i : Rat) - e * (gi pivot i : Rat)) ∧
    ∀ y : Nat → Rat, g * Wk.dot n line' y = c * Wk.dot n line y - e * Wk.dot n pivot y := by
  obtain ⟨_, _, _, g, c, e, g0, c0, hi⟩ := h
  have hq : ∀ i, i < line.length → (g : Rat) * (gi line' i : Rat) = (c : Rat) * (gi line i : Rat) - (e : Rat) * (gi pivot i : Rat) := fun i hlt => by
    have := hi i hlt
    have := congrArg (fun z : Int => (z : Rat)) this
    simpa [Rat.intCast_mul, Rat.intCast_sub] using this
  refine ⟨g, c, e, by simpa using g0, by simpa using c0, hq, fun y => ?_⟩
  unfold Wk.dot
  rw [← Mx.S_mul, ← Mx.S_mul, ← Mx.S_mul, ← Mx.S_sub]
  refine Mx.S_congr fun i hlt => ?_
  have := hq i (by omega)
  grind
abbrev Solves (n : Nat) (rows : List (List Int × Int)) (x : Nat → Rat) : Prop := ∀ r ∈ rows, dot n r.1 x = (r.2 : Rat)
structure Inv (n len b s : Nat) (x : Nat → Rat) (rows : List (List Int × Int)) (done left : List (List Int)) : Prop where
  ld : done.length = s
  ll : left.length + s = n
  len : ∀ l ∈ done ++ left, l.length = len
  sm : ∀ l ∈ done ++ left, Sm b l
  dg : ∀ (k : Nat) (l : List Int), done[k]? = some l → gi l k ≠ 0 ∧ ∀ j, j < s → j ≠ k → gi l j = 0
  lz : ∀ l ∈ left, ∀ j, j < s → gi l j = 0
  so : Solves n rows x → ∀ l ∈ done ++ left, dot n l x = (gi l n : Rat)
  ba : ∀ y : Nat → Rat, (∀ l ∈ done ++ left, dot n l y = (gi l n : Rat)) → Solves n rows y
  ke : ∀ v : Nat → Rat, (∀ l ∈ done ++ left, dot n l v = 0) → ∀ j, j < n → v j = 0
section
variable {n len b s : Nat} {x : Nat → Rat} {rows : List (List Int × Int)} {done left : List (List Int)}
/-- some line has a number at the next place -/
theorem Inv.fit (I : Inv n len b s x rows done left) (hs : s < n) : ∃ l ∈ left, gi l s ≠ 0 := by
  refine Classical.byContradiction fun hn => ?_
  have hz : ∀ l ∈ left, gi l s = 0 := fun l hl => Classical.byContradiction fun h => hn ⟨l, hl, h⟩
  let v : Nat → Rat := fun j => if j < s then -((gi (done.getD j []) s : Rat) / (gi (done.getD j []) j : Rat)) else if j = s then 1 else 0
  have vs : v s = 1 := by simp [v]
  have vlt : ∀ j, j < s → v j = -((gi (done.getD j []) s : Rat) / (gi (done.getD j []) j : Rat)) := fun j hj => by simp [v, hj]
  have vgt : ∀ j, s < j → v j = 0 := fun j hj => by
    have h1 : ¬ j < s := by omega
    have h2 : ¬ j = s := by omega
    simp [v, h1, h2]
  have := I.ke v (fun l hl => ?_) s hs
  · rw [vs] at this
    exact absurd this (by decide)
  rcases List.mem_append.mp hl with hd | hl
  · obtain ⟨k, hk⟩ := List.getElem?_of_mem hd
    have hks : k < s := by rw [← I.ld]; exact (List.getElem?_eq_some_iff.mp hk).1
    obtain ⟨d1, d2⟩ := I.dg k l hk
    have e : dot n l v = (gi l k : Rat) * v k + (gi l s : Rat) * v s := by
      refine Mx.S_two (by omega) hs (by omega) fun i hi hik his => ?_
      by_cases h : i < s
      · rw [d2 i h hik]; simp
      · rw [vgt i (by omega)]; simp
    have ed : done.getD k [] = l := by rw [List.getD_eq_getElem?_getD, hk]; rfl
    rw [e, vs, vlt k hks, ed]
    have d1' : (gi l k : Rat) ≠ 0 := by simpa using d1
    grind
  · refine Mx.S_zero fun i hi => ?_
    by_cases h : i < s
    · rw [I.lz l hl i h]; simp
    · by_cases h2 : i = s
      · subst h2
        rw [hz l hl]; simp
      · rw [vgt i (by omega)]; simp
theorem zip_filter_len : ∀ (l : List (List Int)) (m k : Nat), m ≤ k → k < m + l.length → ((l.zipIdx m).filter fun p => decide (p.2 ≠ k)).length + 1 = l.length
  | [], m, k, h1, h2 => by simp at h2; omega
  | a :: l, m, k, h1, h2 => by
    rw [List.zipIdx_cons, List.filter_cons]
    by_cases e : m = k
    · subst e
      simp only [ne_eq, not_true_eq_false, decide_false, Bool.false_eq_true, if_false]
      rw [List.filter_eq_self.mpr]
      · simp
      · rintro ⟨y, i⟩ hi
        have := List.le_snd_of_mem_zipIdx hi
        simp
        simp at this
        omega
    · simp only [ne_eq, e, not_false_eq_true, decide_true, if_true, List.length_cons]
      rw [zip_filter_len l (m + 1) k (by omega) (by simp at h2; omega)]
/-- the lists behind a step -/
def leftN (left : List (List Int)) (k : Nat) (pivot : List Int) (s : Nat) : List (List Int) := (left.zipIdx.filter fun p => decide (p.2 ≠ k)).map fun p => clrF p.1 pivot s
def doneN (done : List (List Int)) (pivot : List Int) (s : Nat) : List (List Int) := (done.map fun l => clrF l pivot s) ++ [pivot]
theorem Inv.step (I : Inv n len b s x rows done left) (hs : s < n) (hlen : n < len) (h9 : len ≤ 900) (hb : b ≤ 4000) {k : Nat} {pivot : List Int} (hk : left[k]? = some pivot) (hp : gi pivot s ≠ 0) : Inv n len (2 * b + 1) (s + 1) x rows (doneN done pivot s) (leftN left k pivot s) := by
  have pm : pivot ∈ left := List.mem_of_getElem? hk
  have pl := I.len pivot (List.mem_append_right _ pm)
  have ps := I.sm pivot (List.mem_append_right _ pm)
  have kl := (List.getElem?_eq_some_iff.mp hk).1
  have clr : ∀ l ∈ done ++ left, Clr b l pivot s (clrF l pivot s) := fun l hl => (cleared_ok (Q := fun _ => True) (by rw [pl, I.len l hl]) (by rw [I.len l hl]; exact h9) (by rw [I.len l hl]; omega) hb (I.sm l hl) ps hp).1
  -- who is in the new lists
  have mem : ∀ l ∈ doneN done pivot s ++ leftN left k pivot s, l = pivot ∨ ∃ l0 ∈ done ++ left, l = clrF l0 pivot s := fun l hl => by
    rcases List.mem_append.mp hl with h | h
    · rcases List.mem_append.mp h with h | h
      · obtain ⟨l0, h0, rfl⟩ := List.mem_map.mp h
        exact .inr ⟨l0, List.mem_append_left _ h0, rfl⟩
      · exact .inl (by simpa using h)
    · obtain ⟨⟨l0, i⟩, h0, rfl⟩ := List.mem_map.mp h
      have h1 := (List.mem_filter.mp h0).1
      exact .inr ⟨l0, List.mem_append_right _ (List.fst_mem_of_mem_zipIdx h1), rfl⟩
  have len' : ∀ l ∈ doneN done pivot s ++ leftN left k pivot s, l.length = len := fun l hl => by
    rcases mem l hl with rfl | ⟨l0, h0, rfl⟩
    · exact pl
    · rw [(clr l0 h0).1, I.len l0 h0]
  have eqn : ∀ l0 ∈ done ++ left, ∃ g c e : Rat, g ≠ 0 ∧ c ≠ 0 ∧ (∀ i, i < l0.length → g * (gi (clrF l0 pivot s) i : Rat) = c * (gi l0 i : Rat) - e * (gi pivot i : Rat)) ∧ ∀ y : Nat → Rat, g * dot n (clrF l0 pivot s) y = c * dot n l0 y - e * dot n pivot y :=
    fun l0 h0 => (clr l0 h0).dot (by rw [I.len l0 h0]; omega)
  have pz : ∀ j, j < s → gi pivot j = 0 := I.lz pivot pm
  refine ⟨?_, ?_, len', ?_, ?_, ?_, ?_, ?_, ?_⟩
  · unfold doneN; simp [I.ld]
  · unfold leftN
    have := zip_filter_len left 0 k (by omega) (by omega)
    have := I.ll
    rw [List.length_map]
    omega
  · intro l hl
    rcases mem l hl with rfl | ⟨l0, h0, rfl⟩
    · exact ps.mono (by omega)
    · exact (clr l0 h0).2.1
  · intro i l hi
    unfold doneN at hi
    by_cases his : i < s
    · rw [List.getElem?_append_left (by simp [I.ld]; omega), List.getElem?_map] at hi
      obtain ⟨l0, h0, rfl⟩ := Option.map_eq_some_iff.mp hi
      have hm : l0 ∈ done ++ left := List.mem_append_left _ (List.mem_of_getElem? h0)
      obtain ⟨d1, d2⟩ := I.dg i l0 h0
      obtain ⟨g, c, e, g0, c0, q, _⟩ := eqn l0 hm
      have ll0 := I.len l0 hm
      refine ⟨fun z => ?_, fun j hj hji => ?_⟩
      · have := q i (by omega)
        rw [z, pz i his] at this
        have d1' : (gi l0 i : Rat) ≠ 0 := by simpa using d1
        simp at this
        grind
      · by_cases hjs : j = s
        · subst hjs; exact (clr l0 hm).2.2.1
        · have := q j (by omega)
          rw [d2 j (by omega) hji, pz j (by omega)] at this
          simp at this
          have : (gi (clrF l0 pivot s) j : Rat) = 0 := by grind
          simpa using this
    · have hi2 : i = s := by
        have := (List.getElem?_eq_some_iff.mp hi).1
        simp [I.ld] at this
        omega
      subst hi2
      rw [List.getElem?_append_right (by simp [I.ld])] at hi
      simp [I.ld] at hi
      subst hi
      exact ⟨hp, fun j hj hji => pz j (by omega)⟩
  · intro l hl j hj
    unfold leftN at hl
    obtain ⟨⟨l0, i⟩, h0, rfl⟩ := List.mem_map.mp hl
    have hm : l0 ∈ left := List.fst_mem_of_mem_zipIdx (List.mem_filter.mp h0).1
    have hm' : l0 ∈ done ++ left := List.mem_append_right _ hm
    by_cases hjs : j = s
    · subst hjs; exact (clr l0 hm').2.2.1
    · obtain ⟨g, c, e, g0, c0, q, _⟩ := eqn l0 hm'
      have := q j (by rw [I.len l0 hm']; omega)
      rw [I.lz l0 hm j (by omega), pz j (by omega)] at this
      simp at this
      have : (gi (clrF l0 pivot s) j : Rat) = 0 := by grind
      simpa using this
  · intro hx l hl
    have hps := I.so hx pivot (List.mem_append_right _ pm)
    rcases mem l hl with rfl | ⟨l0, h0, rfl⟩
    · exact hps
    · obtain ⟨g, c, e, g0, c0, q, d⟩ := eqn l0 h0
      have h1 := d x
      have h2 := q n (by rw [I.len l0 h0]; omega)
      have h3 := I.so hx l0 h0
      rw [h3, hps, ← h2] at h1
      grind
  · intro y hy
    refine I.ba y fun l hl => ?_
    have hpy : dot n pivot y = (gi pivot n : Rat) := hy pivot (List.mem_append_left _ (by unfold doneN; simp))
    have back : dot n (clrF l pivot s) y = (gi (clrF l pivot s) n : Rat) → dot n l y = (gi l n : Rat) := fun h => by
      obtain ⟨g, c, e, g0, c0, q, d⟩ := eqn l hl
      have h1 := d y
      have h2 := q n (by rw [I.len l hl]; omega)
      rw [h, hpy, h2] at h1
      grind
    rcases List.mem_append.mp hl with h | h
    · exact back (hy _ (List.mem_append_left _ (by unfold doneN; exact List.mem_append_left _ (List.mem_map.mpr ⟨l, h, rfl⟩))))
    · obtain ⟨i, hi⟩ := List.getElem?_of_mem h
      by_cases hik : i = k
      · subst hik
        rw [hk] at hi
        cases hi
        exact hpy
      · refine back (hy _ (List.mem_append_right _ ?_))
        unfold leftN
        refine List.mem_map.mpr ⟨(l, i), List.mem_filter.mpr ⟨?_, by simpa using hik⟩, rfl⟩
        exact List.mem_zipIdx_iff_getElem?.mpr hi
  · intro v hv
    refine I.ke v fun l hl => ?_
    have hpv : dot n pivot v = 0 := hv pivot (List.mem_append_left _ (by unfold doneN; simp))
    have back : dot n (clrF l pivot s) v = 0 → dot n l v = 0 := fun h => by
      obtain ⟨g, c, e, g0, c0, q, d⟩ := eqn l hl
      have h1 := d v
      rw [h, hpv] at h1
      grind
    rcases List.mem_append.mp hl with h | h
    · exact back (hv _ (List.mem_append_left _ (by unfold doneN; exact List.mem_append_left _ (List.mem_map.mpr ⟨l, h, rfl⟩))))
    · obtain ⟨i, hi⟩ := List.getElem?_of_mem h
      by_cases hik : i = k
      · subst hik
        rw [hk] at hi
        cases hi
        exact hpv
      · refine back (hv _ (List.mem_append_right _ ?_))
        unfold leftN
        refine List.mem_map.mpr ⟨(l, i), List.mem_filter.mpr ⟨?_, by simpa using hik⟩, rfl⟩
        exact List.mem_zipIdx_iff_getElem?.mpr hi
end
end Wk
end
section
set_option Elab.async false
set_option linter.all false
set_option maxRecDepth 100000
/-! D7: stepped_lines. -/
namespace Wk
open PySem PySem.Spec L3
local macro_rules | `(tactic| walk_at "dv") => `(tactic| simp only [q_dDef, q_sh0, List.map_cons, List.map_nil, List.cons_append, List.nil_append, q_dSq, q_dNext, q_dSet, q_dSetF, q_dSetO, q_dRet, q_dRetN, q_dIfS, q_dNever, q_dWhile, q_dFor, q_dPar, q_dAsg, q_dDrop,
  q_dFrz, q_dApp, q_dAppF, q_dPut, q_dPutF, q_dAttrN, q_dAttrFN, q_dFldN,
  List.getElem?_cons_zero, List.getElem?_cons_succ, List.set_cons_zero, List.set_cons_succ, q_setS0, q_setSc, q_setSs0, q_setSsc, q_setD0, q_setDc, q_wipe0, q_wipec,
  shOf_nil, shOf_c, shO_n, shO_s, shO_o, shO_i, alOf_nil, alOf_c, alO_n, alO_s, alO_o, alO_i, dVar_0, dVar_s, q_dC, q_dBin, q_dBinL, q_dTest, q_dChain, q_dNot, q_dNotV, q_dAnd, q_dAndV, q_dOr, q_dOrV, q_dIf, q_dNeg, q_dCall, q_dCallL, q_dCons, q_dNil, q_dStar, q_dLst, q_dTup, q_dLen, q_dxCons, q_dxNil, q_dxP, q_dxO, q_dYes,
  asInt_int, asBl_bl, asSeq_l, asSeq_t, asLst_l, asTup_t, asObj_o, arg1_, arg2_, arg3_, q_gDef, q_gMake, q_gI0, q_gI, gEq_int, gNe_int, q_gLen, q_gAbs, q_gMax2, q_gMin2, q_gInt_i, q_gInt_b, q_gTuple, q_gList, gIx_0, gIx_1, gIx_0l, gIx_1l, q_gCatL, q_gRepL, q_gCatT, q_gRepT, isi_, isi_int_int, isi_bool_int, isi_tup_tup, isiT_, isiT_lst, isiT_tup, isC_, isCK_o, q_dSeqI, q_dEnumI, q_dZip2, q_dZip3, q_dRng1, q_dRng2, q_dLc, q_gIsB, q_gNotB, q_dSlL, q_dSlT, q_dNoP, q_dSoP,
  List.length_cons, List.length_nil, true_and, and_true, Bool.not_true, Bool.not_false, if_true, Bool.false_eq_true, if_false])
open Mx (S)
theorem rangeD_eq {n : Nat} : rangeD 0 n = (List.range n).map fun (i : Nat) => D.int (i : Int) := by
  unfold rangeD
  refine List.map_congr_left fun i _ => ?_
  rw [Int.zero_add]
theorem for_range {td : DG} {tb : DS} {E : DEnds} {n : Nat} {ρ : EnvS} (P : Nat → EnvS → Prop) (h0 : P 0 ρ) (hs : ∀ i ρ, i < n → P i ρ → ∃ asg, td (.int (i : Int)) = some asg ∧ ∀ N : EnvS → Prop, (∀ ρ', P (i + 1) ρ' → N ρ') → tb { E with nx := N, ct := N, bk := E.nx } (setS ρ asg))
    (hd : ∀ ρ, P n ρ → E.nx ρ) : dForL td tb E (rangeD 0 n) ρ := by
  rw [rangeD_eq]
  refine for_of (fun (xs : List Nat) ρ => ∃ i, i ≤ n ∧ xs = (List.range n).drop i ∧ P i ρ) ⟨0, Nat.zero_le _, rfl, h0⟩ ?_ ?_
  · rintro k xs ρ ⟨i, hi, e, p⟩
    have hlt : i < n := by
      by_cases h : i < n
      · exact h
      · rw [List.drop_eq_nil_of_le (by simp; omega)] at e; cases e
    rw [List.drop_eq_getElem_cons (by simpa using hlt)] at e
    simp at e
    obtain ⟨rfl, rfl⟩ := e
    obtain ⟨asg, ea, q⟩ := hs k ρ hlt p
    exact ⟨asg, ea, fun N hN => q N fun ρ' h' => hN ρ' ⟨k + 1, hlt, rfl, h'⟩⟩
  · rintro ρ ⟨i, hi, e, p⟩
    have : i = n := by
      by_cases h : i < n
      · rw [List.drop_eq_getElem_cons (by simpa using h)] at e; cases e
      · omega
    subst this
    exact hd ρ p
theorem enum_zip {α : Type} {enc : α → D} : ∀ (xs : List α) (m : Nat), enumD m (xs.map enc) = (xs.zipIdx m).map fun p => D.tup [.int ((p.2 : Nat) : Int), enc p.1]
  | [], _ => rfl
  | x :: xs, m => by
    rw [List.zipIdx_cons, List.map_cons, List.map_cons, ← enum_zip xs (m + 1)]
    rfl
theorem pys_dis : ∀ ns : List Int, pys (dis ns) = some (ns.map PyData.int)
  | [] => rfl
  | n :: ns => by
    show pys (D.int n :: dis ns) = _
    unfold pys
    rw [pys_dis ns]
    rfl
theorem gNe_nil {ns : List Int} {Q : DK} : gNe (.lst (dis ns)) (.lst []) Q = Q (.bl (!decide (ns = []))) := by
  have e1 : py (.lst (dis ns)) = some (.list (ns.map PyData.int)) := by unfold py; rw [pys_dis]; rfl
  have e2 : py (.lst []) = some (.list []) := rfl
  unfold gNe
  refine Qiff ⟨?_, fun h => ⟨_, _, e1, e2, shaped_ints ns, shaped_ints [], by rw [eqv_nil]; exact h⟩⟩
  rintro ⟨p, q, h1, h2, _, _, h⟩
  rw [e1] at h1
  rw [e2] at h2
  cases h1
  cases h2
  rw [eqv_nil] at h
  exact h
def encL (l : List Int) : D := .lst (dis l)
def encEq (r : List Int × Int) : D := .tup [.tup (dis r.1), .int r.2]
def ext (n : Nat) (r : List Int × Int) (i : Nat) : List Int := (r.1 ++ [r.2]) ++ (List.range n).map fun (k : Nat) => if ((k : Int) == (i : Int)) = true then (1 : Int) else 0
theorem encEq_0 {r : List Int × Int} {Q : DK} : gIx (encEq r) (.int 0) Q = Q (.tup (dis r.1)) := gIx_0
theorem encEq_1 {r : List Int × Int} {Q : DK} : gIx (encEq r) (.int 1) Q = Q (.int r.2) := gIx_1
def bnd (b : Nat) : Nat → Nat
  | 0 => b
  | s + 1 => 2 * bnd b s + 1
theorem bnd_mono (b : Nat) : ∀ {s t : Nat}, s ≤ t → bnd b s ≤ bnd b t := by
  intro s t h
  induction t with
  | zero => have : s = 0 := by omega
            subst this; exact Nat.le_refl _
  | succ t ih =>
    by_cases e : s = t + 1
    · subst e; exact Nat.le_refl _
    · have := ih (by omega)
      show bnd b s ≤ 2 * bnd b t + 1
      omega
theorem dis_app {a b : List Int} : dis a ++ dis b = dis (a ++ b) := by unfold dis; rw [List.map_append]
/-- a system with one solution -/
structure Sys (n b : Nat) (rows : List (List Int × Int)) : Prop where
  n0 : 0 < n
  n9 : n ≤ 100
  rn : rows.length = n
  cl : ∀ r ∈ rows, r.1.length = n
  ke : ∀ v : Nat → Rat, (∀ r ∈ rows, dot n r.1 v = 0) → ∀ j, j < n → v j = 0
  sm : ∀ r ∈ rows, Sm b r.1 ∧ r.2.natAbs < 2 ^ b
  b1 : 1 ≤ b
  b9 : bnd b n ≤ 4000
theorem Sys.inv {n b : Nat} {rows : List (List Int × Int)} (Y : Sys n b rows) (x : Nat → Rat) : Inv n (2 * n + 1) b 0 x rows [] (rows.zipIdx.map fun p => ext n p.1 p.2) := by
  have mem : ∀ l ∈ rows.zipIdx.map fun p => ext n p.1 p.2, ∃ r i, r ∈ rows ∧ l = ext n r i := fun l hl => by
    obtain ⟨⟨r, i⟩, h, rfl⟩ := List.mem_map.mp hl
    exact ⟨r, i, List.fst_mem_of_mem_zipIdx h, rfl⟩
  have e1 : ∀ r i, r ∈ rows → ∀ j, j < n → gi (ext n r i) j = gi r.1 j := fun r i hr j hj => by
    have := Y.cl r hr
    refine gi_of ?_
    unfold ext
    rw [List.append_assoc, List.getElem?_append_left (by omega)]
    exact gi_get (by omega)
  have e2 : ∀ r i, r ∈ rows → gi (ext n r i) n = r.2 := fun r i hr => by
    have := Y.cl r hr
    refine gi_of ?_
    unfold ext
    rw [List.append_assoc, List.getElem?_append_right (by omega), this, Nat.sub_self]
    rfl
  have ed : ∀ r i, r ∈ rows → ∀ y, dot n (ext n r i) y = dot n r.1 y := fun r i hr y => Mx.S_congr fun j hj => by rw [e1 r i hr j hj]
  refine ⟨rfl, by simp [Y.rn], fun l hl => ?_, fun l hl => ?_, fun k l h => by simp at h, fun l _ j hj => by omega, fun hx l hl => ?_, fun y hy r hr => ?_, fun v hv => Y.ke v fun r hr => ?_⟩
  · obtain ⟨r, i, hr, rfl⟩ := mem l hl
    have := Y.cl r hr
    unfold ext
    simp
    omega
  · obtain ⟨r, i, hr, rfl⟩ := mem l hl
    intro m hm
    obtain ⟨s1, s2⟩ := Y.sm r hr
    unfold ext at hm
    rcases List.mem_append.mp hm with hm | hm
    · rcases List.mem_append.mp hm with hm | hm
      · exact s1 m hm
      · have : m = r.2 := by simpa using hm
        rw [this]; exact s2
    · obtain ⟨k, _, rfl⟩ := List.mem_map.mp hm
      have h2 : 2 ^ 1 ≤ 2 ^ b := Nat.pow_le_pow_right (by decide) Y.b1
      split
      · exact Nat.lt_of_lt_of_le (by decide) h2
      · exact Nat.two_pow_pos b
  · obtain ⟨r, i, hr, rfl⟩ := mem l hl
    rw [ed r i hr, e2 r i hr]
    exact hx r hr
  · obtain ⟨i, hi⟩ := List.getElem?_of_mem hr
    rw [← ed r i hr, ← e2 r i hr]
    exact hy _ (List.mem_map.mpr ⟨(r, i), List.mem_zipIdx_iff_getElem?.mpr hi, rfl⟩)
  · obtain ⟨i, hi⟩ := List.getElem?_of_mem hr
    rw [← ed r i hr]
    exact hv _ (List.mem_map.mpr ⟨(r, i), List.mem_zipIdx_iff_getElem?.mpr hi, rfl⟩)
theorem stepped_ok {n b : Nat} {rows : List (List Int × Int)} {x : Nat → Rat} (Y : Sys n b rows) {Q : DK} (h : ∀ done, Inv n (2 * n + 1) (bnd b n) n x rows done [] → Q (.tup [.lst (done.map encL), .lst (rangeD 0 n), .lst []])) :
    p_stepped_lines [.lst (rows.map encEq)] Q := by
  obtain ⟨r0, rows', er⟩ : ∃ r0 rows', rows = r0 :: rows' := by
    cases rows with
    | nil => have := Y.rn; have := Y.n0; simp at *; omega
    | cons r0 rs => exact ⟨r0, rs, rfl⟩
  have h0 : ∀ Q : DK, gIx (.lst (rows.map encEq)) (.int 0) Q = Q (encEq r0) := fun Q => by
    rw [er]
    exact gIx_0l
  have hr0 : r0.1.length = n := Y.cl r0 (by rw [er]; exact List.mem_cons_self ..)
  have hn9 := Y.n9
  have hz : ∀ m : Nat, m ≤ 1000 → m ≤ sizeLine := fun m => line_ok
  have hrng : ∀ m : Nat, m ≤ 1000 → Rng (m : Int) := fun m hm => by unfold Rng; omega
  unfold p_stepped_lines t_stepped_lines
  walk_at "dv"
  rw [h0, encEq_0]
  walk_at "dv"
  rw [dis_len, hr0, List.length_map, Y.rn, enum_zip]
  refine lc_of (f := fun p => encL (ext n p.1 p.2)) (fun p hp => ⟨_, rfl, fun Q h => ?_⟩) (by simp [Y.rn]; exact hz _ (by omega)) ?_
  · have hr := List.fst_mem_of_mem_zipIdx hp
    have hrl := Y.cl _ hr
    walk_at "dv"
    rw [encEq_0]
    walk_at "dv"
    rw [encEq_1]
    try walk_at "dv"
    refine ⟨by simp [dis_len, hrl]; exact hz _ (by omega), hrng n (by omega), ?_⟩
    rw [Int.toNat_natCast, rangeD_eq]
    refine lc_of (f := fun (k : Nat) => D.int (if ((k : Int) == (p.2 : Int)) = true then 1 else 0)) (fun k hk => ⟨_, rfl, fun Q h => ?_⟩) (by simp; exact hz _ (by omega)) ?_
    · walk_at "dv"
      exact h
    · rw [List.nil_append, dis_map]
      try walk_at "dv"
      refine ⟨by simp [dis_len, hrl]; exact hz _ (by omega), ?_⟩
      rw [show (dis p.1.1 ++ [D.int p.1.2]) ++ dis ((List.range n).map fun (k : Nat) => if ((k : Int) == (p.2 : Int)) = true then (1 : Int) else 0) = dis (ext n p.1 p.2) from by unfold ext dis; simp]
      exact h
  rw [List.nil_append]
  refine ⟨hz 0 (by omega), hz 0 (by omega), hrng n (by omega), ?_⟩
  rw [Int.toNat_natCast]
  refine for_range (fun s ρ => ∃ (done left : List (List Int)) (o6 o7 o8 o9 o10 o11 o12 : Option S), ρ = [some (.sh (.lst (rows.map encEq))), some (.sh (.int (n : Int))), some (.sh (.int (n : Int))), some (.sh (.lst (left.map encL))), some (.sh (.lst (done.map encL))), some (.ow (rangeD 0 s)), o6, o7, o8, o9, o10, o11, o12] ∧
    Inv n (2 * n + 1) (bnd b s) s x rows done left) ⟨[], _, none, none, none, none, none, none, none, by rw [List.map_map]; rfl, Y.inv x⟩ ?_ ?_
  · rintro s ρ hs ⟨done, left, o6, o7, o8, o9, o10, o11, o12, rfl, I⟩
    refine ⟨_, rfl, fun N hN => ?_⟩
    have hb : bnd b s ≤ 4000 := Nat.le_trans (bnd_mono b (by omega)) Y.b9
    walk_at "dv"
    rw [enum_zip]
    have lenl : ∀ l ∈ done ++ left, l.length = 2 * n + 1 := I.len
    -- which lines have a number there
    obtain ⟨l0, hl0, g0⟩ := I.fit hs
    obtain ⟨fit, hfit⟩ : ∃ fit, fit = left.zipIdx.filter (fun q => !(gi q.1 s == 0)) := ⟨_, rfl⟩
    obtain ⟨⟨pivot, k⟩, rest, efit⟩ : ∃ a r, fit = a :: r := by
      cases ef : fit with
      | cons a r => exact ⟨a, r, rfl⟩
      | nil =>
        obtain ⟨i, hi⟩ := List.getElem?_of_mem hl0
        have : (l0, i) ∈ fit := by
          rw [hfit]
          exact List.mem_filter.mpr ⟨List.mem_zipIdx_iff_getElem?.mpr hi, by simpa using g0⟩
        rw [ef] at this
        cases this
    have hpk : (pivot, k) ∈ left.zipIdx.filter (fun q => !(gi q.1 s == 0)) := by
      rw [← hfit, efit]
      exact List.mem_cons_self ..
    have hk : left[k]? = some pivot := List.mem_zipIdx_iff_getElem?.mp (List.mem_filter.mp hpk).1
    have hp : gi pivot s ≠ 0 := by simpa using (List.mem_filter.mp hpk).2
    have pm : pivot ∈ left := List.mem_of_getElem? hk
    have pl := lenl pivot (List.mem_append_right _ pm)
    have ps := I.sm pivot (List.mem_append_right _ pm)
    have hll : left.length ≤ 100 := by have := I.ll; omega
    have clr : ∀ l ∈ done ++ left, ∀ Q : DK, Q (encL (clrF l pivot s)) → p_cleared [encL l, encL pivot, .int (s : Int)] Q := fun l hl Q h => (cleared_ok (by rw [pl, lenl l hl]) (by rw [lenl l hl]; omega) (by rw [lenl l hl]; omega) hb (I.sm l hl) ps hp).2 h
    refine lc_filter (p := fun q => !(gi q.1 s == 0)) (f := fun q => D.int (q.2 : Nat)) (fun q hq => ⟨_, rfl, fun Q h => ?_, fun _ Q h => ?_⟩) (by simp; exact hz _ (by omega)) ?_
    · have hm := lenl q.1 (List.mem_append_right _ (List.fst_mem_of_mem_zipIdx hq))
      unfold encL
      walk_at "dv"
      rw [gIx_l (by omega)]
      walk_at "dv"
      exact h
    · walk_at "dv"
      exact h
    rw [List.nil_append, ← hfit]
    have e1 : fit.map (fun q => D.int (q.2 : Nat)) = dis (fit.map fun q => ((q.2 : Nat) : Int)) := dis_map
    refine ⟨hz 0 (by omega), ?_⟩
    rw [e1, gNe_nil, decide_eq_false (by rw [efit]; simp), ← e1]
    walk_at "dv"
    rw [efit, List.map_cons]
    walk_at "dv"
    rw [gIx_at (.inl rfl) (by rw [List.getElem?_map, hk]; rfl)]
    refine lc_filter (p := fun q => decide (q.2 ≠ k)) (f := fun q => encL (clrF q.1 pivot s)) (fun q hq => ⟨_, rfl, fun Q h => ?_, fun _ Q h => ?_⟩) (by simp; exact hz _ (by omega)) ?_
    · walk_at "dv"
      rw [show (!((q.2 : Nat) : Int) == ((k : Nat) : Int)) = decide (q.2 ≠ k) by
        by_cases e : q.2 = k
        · simp [e]
        · simp [e]
          omega]
      exact h
    · walk_at "dv"
      exact clr q.1 (List.mem_append_right _ (List.fst_mem_of_mem_zipIdx hq)) _ h
    rw [List.nil_append]
    refine lc_of (f := fun l => encL (clrF l pivot s)) (fun l hl => ⟨_, rfl, fun Q h => ?_⟩) (by simp [I.ld]; exact hz _ (by omega)) ?_
    · walk_at "dv"
      exact clr l (List.mem_append_left _ hl) _ h
    rw [List.nil_append]
    refine ⟨hz _ (by omega), by simp [I.ld]; exact hz _ (by omega), ?_, ?_⟩
    · rw [rangeD_eq]
      simp
      exact Nat.lt_of_lt_of_le (Nat.lt_succ_self s) (hz _ (by omega))
    · have e2 : rangeD 0 s ++ [D.int (s : Int)] = rangeD 0 (s + 1) := by rw [rangeD_eq, rangeD_eq, List.range_succ, List.map_append]; rfl
      have e3 : (left.zipIdx.filter fun p => decide (p.2 ≠ k)).map (fun q => encL (clrF q.1 pivot s)) = (leftN left k pivot s).map encL := by unfold leftN; rw [List.map_map]; rfl
      have e4 : done.map (fun l => encL (clrF l pivot s)) ++ [encL pivot] = (doneN done pivot s).map encL := by unfold doneN; rw [List.map_append, List.map_map]; rfl
      rw [e2, e3, e4]
      exact hN _ ⟨_, _, _, _, _, _, _, _, _, rfl, I.step hs (by omega) (by omega) hb hk hp⟩
  · rintro ρ ⟨done, left, o6, o7, o8, o9, o10, o11, o12, rfl, I⟩
    have el : left = [] := List.length_eq_zero_iff.mp (by have := I.ll; omega)
    subst el
    walk_at "dv"
    exact ⟨by decide, h done I⟩
end Wk
end
section
set_option Elab.async false
set_option linter.all false
set_option maxRecDepth 100000
/-! D8: answer_of. -/
namespace Wk
open PySem PySem.Spec L3
local macro_rules | `(tactic| walk_at "dv") => `(tactic| simp only [q_dDef, q_sh0, List.map_cons, List.map_nil, List.cons_append, List.nil_append, q_dSq, q_dNext, q_dSet, q_dSetF, q_dSetO, q_dRet, q_dRetN, q_dIfS, q_dNever, q_dWhile, q_dFor, q_dPar, q_dAsg, q_dDrop,
  q_dFrz, q_dApp, q_dAppF, q_dPut, q_dPutF, q_dAttrN, q_dAttrFN, q_dFldN,
  List.getElem?_cons_zero, List.getElem?_cons_succ, List.set_cons_zero, List.set_cons_succ, q_setS0, q_setSc, q_setSs0, q_setSsc, q_setD0, q_setDc, q_wipe0, q_wipec,
  shOf_nil, shOf_c, shO_n, shO_s, shO_o, shO_i, alOf_nil, alOf_c, alO_n, alO_s, alO_o, alO_i, dVar_0, dVar_s, q_dC, q_dBin, q_dBinL, q_dTest, q_dChain, q_dNot, q_dNotV, q_dAnd, q_dAndV, q_dOr, q_dOrV, q_dIf, q_dNeg, q_dCall, q_dCallL, q_dCons, q_dNil, q_dStar, q_dLst, q_dTup, q_dLen, q_dxCons, q_dxNil, q_dxP, q_dxO, q_dYes,
  asInt_int, asBl_bl, asSeq_l, asSeq_t, asLst_l, asTup_t, asObj_o, arg1_, arg2_, arg3_, q_gDef, q_gMake, q_gI0, q_gI, gEq_int, gNe_int, q_gLen, q_gAbs, q_gMax2, q_gMin2, q_gInt_i, q_gInt_b, q_gTuple, q_gList, gIx_0, gIx_1, gIx_0l, gIx_1l, q_gCatL, q_gRepL, q_gCatT, q_gRepT, isi_, isi_int_int, isi_bool_int, isi_tup_tup, isiT_, isiT_lst, isiT_tup, isC_, isCK_o, q_dSeqI, q_dEnumI, q_dZip2, q_dZip3, q_dRng1, q_dRng2, q_dLc, q_gIsB, q_gNotB, q_dSlL, q_dSlT, q_dNoP, q_dSoP,
  List.length_cons, List.length_nil, true_and, and_true, Bool.not_true, Bool.not_false, if_true, Bool.false_eq_true, if_false])
open Mx (S)
theorem for_at {α : Type} {td : DG} {tb : DS} {E : DEnds} {enc : α → D} {xs : List α} {ρ : EnvS} (P : Nat → EnvS → Prop) (h0 : P 0 ρ) (hs : ∀ (i : Nat) (x : α) ρ, xs[i]? = some x → P i ρ → ∃ asg, td (enc x) = some asg ∧ ∀ N : EnvS → Prop, (∀ ρ', P (i + 1) ρ' → N ρ') → tb { E with nx := N, ct := N, bk := E.nx } (setS ρ asg))
    (hd : ∀ ρ, P xs.length ρ → E.nx ρ) : dForL td tb E (xs.map enc) ρ := by
  refine for_of (fun (ys : List α) ρ => ∃ i, i ≤ xs.length ∧ ys = xs.drop i ∧ P i ρ) ⟨0, Nat.zero_le _, rfl, h0⟩ ?_ ?_
  · rintro x ys ρ ⟨i, hi, e, p⟩
    have hlt : i < xs.length := by
      by_cases h : i < xs.length
      · exact h
      · rw [List.drop_eq_nil_of_le (by omega)] at e; cases e
    rw [List.drop_eq_getElem_cons hlt] at e
    obtain ⟨e1, e2⟩ := List.cons.inj e
    have hx : xs[i]? = some x := by rw [List.getElem?_eq_getElem hlt, e1]
    obtain ⟨asg, ea, q⟩ := hs i x ρ hx p
    exact ⟨asg, ea, fun N hN => q N fun ρ' h' => hN ρ' ⟨i + 1, hlt, e2, h'⟩⟩
  · rintro ρ ⟨i, hi, e, p⟩
    have : i = xs.length := by
      by_cases h : i < xs.length
      · rw [List.drop_eq_getElem_cons h] at e; cases e
      · omega
    subst this
    exact hd ρ p
theorem zip_range {α : Type} {enc : α → D} : ∀ (xs : List α) (m : Nat), zipD (xs.map enc) ((List.range' m xs.length).map fun (i : Nat) => D.int (i : Int)) = (xs.zipIdx m).map fun p => D.tup [enc p.1, .int ((p.2 : Nat) : Int)]
  | [], _ => rfl
  | x :: xs, m => by
    rw [List.length_cons, List.range'_succ, List.zipIdx_cons, List.map_cons, List.map_cons, List.map_cons, ← zip_range xs (m + 1)]
    rfl
theorem bar_nil {n : Int} {Q : DK} (h : Q .non) : p_bar_from [.int n, .lst []] Q := by
  unfold p_bar_from t_bar_from
  walk_at "dv"
  unfold dForL
  walk_at "dv"
  exact h
theorem lcm_step {a : Nat} {p : Int} (ha : 0 < a) (hp : p ≠ 0) : ∃ c : Nat, ((a : Int) / ((Nat.gcd a p.natAbs : Nat) : Int)) * (p.natAbs : Int) = (c : Int) ∧ 0 < c ∧ a ∣ c ∧ p.natAbs ∣ c ∧ c ≤ a * p.natAbs := by
  have hp' : 0 < p.natAbs := by omega
  refine ⟨a / Nat.gcd a p.natAbs * p.natAbs, ?_, ?_, ?_, Nat.dvd_mul_left _ _, ?_⟩
  · rw [Int.natCast_mul, Int.natCast_ediv]
  · exact Nat.mul_pos (Nat.div_pos (Nat.gcd_le_left _ ha) (Nat.gcd_pos_of_pos_left _ ha)) hp'
  · obtain ⟨k, hk⟩ := Nat.gcd_dvd_right a p.natAbs
    obtain ⟨m, hm⟩ := Nat.gcd_dvd_left a p.natAbs
    have g0 : 0 < Nat.gcd a p.natAbs := Nat.gcd_pos_of_pos_left _ ha
    refine ⟨k, ?_⟩
    have : a / Nat.gcd a p.natAbs = m := by
      conv => lhs; lhs; rw [hm]
      exact Nat.mul_div_cancel_left m g0
    rw [this]
    conv => lhs; rhs; rw [hk]
    conv => rhs; lhs; rw [hm]
    rw [← Nat.mul_assoc, Nat.mul_comm m]
  · exact Nat.mul_le_mul_right _ (Nat.div_le_self _ _)
theorem sign_mul {p : Int} (hp : p ≠ 0) {sc : Nat} (hd : p.natAbs ∣ sc) (m : Int) : m * ((sc : Int) / ((p.natAbs : Nat) : Int)) * (if 0 < p then 1 else -1) * p = m * sc := by
  obtain ⟨k, rfl⟩ := hd
  have h0 : ((p.natAbs : Nat) : Int) ≠ 0 := by omega
  rw [Int.natCast_mul, Int.mul_ediv_cancel_left _ h0]
  by_cases h : 0 < p
  · rw [if_pos h, Int.mul_one, show ((p.natAbs : Nat) : Int) = p by omega, Int.mul_assoc, Int.mul_comm (k : Int) p]
  · rw [if_neg h, show ((p.natAbs : Nat) : Int) = -p by omega]
    grind
/-- what the answer says: numbers over a scale are the solution -/
structure Ans (n B : Nat) (x : Nat → Rat) (sc : Int) (ns : List Int) : Prop where
  pos : 0 < sc
  len : ns.length = n
  val : ∀ j, j < n → (gi ns j : Rat) = x j * (sc : Rat)
  ssm : sc.natAbs < 2 ^ (n * B + 1)
  nsm : Sm (B + (n * B + 1)) ns
theorem rep_flat : ∀ n : Nat, (List.replicate n [D.int 0]).flatten = dis (List.replicate n 0)
  | 0 => rfl
  | n + 1 => by
    rw [List.replicate_succ, List.flatten_cons, rep_flat n, List.replicate_succ]
    rfl
theorem ixN_nat {L i : Nat} (h : i < L) : L2.ixN L (i : Int) = some i := by
  have h1 : (0 : Int) ≤ (i : Int) := by omega
  have h2 : (i : Int) < (L : Int) := by omega
  simp [L2.ixN, h1, h2, h]
theorem gi_set {l : List Int} {i j : Nat} {m : Int} (hi : i < l.length) : gi (l.set i m) j = if j = i then m else gi l j := by
  unfold gi
  rw [List.getD_eq_getElem?_getD, List.getD_eq_getElem?_getD, List.getElem?_set]
  by_cases h : j = i
  · subst h
    rw [if_pos rfl, if_pos rfl, if_pos hi]
    rfl
  · rw [if_neg (Ne.symm h), if_neg h]
theorem gIx_e {l : List Int} {i : Nat} {Q : DK} (h : i < l.length) : gIx (encL l) (.int (i : Int)) Q = Q (.int (gi l i)) := gIx_l h
theorem gcdL_pair {a : Nat} {p : Int} : gcdL 0 [(a : Int), p] = Nat.gcd a p.natAbs := by simp [gcdL]
theorem answer_from_ok {n b : Nat} {x : Nat → Rat} {rows : List (List Int × Int)} {done : List (List Int)} (hn0 : 0 < n) (hn9 : n ≤ 100) (hb1 : 1 ≤ b) (hb : n * b + 1 ≤ 8000) (I : Inv n (2 * n + 1) b n x rows done []) (hx : Solves n rows x) {Q : DK} (h : ∀ sc ns, Ans n b x sc ns → Q (encR sc ns)) :
    p_answer_from [.int (n : Int), .lst (done.map encL), .lst (rangeD 0 n)] Q := by
  have hz : ∀ m : Nat, m ≤ 1000 → m ≤ sizeLine := fun m => line_ok
  have hnb : n * b ≤ 8000 := by omega
  have hbn : b ≤ n * b := Nat.le_mul_of_pos_left b hn0
  have hzip : zipD (done.map encL) (rangeD 0 n) = done.zipIdx.map fun p => D.tup [encL p.1, .int ((p.2 : Nat) : Int)] := by
    rw [rangeD_eq, List.range_eq_range', ← I.ld]
    exact zip_range done 0
  have at_ : ∀ {i : Nat} {q : List Int × Nat}, done.zipIdx[i]? = some q → done[i]? = some q.1 ∧ q.2 = i ∧ i < n := fun {i q} e => by
    rw [List.getElem?_zipIdx] at e
    obtain ⟨l, e1, rfl⟩ := Option.map_eq_some_iff.mp e
    exact ⟨e1, by simp, by rw [← I.ld]; exact (List.getElem?_eq_some_iff.mp e1).1⟩
  have line : ∀ {i : Nat} {l : List Int}, done[i]? = some l → l.length = 2 * n + 1 ∧ Sm b l ∧ gi l i ≠ 0 ∧ (gi l i : Rat) * x i = (gi l n : Rat) := fun {i l} e => by
    have hm : l ∈ done ++ [] := List.mem_append_left _ (List.mem_of_getElem? e)
    have hi : i < n := by rw [← I.ld]; exact (List.getElem?_eq_some_iff.mp e).1
    obtain ⟨d1, d2⟩ := I.dg i l e
    refine ⟨I.len l hm, I.sm l hm, d1, ?_⟩
    rw [← I.so hx l hm]
    unfold dot
    rw [Mx.S_one hi fun j hj hji => by rw [d2 j hj hji]; simp]
  unfold p_answer_from t_answer_from
  walk_at "dv"
  rw [hzip]
  refine for_at (fun i ρ => ∃ (sc : Nat) (o4 o5 o6 : Option L3.S), ρ = [some (.sh (.int (n : Int))), some (.sh (.lst (done.map encL))), some (.sh (.lst (rangeD 0 n))), some (.sh (.int (sc : Int))), o4, o5, o6] ∧ 0 < sc ∧ sc < 2 ^ (i * b + 1) ∧ ∀ j l, j < i → done[j]? = some l → (gi l j).natAbs ∣ sc)
    ⟨1, none, none, none, rfl, by decide, by simp, fun j l hj => by omega⟩ ?_ ?_
  · rintro i q ρ hq ⟨sc, o4, o5, o6, rfl, s0, s9, sd⟩
    obtain ⟨e1, e2, e3⟩ := at_ hq
    obtain ⟨l1, l2, l3, l4⟩ := line e1
    refine ⟨_, rfl, fun N hN => ?_⟩
    have hib : i * b + 1 ≤ 8000 := by
      have : i * b ≤ n * b := Nat.mul_le_mul_right b (by omega)
      omega
    walk_at "dv"
    rw [e2, gIx_e (by omega)]
    refine ⟨hz _ (by decide), divisor_seq (ns := [(sc : Int), gi q.1 i]) (.inr rfl) ?_⟩
    rw [gcdL_pair]
    obtain ⟨c, c1, c2, c3, c4, c5⟩ := lcm_step s0 l3
    have pb := l2.gi i
    have scb : sc < 2 ^ 8000 := Nat.lt_of_lt_of_le s9 (Nat.pow_le_pow_right (by decide) hib)
    have pb8 : (gi q.1 i).natAbs < 2 ^ 8000 := Nat.lt_of_lt_of_le pb (Nat.pow_le_pow_right (by decide) (by omega))
    have g0 : 0 < Nat.gcd sc (gi q.1 i).natAbs := Nat.gcd_pos_of_pos_left _ s0
    walk_at "dv"
    refine ⟨divB g0 (Nat.lt_of_le_of_lt (Nat.gcd_le_left _ s0) scb), ?_⟩
    rw [gIx_e (by omega)]
    walk_at "dv"
    rw [abs_if]
    refine ⟨mulB (Nat.lt_of_le_of_lt (Int.natAbs_ediv_le_natAbs _ _) (by simpa using scb)) (by simpa using pb8), ?_⟩
    rw [c1]
    refine hN _ ⟨c, _, _, _, rfl, c2, ?_, fun j l hj hl => ?_⟩
    · refine Nat.lt_of_le_of_lt c5 ?_
      rw [show (i + 1) * b + 1 = (i * b + 1) + b by rw [Nat.succ_mul]; omega, Nat.pow_add]
      exact Nat.mul_lt_mul'' s9 pb
    · by_cases hji : j = i
      · subst hji
        rw [e1] at hl
        cases hl
        exact c4
      · exact Nat.dvd_trans (sd j l (by omega) hl) c3
  · rintro ρ ⟨sc, o4, o5, o6, rfl, s0, s9, sd⟩
    rw [List.length_zipIdx, I.ld] at s9 sd
    have scb : sc < 2 ^ 8001 := Nat.lt_of_lt_of_le s9 (Nat.pow_le_pow_right (by decide) (by omega))
    walk_at "dv"
    rw [Int.toNat_natCast]
    refine ⟨hz _ (by decide), by omega, by omega, by simp; exact hz _ (by omega), ?_⟩
    rw [hzip]
    refine for_at (fun i ρ => ∃ (nums : List Int) (o4 o5 : Option L3.S), ρ = [some (.sh (.int (n : Int))), some (.sh (.lst (done.map encL))), some (.sh (.lst (rangeD 0 n))), some (.sh (.int (sc : Int))), o4, o5, some (.ow (dis nums))] ∧ nums.length = n ∧ (∀ j, j < i → (gi nums j : Rat) = x j * (sc : Rat)) ∧ Sm (b + (n * b + 1)) nums)
      ⟨List.replicate n 0, o4, o5, ?_, by simp, fun j hj => by omega, fun m hm => by rw [List.eq_of_mem_replicate hm]; exact Nat.two_pow_pos _⟩ ?_ ?_
    · rw [rep_flat]
    · rintro i q ρ hq ⟨nums, o4, o5, rfl, n1, n2, n3⟩
      obtain ⟨e1, e2, e3⟩ := at_ hq
      obtain ⟨l1, l2, l3, l4⟩ := line e1
      refine ⟨_, rfl, fun N hN => ?_⟩
      walk_at "dv"
      rw [e2, gIx_e (by omega)]
      walk_at "dv"
      rw [gIx_e (by omega)]
      walk_at "dv"
      rw [abs_if]
      have pd := sd i q.1 e3 e1
      have p0 : 0 < (gi q.1 i).natAbs := by omega
      have dle : ((sc : Int) / ((gi q.1 i).natAbs : Int)).natAbs ≤ sc := by
        have := Int.natAbs_ediv_le_natAbs (sc : Int) ((gi q.1 i).natAbs : Int)
        simpa using this
      have ple : (gi q.1 i).natAbs ≤ sc := Nat.le_of_dvd s0 pd
      have dlt : ((sc : Int) / ((gi q.1 i).natAbs : Int)).natAbs < 2 ^ (n * b + 1) := Nat.lt_of_le_of_lt dle s9
      have mlt : (gi q.1 n * ((sc : Int) / ((gi q.1 i).natAbs : Int))).natAbs < 2 ^ (b + (n * b + 1)) := L2.wide_lt (l2.gi n) dlt
      have up : ∀ {z : Int} {e : Nat}, e ≤ 16001 → z.natAbs < 2 ^ e → z.natAbs < 2 ^ 16001 := fun he hz => Nat.lt_of_lt_of_le hz (Nat.pow_le_pow_right (by decide) he)
      refine ⟨divB p0 (Nat.lt_of_le_of_lt ple scb), mulB (up (by omega) (l2.gi n)) (up (by omega) dlt), ?_⟩
      rw [gIx_e (by omega)]
      walk_at "dv"
      have fin : ∀ sg : Int, sg = (if 0 < gi q.1 i then 1 else -1) → N [some (.sh (.int (n : Int))), some (.sh (.lst (done.map encL))), some (.sh (.lst (rangeD 0 n))), some (.sh (.int (sc : Int))), some (.sh (encL q.1)), some (.sh (.int (i : Int))),
          some (.ow ((dis nums).set i (.int (gi q.1 n * ((sc : Int) / ((gi q.1 i).natAbs : Int)) * sg))))] := fun sg hsg => by
        have hm := sign_mul l3 pd (gi q.1 n)
        rw [← hsg] at hm
        have sg1 : sg.natAbs = 1 := by rw [hsg]; split <;> rfl
        have mb : (gi q.1 n * ((sc : Int) / ((gi q.1 i).natAbs : Int)) * sg).natAbs < 2 ^ (b + (n * b + 1)) := by
          rw [Int.natAbs_mul, sg1, Nat.mul_one]
          exact mlt
        generalize gi q.1 n * ((sc : Int) / ((gi q.1 i).natAbs : Int)) * sg = m at hm mb ⊢
        refine hN _ ⟨nums.set i m, _, _, by unfold dis; rw [List.map_set], by simpa using n1, fun j hj => ?_, fun z hz' => ?_⟩
        · rw [gi_set (by omega)]
          by_cases hji : j = i
          · subst hji
            rw [if_pos rfl]
            have hmr := congrArg (fun z : Int => (z : Rat)) hm
            simp only [Rat.intCast_mul] at hmr
            have p0' : (gi q.1 j : Rat) ≠ 0 := by simpa using l3
            rw [← l4] at hmr
            have hsr2 : ((sc : Nat) : Rat) = ((sc : Int) : Rat) := (Rat.intCast_natCast sc).symm
            rw [hsr2]
            grind
          · rw [if_neg hji]
            exact n2 j (by omega)
        · rcases List.mem_or_eq_of_mem_set hz' with h | h
          · exact n3 z h
          · rw [h]; exact mb
      by_cases hpos : 0 < gi q.1 i
      · rw [if_pos (decide_eq_true hpos)]
        exact ⟨mulB (up (by omega) mlt) (by decide : (1 : Int).natAbs < 2 ^ 1), i, ixN_nat (by rw [dis_len]; omega), fin 1 (by rw [if_pos hpos])⟩
      · rw [if_neg (by simpa using hpos)]
        exact ⟨mulB (up (by omega) mlt) (by decide : (-1 : Int).natAbs < 2 ^ 1), i, ixN_nat (by rw [dis_len]; omega), fin (-1) (by rw [if_neg hpos])⟩
    · rintro ρ ⟨nums, o4, o5, rfl, n1, n2, n3⟩
      rw [List.length_zipIdx, I.ld] at n2
      walk_at "dv"
      have st : 0 < (sc : Int) := by omega
      refine least_pair_ok (.inl rfl) (by omega) st (by
        rw [Int.toNat_natCast]
        exact Nat.lt_of_lt_of_le scb (Nat.pow_le_pow_right (by decide) (by decide))) ?_
      obtain ⟨g0, g1⟩ := gcdL_head (ns := nums) st
      obtain ⟨d1, d2⟩ := gcdL_dvd ((sc : Int) :: nums) 0
      obtain ⟨g, hg⟩ : ∃ g, g = gcdL 0 ((sc : Int) :: nums) := ⟨_, rfl⟩
      rw [← hg] at g0 g1 d2 ⊢
      have gR : (((g : Nat) : Int) : Rat) ≠ 0 := by simp; omega
      obtain ⟨u, hu⟩ := d2 (sc : Int) (List.mem_cons_self ..)
      have hsc : (sc : Int) / (g : Int) = u := by rw [hu]; exact Int.mul_ediv_cancel_left _ (by omega)
      refine h _ _ ⟨?_, by simpa using n1, fun j hj => ?_, ?_, ?_⟩
      · rw [hsc]
        have h1 : 0 < (g : Int) * u := by omega
        refine Classical.byContradiction fun hn => ?_
        have h2 : (g : Int) * u ≤ (g : Int) * 0 := Int.mul_le_mul_of_nonneg_left (by omega) (by omega)
        omega
      · have ej := gi_get (l := nums) (i := j) (by omega)
        obtain ⟨v, hv⟩ := d2 (gi nums j) (List.mem_cons_of_mem _ (List.mem_of_getElem? ej))
        rw [gi_map ej, hsc, hv, Int.mul_ediv_cancel_left _ (by omega)]
        have := n2 j hj
        rw [hv] at this
        have hsr : ((sc : Int) : Rat) = ((g : Nat) : Int) * u := by rw [hu, Rat.intCast_mul]
        rw [Rat.intCast_mul] at this
        have hsr2 : ((sc : Nat) : Rat) = ((sc : Int) : Rat) := (Rat.intCast_natCast sc).symm
        rw [hsr2, hsr] at this
        grind
      · have := Int.natAbs_ediv_le_natAbs (sc : Int) (g : Int)
        exact Nat.lt_of_le_of_lt (by simpa using this) s9
      · intro m hm
        obtain ⟨z, hz', rfl⟩ := List.mem_map.mp hm
        exact Nat.lt_of_le_of_lt (Int.natAbs_ediv_le_natAbs _ _) (n3 z hz')
end Wk
end
section
set_option Elab.async false
set_option linter.all false
set_option maxRecDepth 100000
/-! D9: answer_of; multiple_of. -/
namespace Wk
open PySem PySem.Spec L3
local macro_rules | `(tactic| walk_at "dv") => `(tactic| simp only [q_dDef, q_sh0, List.map_cons, List.map_nil, List.cons_append, List.nil_append, q_dSq, q_dNext, q_dSet, q_dSetF, q_dSetO, q_dRet, q_dRetN, q_dIfS, q_dNever, q_dWhile, q_dFor, q_dPar, q_dAsg, q_dDrop,
  q_dFrz, q_dApp, q_dAppF, q_dPut, q_dPutF, q_dAttrN, q_dAttrFN, q_dFldN,
  List.getElem?_cons_zero, List.getElem?_cons_succ, List.set_cons_zero, List.set_cons_succ, q_setS0, q_setSc, q_setSs0, q_setSsc, q_setD0, q_setDc, q_wipe0, q_wipec,
  shOf_nil, shOf_c, shO_n, shO_s, shO_o, shO_i, alOf_nil, alOf_c, alO_n, alO_s, alO_o, alO_i, dVar_0, dVar_s, q_dC, q_dBin, q_dBinL, q_dTest, q_dChain, q_dNot, q_dNotV, q_dAnd, q_dAndV, q_dOr, q_dOrV, q_dIf, q_dNeg, q_dCall, q_dCallL, q_dCons, q_dNil, q_dStar, q_dLst, q_dTup, q_dLen, q_dxCons, q_dxNil, q_dxP, q_dxO, q_dYes,
  asInt_int, asBl_bl, asSeq_l, asSeq_t, asLst_l, asTup_t, asObj_o, arg1_, arg2_, arg3_, q_gDef, q_gMake, q_gI0, q_gI, gEq_int, gNe_int, q_gLen, q_gAbs, q_gMax2, q_gMin2, q_gInt_i, q_gInt_b, q_gTuple, q_gList, gIx_0, gIx_1, gIx_0l, gIx_1l, q_gCatL, q_gRepL, q_gCatT, q_gRepT, isi_, isi_int_int, isi_bool_int, isi_tup_tup, isiT_, isiT_lst, isiT_tup, isC_, isCK_o, q_dSeqI, q_dEnumI, q_dZip2, q_dZip3, q_dRng1, q_dRng2, q_dLc, q_gIsB, q_gNotB, q_dSlL, q_dSlT, q_dNoP, q_dSoP,
  List.length_cons, List.length_nil, true_and, and_true, Bool.not_true, Bool.not_false, if_true, Bool.false_eq_true, if_false])
open Mx (S)
theorem gIsN_nn {Q : DK} : gIsN .non .non Q = Q (.bl true) := Qiff ⟨fun h => h.2, fun h => ⟨rfl, h⟩⟩
theorem answer_ok {n b : Nat} {rows : List (List Int × Int)} {x : Nat → Rat} (Y : Sys n b rows) (hx : Solves n rows x) (h8 : n * bnd b n + 1 ≤ 8000) {Q : DK} (h : ∀ sc ns, Ans n (bnd b n) x sc ns → Q (encR sc ns)) : p_answer_of [.lst (rows.map encEq)] Q := by
  obtain ⟨r0, rows', er⟩ : ∃ r0 rows', rows = r0 :: rows' := by
    cases rows with
    | nil => have := Y.rn; have := Y.n0; simp at *; omega
    | cons r0 rs => exact ⟨r0, rs, rfl⟩
  have h0 : ∀ Q : DK, gIx (.lst (rows.map encEq)) (.int 0) Q = Q (encEq r0) := fun Q => by
    rw [er]
    exact gIx_0l
  have hr0 : r0.1.length = n := Y.cl r0 (by rw [er]; exact List.mem_cons_self ..)
  have hb1 : 1 ≤ bnd b n := Nat.le_trans Y.b1 (bnd_mono b (Nat.zero_le n))
  unfold p_answer_of t_answer_of
  walk_at "dv"
  rw [h0, encEq_0]
  walk_at "dv"
  rw [dis_len, hr0]
  refine stepped_ok (x := x) Y fun done I => ⟨_, rfl, ?_⟩
  walk_at "dv"
  refine bar_nil ?_
  rw [gIsN_nn]
  walk_at "dv"
  exact answer_from_ok Y.n0 Y.n9 hb1 h8 I hx h
/-- there is a solution -/
theorem Sys.ex {n b : Nat} {rows : List (List Int × Int)} (Y : Sys n b rows) : ∃ x, Solves n rows x := by
  have run : ∀ s, s ≤ n → ∃ done left, Inv n (2 * n + 1) (bnd b s) s (fun _ => 0) rows done left := fun s => by
    induction s with
    | zero => exact fun _ => ⟨_, _, Y.inv _⟩
    | succ s ih =>
      intro hs
      obtain ⟨done, left, I⟩ := ih (by omega)
      obtain ⟨l, hl, h0⟩ := I.fit (by omega)
      obtain ⟨k, hk⟩ := List.getElem?_of_mem hl
      exact ⟨_, _, I.step (by omega) (by omega) (by have := Y.n9; omega) (Nat.le_trans (bnd_mono b (by omega)) Y.b9) hk h0⟩
  obtain ⟨done, left, I⟩ := run n (Nat.le_refl n)
  have el : left = [] := List.length_eq_zero_iff.mp (by have := I.ll; omega)
  subst el
  refine ⟨fun j => (gi (done.getD j []) n : Rat) / (gi (done.getD j []) j : Rat), I.ba _ fun l hl => ?_⟩
  rw [List.append_nil] at hl
  obtain ⟨k, hk⟩ := List.getElem?_of_mem hl
  have hkn : k < n := by rw [← I.ld]; exact (List.getElem?_eq_some_iff.mp hk).1
  obtain ⟨d1, d2⟩ := I.dg k l hk
  unfold dot
  rw [Mx.S_one hkn fun j hj hjk => by rw [d2 j hj hjk]; simp]
  have ed : done.getD k [] = l := by rw [List.getD_eq_getElem?_getD, hk]; rfl
  show (gi l k : Rat) * ((gi (done.getD k []) n : Rat) / (gi (done.getD k []) k : Rat)) = (gi l n : Rat)
  rw [ed]
  have d1' : (gi l k : Rat) ≠ 0 := by simpa using d1
  grind
/-- a common multiple -/
theorem multiple_ok {ms : List Nat} {x : D} {b : Nat} (hx : x = .lst (dis (ms.map fun (m : Nat) => (m : Int))) ∨ x = .tup (dis (ms.map fun (m : Nat) => (m : Int)))) (hm : ∀ m ∈ ms, 0 < m ∧ m < 2 ^ b) (hb : ms.length * b + 1 ≤ 8000) {Q : DK} (h : ∀ c : Nat, 0 < c → c < 2 ^ (ms.length * b + 1) → (∀ m ∈ ms, m ∣ c) → Q (.int (c : Int))) : p_multiple_of [x] Q := by
  have hx' : ∀ k, asSeq x k = k (ms.map fun (m : Nat) => D.int (m : Int)) := fun k => by
    have e : dis (ms.map fun (m : Nat) => (m : Int)) = ms.map fun (m : Nat) => D.int (m : Int) := by unfold dis; rw [List.map_map]; rfl
    rw [← e]
    rcases hx with rfl | rfl <;> rfl
  unfold p_multiple_of t_multiple_of
  walk_at "dv"
  rw [hx']
  refine for_at (fun i ρ => ∃ (c : Nat) (o : Option L3.S), ρ = [some (.sh x), some (.sh (.int (c : Int))), o] ∧ 0 < c ∧ c < 2 ^ (i * b + 1) ∧ ∀ j m, j < i → ms[j]? = some m → m ∣ c) ⟨1, none, rfl, by decide, by simp, fun j m hj => by omega⟩ ?_ ?_
  · rintro i m ρ hi ⟨c, o, rfl, c0, c9, cd⟩
    have hmem := List.mem_of_getElem? hi
    obtain ⟨m0, mb⟩ := hm m hmem
    have hil := (List.getElem?_eq_some_iff.mp hi).1
    have hib : (i + 1) * b ≤ ms.length * b := Nat.mul_le_mul_right b (by omega)
    have hib2 : (i + 1) * b = i * b + b := Nat.succ_mul i b
    refine ⟨_, rfl, fun N hN => ?_⟩
    walk_at "dv"
    refine ⟨line_ok (by decide), divisor_seq (ns := [(c : Int), (m : Int)]) (.inr rfl) ?_⟩
    rw [gcdL_pair]
    obtain ⟨e, e1, e2, e3, e4, e5⟩ := lcm_step (p := (m : Int)) c0 (by omega)
    have cb : c < 2 ^ 8000 := Nat.lt_of_lt_of_le c9 (Nat.pow_le_pow_right (by decide) (by omega))
    have mb8 : m < 2 ^ 8000 := Nat.lt_of_lt_of_le mb (Nat.pow_le_pow_right (by decide) (by omega))
    walk_at "dv"
    refine ⟨divB (Nat.gcd_pos_of_pos_left _ c0) (Nat.lt_of_le_of_lt (Nat.gcd_le_left _ c0) cb), mulB (Nat.lt_of_le_of_lt (Int.natAbs_ediv_le_natAbs _ _) (by simpa using cb)) (by simpa using mb8), ?_⟩
    simp only [Int.natAbs_natCast] at e1 e4 e5 ⊢
    rw [e1]
    refine hN _ ⟨e, _, rfl, e2, ?_, fun j z hj hz => ?_⟩
    · refine Nat.lt_of_le_of_lt e5 ?_
      rw [show (i + 1) * b + 1 = (i * b + 1) + b by omega, Nat.pow_add]
      exact Nat.mul_lt_mul'' c9 mb
    · by_cases hji : j = i
      · subst hji
        rw [hi] at hz
        cases hz
        exact e4
      · exact Nat.dvd_trans (cd j z (by omega) hz) e3
  · rintro ρ ⟨c, o, rfl, c0, c9, cd⟩
    walk_at "dv"
    refine h c c0 c9 fun m hm => ?_
    obtain ⟨j, hj⟩ := List.getElem?_of_mem hm
    exact cd j m (List.getElem?_eq_some_iff.mp hj).1 hj
end Wk
end
section
set_option Elab.async false
set_option linter.all false
set_option maxRecDepth 100000
/-! D10: ratios in rows, houses. -/
namespace Wk
open PySem PySem.Spec L3
local macro_rules | `(tactic| walk_at "dv") => `(tactic| simp only [q_dDef, q_sh0, List.map_cons, List.map_nil, List.cons_append, List.nil_append, q_dSq, q_dNext, q_dSet, q_dSetF, q_dSetO, q_dRet, q_dRetN, q_dIfS, q_dNever, q_dWhile, q_dFor, q_dPar, q_dAsg, q_dDrop,
  q_dFrz, q_dApp, q_dAppF, q_dPut, q_dPutF, q_dAttrN, q_dAttrFN, q_dFldN,
  List.getElem?_cons_zero, List.getElem?_cons_succ, List.set_cons_zero, List.set_cons_succ, q_setS0, q_setSc, q_setSs0, q_setSsc, q_setD0, q_setDc, q_wipe0, q_wipec,
  shOf_nil, shOf_c, shO_n, shO_s, shO_o, shO_i, alOf_nil, alOf_c, alO_n, alO_s, alO_o, alO_i, dVar_0, dVar_s, q_dC, q_dBin, q_dBinL, q_dTest, q_dChain, q_dNot, q_dNotV, q_dAnd, q_dAndV, q_dOr, q_dOrV, q_dIf, q_dNeg, q_dCall, q_dCallL, q_dCons, q_dNil, q_dStar, q_dLst, q_dTup, q_dLen, q_dxCons, q_dxNil, q_dxP, q_dxO, q_dYes,
  asInt_int, asBl_bl, asSeq_l, asSeq_t, asLst_l, asTup_t, asObj_o, arg1_, arg2_, arg3_, q_gDef, q_gMake, q_gI0, q_gI, gEq_int, gNe_int, q_gLen, q_gAbs, q_gMax2, q_gMin2, q_gInt_i, q_gInt_b, q_gTuple, q_gList, gIx_0, gIx_1, gIx_0l, gIx_1l, q_gCatL, q_gRepL, q_gCatT, q_gRepT, isi_, isi_int_int, isi_bool_int, isi_tup_tup, isiT_, isiT_lst, isiT_tup, isC_, isCK_o, q_dSeqI, q_dEnumI, q_dZip2, q_dZip3, q_dRng1, q_dRng2, q_dLc, q_gIsB, q_gNotB, q_dSlL, q_dSlT, q_dNoP, q_dSoP,
  List.length_cons, List.length_nil, true_and, and_true, Bool.not_true, Bool.not_false, if_true, Bool.false_eq_true, if_false])
theorem is_index_ok {i m : Int} {Q : DK} (h0 : 0 ≤ i) (h1 : i < m) (h : Q (.bl true)) : p_is_index [.int i, .int m] Q := by
  unfold p_is_index t_is_index
  walk_at "dv"
  refine is_between_int ?_
  rw [decide_eq_true h0, decide_eq_true (by omega)]
  exact h
theorem is_ratio_ok {q : Rat} {Q : DK} (h : Q (.bl true)) : p_is_ratio [rt q] Q := by
  have hd : 0 < q.den := q.den_pos
  unfold p_is_ratio t_is_ratio rt pr
  walk_at "dv"
  refine is_number_int ?_
  walk_at "dv"
  refine is_number_int ?_
  walk_at "dv"
  rw [if_pos (decide_eq_true (by omega))]
  refine divisor_seq (ns := [q.num, (q.den : Int)]) (.inr rfl) ?_
  rw [gcdL_two, show Nat.gcd q.num.natAbs q.den = 1 from q.reduced]
  walk_at "dv"
  exact h
theorem are_ratios_ok {qs : List Rat} {many : Int} {Q : DK} (hl : (qs.length : Int) = many) (h0 : qs.length ≤ 1000) (h : Q (.bl true)) : p_are_ratios [.tup (qs.map rt), .int many] Q := by
  unfold p_are_ratios t_are_ratios
  walk_at "dv"
  rw [List.length_map, len_eq hl, if_pos rfl]
  refine lc_of (f := fun _ => D.bl true) (fun q _ => ⟨_, rfl, fun Q h => ?_⟩) (by simpa using line_ok h0) ?_
  · walk_at "dv"
    exact is_ratio_ok h
  · rw [List.nil_append]
    refine gAll_m (p := fun _ => true) ?_
    rw [show (qs.all fun _ => true) = true by simp]
    exact h
theorem zip_map {α β : Type} {f : α → D} {g : β → D} : ∀ (a : List α) (b : List β), zipD (a.map f) (b.map g) = (a.zip b).map fun p => D.tup [f p.1, g p.2]
  | [], _ => rfl
  | _ :: _, [] => rfl
  | x :: a, y :: b => by
    show D.tup [f x, g y] :: zipD (a.map f) (b.map g) = _
    rw [zip_map a b]
    rfl
/-- the mean of values by a row -/
def meanR (t : Nat) (ns : List Int) (vs : List Rat) : Rat := sumR ((ns.zip vs).map fun p => p.2 * mkRat p.1 t)
theorem mean_ok {t : Nat} {ns : List Int} {vs : List Rat} {x : D} {Q : DK} (hx : x = .lst (vs.map rt) ∨ x = .tup (vs.map rt)) (hn : ∀ n ∈ ns, Sz n t) (hv : ∀ v ∈ vs, RSz v) (hl : ns.length ≤ 1000) (hs : SumSz 0 ((ns.zip vs).map fun p => p.2 * mkRat p.1 t)) (h : Q (rt (meanR t ns vs))) :
    p_mean_by [encR t ns, x] Q := by
  have hx' : ∀ k, asSeq x k = k (vs.map rt) := fun k => by rcases hx with rfl | rfl <;> rfl
  unfold p_mean_by t_mean_by encR
  walk_at "dv"
  refine ⟨_, rfl, ?_⟩
  walk_at "dv"
  rw [hx', show dis ns = ns.map D.int from rfl, zip_map]
  refine lc_of (f := fun p => rt (p.2 * mkRat p.1 t)) (fun p hp => ⟨_, rfl, fun Q h => ?_⟩) (by simp; exact line_ok (by omega)) ?_
  · have h1 := hn _ (List.of_mem_zip hp).1
    have h2 := hv _ (List.of_mem_zip hp).2
    walk_at "dv"
    refine ⟨line_ok (by decide), ?_⟩
    exact product_ok (a := p.2.num) (b := p.2.den) (c := p.1) (d := t) h2 h1 (by rw [Rat.mkRat_self]; exact h)
  · rw [List.nil_append]
    refine total_ok (.inl ?_) hs h
    rw [List.map_map]
    rfl
/-! ### houses -/
abbrev Row := Int × List Int
def encRow (r : Row) : D := encR r.1 r.2
/-- a good row: n numbers, less than the total together -/
structure RowOk (n b : Nat) (r : Row) : Prop where
  len : r.2.length = n
  nn : ∀ m ∈ r.2, 0 ≤ m
  lt : r.2.sum < r.1
  sm : r.1.natAbs < 2 ^ b
theorem sum_nn : ∀ {l : List Int}, (∀ m ∈ l, 0 ≤ m) → 0 ≤ l.sum
  | [], _ => by simp
  | x :: l, h => by
    have h1 := h x (List.mem_cons_self ..)
    have h2 := sum_nn (l := l) fun m hm => h m (List.mem_cons_of_mem _ hm)
    rw [List.sum_cons]
    omega
theorem le_sum : ∀ {l : List Int}, (∀ m ∈ l, 0 ≤ m) → ∀ m ∈ l, m ≤ l.sum
  | x :: l, h, m, hm => by
    have h1 := h x (List.mem_cons_self ..)
    have h2 := sum_nn (l := l) fun m hm => h m (List.mem_cons_of_mem _ hm)
    rw [List.sum_cons]
    rcases List.mem_cons.mp hm with rfl | hm
    · omega
    · have := le_sum (l := l) (fun m hm => h m (List.mem_cons_of_mem _ hm)) m hm
      omega
section
variable {n b : Nat} {r : Row}
theorem RowOk.pos (h : RowOk n b r) : 0 < r.1 := by
  have := sum_nn h.nn
  have := h.lt
  omega
theorem RowOk.num (h : RowOk n b r) : ∀ m ∈ r.2, 0 ≤ m ∧ m < r.1 ∧ m.natAbs < 2 ^ b := fun m hm => by
  have h1 := le_sum h.nn m hm
  have h2 := h.nn m hm
  have h3 := h.lt
  have h4 := h.sm
  exact ⟨h2, by omega, by omega⟩
end
/-- a row divided by its numbers' divisor -/
def lp (r : Row) : Row := (r.1 / (gcdL 0 (r.1 :: r.2) : Nat), r.2.map fun m => m / (gcdL 0 (r.1 :: r.2) : Nat))
theorem sum_div {g : Int} (hg : 0 < g) : ∀ {l : List Int}, (∀ m ∈ l, g ∣ m) → g * (l.map fun m => m / g).sum = l.sum
  | [], _ => by simp
  | x :: l, h => by
    rw [List.map_cons, List.sum_cons, List.sum_cons, Int.mul_add, sum_div hg fun m hm => h m (List.mem_cons_of_mem _ hm), Int.mul_ediv_cancel' (h x (List.mem_cons_self ..))]
theorem lp_ok {n b : Nat} {r : Row} (h : RowOk n b r) : RowOk n b (lp r) ∧ ∃ g : Int, 0 < g ∧ r.1 = g * (lp r).1 ∧ ∀ j, gi r.2 j = g * gi (lp r).2 j := by
  obtain ⟨g0, g1⟩ := gcdL_head (ns := r.2) h.pos
  have dv := (gcdL_dvd (r.1 :: r.2) 0).2
  obtain ⟨g, hg⟩ : ∃ g, g = gcdL 0 (r.1 :: r.2) := ⟨_, rfl⟩
  have e1 : r.1 = (g : Int) * (lp r).1 := by unfold lp; rw [← hg]; exact (Int.mul_ediv_cancel' (hg ▸ dv _ (List.mem_cons_self ..))).symm
  have e2 : ∀ j, gi r.2 j = (g : Int) * gi (lp r).2 j := fun j => by
    unfold lp
    rw [← hg]
    by_cases hj : j < r.2.length
    · have e := gi_get hj
      show gi r.2 j = (g : Int) * gi (r.2.map fun m => m / ((g : Nat) : Int)) j
      rw [gi_map e]
      exact (Int.mul_ediv_cancel' (hg ▸ dv _ (List.mem_cons_of_mem _ (List.mem_of_getElem? e)))).symm
    · have z : ∀ l : List Int, l.length = r.2.length → gi l j = 0 := fun l hl => by
        unfold gi
        rw [List.getD_eq_getElem?_getD, List.getElem?_eq_none (by omega)]
        rfl
      show gi r.2 j = (g : Int) * gi (r.2.map fun m => m / ((g : Nat) : Int)) j
      rw [z _ rfl, z _ (by rw [List.length_map]), Int.mul_zero]
  have es : (g : Int) * (lp r).2.sum = r.2.sum := by
    unfold lp
    rw [← hg]
    exact sum_div (by omega) fun m hm => hg ▸ dv m (List.mem_cons_of_mem _ hm)
  have gp : (0 : Int) < g := by omega
  have hlt := h.lt
  rw [e1, ← es] at hlt
  have hlt2 : (lp r).2.sum < (lp r).1 := Int.lt_of_mul_lt_mul_left hlt (by omega)
  refine ⟨⟨by unfold lp; simp [h.len], fun m hm => ?_, hlt2, ?_⟩, g, gp, e1, e2⟩
  · unfold lp at hm
    obtain ⟨m0, hm0, rfl⟩ := List.mem_map.mp hm
    exact Int.ediv_nonneg (h.nn m0 hm0) (by omega)
  · have : (lp r).1.natAbs ≤ r.1.natAbs := by unfold lp; exact Int.natAbs_ediv_le_natAbs _ _
    exact Nat.lt_of_le_of_lt this h.sm
end Wk
end
section
set_option Elab.async false
set_option linter.all false
set_option maxRecDepth 100000
/-! D11: House, its checks. -/
namespace Wk
open PySem PySem.Spec L3
local macro_rules | `(tactic| walk_at "dv") => `(tactic| simp only [q_dDef, q_sh0, List.map_cons, List.map_nil, List.cons_append, List.nil_append, q_dSq, q_dNext, q_dSet, q_dSetF, q_dSetO, q_dRet, q_dRetN, q_dIfS, q_dNever, q_dWhile, q_dFor, q_dPar, q_dAsg, q_dDrop,
  q_dFrz, q_dApp, q_dAppF, q_dPut, q_dPutF, q_dAttrN, q_dAttrFN, q_dFldN,
  List.getElem?_cons_zero, List.getElem?_cons_succ, List.set_cons_zero, List.set_cons_succ, q_setS0, q_setSc, q_setSs0, q_setSsc, q_setD0, q_setDc, q_wipe0, q_wipec,
  shOf_nil, shOf_c, shO_n, shO_s, shO_o, shO_i, alOf_nil, alOf_c, alO_n, alO_s, alO_o, alO_i, dVar_0, dVar_s, q_dC, q_dBin, q_dBinL, q_dTest, q_dChain, q_dNot, q_dNotV, q_dAnd, q_dAndV, q_dOr, q_dOrV, q_dIf, q_dNeg, q_dCall, q_dCallL, q_dCons, q_dNil, q_dStar, q_dLst, q_dTup, q_dLen, q_dxCons, q_dxNil, q_dxP, q_dxO, q_dYes,
  asInt_int, asBl_bl, asSeq_l, asSeq_t, asLst_l, asTup_t, asObj_o, arg1_, arg2_, arg3_, q_gDef, q_gMake, q_gI0, q_gI, gEq_int, gNe_int, q_gLen, q_gAbs, q_gMax2, q_gMin2, q_gInt_i, q_gInt_b, q_gTuple, q_gList, gIx_0, gIx_1, gIx_0l, gIx_1l, q_gCatL, q_gRepL, q_gCatT, q_gRepT, isi_, isi_int_int, isi_bool_int, isi_tup_tup, isiT_, isiT_lst, isiT_tup, isC_, isCK_o, q_dSeqI, q_dEnumI, q_dZip2, q_dZip3, q_dRng1, q_dRng2, q_dLc, q_gIsB, q_gNotB, q_dSlL, q_dSlT, q_dNoP, q_dSoP,
  List.length_cons, List.length_nil, true_and, and_true, Bool.not_true, Bool.not_false, if_true, Bool.false_eq_true, if_false])
theorem q_dIni {c : Nat} {nones : EnvS} {t : DS} {ds : List D} {Q : List D → Prop} : dIni c nones t ds Q = ∀ p dx : Addr, t { nx := fun ρ => ∃ fs, ρ[0]? = some (some (.oi p dx c fs)) ∧ Q fs, rt := fun _ => False } (some (.oi p dx c []) :: sh0 ds nones) := propext Iff.rfl
structure HouseOk (n b : Nat) (moves : List (List Row)) : Prop where
  len : moves.length = n
  n1 : 1 ≤ n
  n8 : n ≤ 8
  some_ : ∀ rs ∈ moves, 1 ≤ rs.length ∧ rs.length ≤ 3
  row : ∀ rs ∈ moves, ∀ r ∈ rs, RowOk n b r
def encRsL (rs : List Row) : D := .lst (rs.map encRow)
theorem encRsL_eq (rs : List Row) : encRsL rs = .lst (rs.map encRow) := rfl
def encRsT (rs : List Row) : D := .tup (rs.map encRow)
def encMoves (moves : List (List Row)) : D := .lst (moves.map encRsL)
def encHouse (moves : List (List Row)) : D := .obj 1 [.tup (moves.map encRsT), .int (moves.length : Int)]
theorem chance_ok {n b : Nat} {r : Row} (h : RowOk n b r) (hn : n ≤ 100) {Q : DK} (q : Q (.bl true)) : p_is_chance_row [.int (n : Int), encRow r] Q := is_chance_row_ok (by rw [h.len]) (by rw [h.len]; omega) h.nn (by have := h.pos; omega) (by have := h.lt; omega) q
theorem are_moves_ok {n b : Nat} {moves : List (List Row)} (H : HouseOk n b moves) {Q : DK} (q : Q (.bl true)) : p_are_moves [encMoves moves] Q := by
  have hn8 := H.n8
  unfold p_are_moves t_are_moves encMoves
  walk_at "dv"
  refine is_list_l ?_
  walk_at "dv"
  rw [List.length_map, H.len, if_pos (decide_eq_true (by have := H.n1; omega))]
  try walk_at "dv"
  rw [decide_eq_true (by omega)]
  walk_at "dv"
  refine for_of (fun (rss : List (List Row)) ρ => (∀ rs ∈ rss, rs ∈ moves) ∧ ∃ o1 o2 : Option L3.S, ρ = [some (.sh (.lst (moves.map encRsL))), o1, o2]) ⟨fun _ h => h, none, none, rfl⟩ ?_ ?_
  · rintro rs rss ρ ⟨hm, o1, o2, rfl⟩
    have hrs := hm rs (List.mem_cons_self ..)
    obtain ⟨l1, l3⟩ := H.some_ rs hrs
    refine ⟨_, rfl, fun N hN => ?_⟩
    walk_at "dv"
    rw [encRsL_eq rs]
    walk_at "dv"
    refine is_list_l ?_
    walk_at "dv"
    rw [List.length_map, if_pos (decide_eq_true (by omega))]
    try walk_at "dv"
    rw [decide_eq_true (by omega)]
    walk_at "dv"
    refine lc_of (f := fun _ => D.bl true) (fun r hr => ⟨_, rfl, fun Q h => ?_⟩) (by simp; exact line_ok (by omega)) ?_
    · walk_at "dv"
      rw [List.length_map, H.len]
      exact chance_ok (H.row rs hrs r hr) (by omega) h
    · rw [List.nil_append]
      refine gAll_m (p := fun _ => true) ?_
      rw [show (rs.all fun _ => true) = true by simp]
      walk_at "dv"
      exact hN _ ⟨fun x hx => hm x (List.mem_cons_of_mem _ hx), _, _, rfl⟩
  · rintro ρ ⟨_, o1, o2, rfl⟩
    walk_at "dv"
    exact q
theorem House_ok {n b : Nat} {moves : List (List Row)} (H : HouseOk n b moves) (hb : b ≤ 4000) {Q : DK} (q : Q (encHouse (moves.map fun rs => rs.map lp))) : gMake 1 1 p_House_init_ [encMoves moves] Q := by
  have hn8 := H.n8
  rw [q_gMake]
  refine ⟨rfl, ?_⟩
  unfold p_House_init_ t_House_init_
  rw [q_dIni]
  intro p dx
  walk_at "dv"
  refine are_moves_ok H ?_
  walk_at "dv"
  unfold encMoves
  walk_at "dv"
  refine lc_of (f := fun rs => encRsT (rs.map lp)) (fun rs hrs => ⟨_, rfl, fun Q h => ?_⟩) (by simp [H.len]; exact line_ok (by omega)) ?_
  · unfold encRsL
    walk_at "dv"
    refine lc_of (f := fun r => encRow (lp r)) (fun r hr => ?_) (by simp; exact line_ok (by have := H.some_ rs hrs; omega)) ?_
    · have R := H.row rs hrs r hr
      refine ⟨[(3, .int r.1), (4, .tup (dis r.2))], rfl, fun Q h => ?_⟩
      walk_at "dv"
      exact least_pair_ok (.inr rfl) (by rw [R.len]; omega) R.pos (by
        have := R.sm
        have := R.pos
        exact Nat.lt_of_lt_of_le (by omega : r.1.toNat < 2 ^ b) (Nat.pow_le_pow_right (by decide) (by omega))) h
    · rw [List.nil_append]
      unfold encRsT at h
      rw [List.map_map] at h
      exact h
  · rw [List.nil_append]
    try walk_at "dv"
    refine ⟨rfl, by decide, ⟨0, _, rfl, rfl, ?_⟩⟩
    walk_at "dv"
    refine ⟨trivial, rfl, by decide, _, rfl, ?_⟩
    unfold encHouse at q
    rw [List.map_map] at q
    rw [List.length_map] at q ⊢
    exact q
end Wk
end
section
set_option Elab.async false
set_option linter.all false
set_option maxRecDepth 100000
/-! D12: the checks of houses, plans, parts. -/
namespace Wk
open PySem PySem.Spec L3
local macro_rules | `(tactic| walk_at "dv") => `(tactic| simp only [q_dDef, q_sh0, List.map_cons, List.map_nil, List.cons_append, List.nil_append, q_dSq, q_dNext, q_dSet, q_dSetF, q_dSetO, q_dRet, q_dRetN, q_dIfS, q_dNever, q_dWhile, q_dFor, q_dPar, q_dAsg, q_dDrop,
  q_dFrz, q_dApp, q_dAppF, q_dPut, q_dPutF, q_dAttrN, q_dAttrFN, q_dFldN,
  List.getElem?_cons_zero, List.getElem?_cons_succ, List.set_cons_zero, List.set_cons_succ, q_setS0, q_setSc, q_setSs0, q_setSsc, q_setD0, q_setDc, q_wipe0, q_wipec,
  shOf_nil, shOf_c, shO_n, shO_s, shO_o, shO_i, alOf_nil, alOf_c, alO_n, alO_s, alO_o, alO_i, dVar_0, dVar_s, q_dC, q_dBin, q_dBinL, q_dTest, q_dChain, q_dNot, q_dNotV, q_dAnd, q_dAndV, q_dOr, q_dOrV, q_dIf, q_dNeg, q_dCall, q_dCallL, q_dCons, q_dNil, q_dStar, q_dLst, q_dTup, q_dLen, q_dxCons, q_dxNil, q_dxP, q_dxO, q_dYes,
  asInt_int, asBl_bl, asSeq_l, asSeq_t, asLst_l, asTup_t, asObj_o, arg1_, arg2_, arg3_, q_gDef, q_gMake, q_gI0, q_gI, gEq_int, gNe_int, q_gLen, q_gAbs, q_gMax2, q_gMin2, q_gInt_i, q_gInt_b, q_gTuple, q_gList, gIx_0, gIx_1, gIx_0l, gIx_1l, q_gCatL, q_gRepL, q_gCatT, q_gRepT, isi_, isi_int_int, isi_bool_int, isi_tup_tup, isiT_, isiT_lst, isiT_tup, isC_, isCK_o, q_dSeqI, q_dEnumI, q_dZip2, q_dZip3, q_dRng1, q_dRng2, q_dLc, q_gIsB, q_gNotB, q_dSlL, q_dSlT, q_dNoP, q_dSoP,
  List.length_cons, List.length_nil, true_and, and_true, Bool.not_true, Bool.not_false, if_true, Bool.false_eq_true, if_false])
def fMoves (x : D) (Q : DK) : Prop := asObj x fun c ds => ∃ (i : Nat) (d : D), (fnT c)[i]? = some "moves" ∧ ds[i]? = some d ∧ Q d
def fMany (x : D) (Q : DK) : Prop := asObj x fun c ds => ∃ (i : Nat) (d : D), (fnT c)[i]? = some "many" ∧ ds[i]? = some d ∧ Q d
def dMv (t : DE) : DE := fun δ Q => t δ fun x => fMoves x Q
def dNv (t : DE) : DE := fun δ Q => t δ fun x => fMany x Q
theorem fM_eq {t : DE} : dFldN fnT "moves" t = dMv t := rfl
theorem fN_eq {t : DE} : dFldN fnT "many" t = dNv t := rfl
theorem q_dMv {t : DE} {δ : DEnv} {Q : DK} : dMv t δ Q = t δ fun x => fMoves x Q := propext Iff.rfl
theorem q_dNv {t : DE} {δ : DEnv} {Q : DK} : dNv t δ Q = t δ fun x => fMany x Q := propext Iff.rfl
theorem fMoves_h {M : List (List Row)} {Q : DK} : fMoves (encHouse M) Q = Q (.tup (M.map encRsT)) := by
  unfold fMoves encHouse
  rw [asObj_o]
  refine Qiff ⟨?_, fun h => ⟨0, _, rfl, rfl, h⟩⟩
  rintro ⟨i, d, h1, h2, h⟩
  match i with
  | 0 => cases h2; exact h
  | 1 => exact absurd h1 (by decide)
  | i + 2 => cases h1
theorem fMany_h {M : List (List Row)} {Q : DK} : fMany (encHouse M) Q = Q (.int (M.length : Int)) := by
  unfold fMany encHouse
  rw [asObj_o]
  refine Qiff ⟨?_, fun h => ⟨1, _, rfl, rfl, h⟩⟩
  rintro ⟨i, d, h1, h2, h⟩
  match i with
  | 0 => exact absurd h1 (by decide)
  | 1 => cases h2; exact h
  | i + 2 => cases h1
theorem isCK_h {M : List (List Row)} {Q : DK} : isCK 1 (encHouse M) Q = Q (.bl true) := isCK_o
theorem asSeq_rT {rs : List Row} {k : List D → Prop} : asSeq (encRsT rs) k = k (rs.map encRow) := propext Iff.rfl
local macro_rules | `(tactic| walk_at "dh") => `(tactic| ((try simp only [fM_eq, fN_eq]); repeat (first | walk_at "dv" | simp only [q_dMv, q_dNv, fMoves_h, fMany_h, isCK_h, asSeq_rT])))
section
variable {n b : Nat} {M : List (List Row)} {Q : DK}
theorem need_house_ok (h : Q .non) : p_need_house [encHouse M] Q := by
  unfold p_need_house t_need_house
  walk_at "dh"
  exact h
theorem zip_gen {α β : Type} {f : α → D} {g : β → D} : ∀ (a : List α) (b : List β), zipD (a.map f) (b.map g) = (a.zip b).map fun p => D.tup [f p.1, g p.2] := zip_map
/-- a plan: for each place one of its moves -/
def PlanOk (M : List (List Row)) (plan : List Nat) : Prop := plan.length = M.length ∧ ∀ (i : Nat) (rs : List Row) (k : Nat), M[i]? = some rs → plan[i]? = some k → k < rs.length
def encPlan (plan : List Nat) : D := .tup (plan.map fun (k : Nat) => D.int (k : Int))
theorem zip_at {α β : Type} {a : List α} {b : List β} {p : α × β} (h : p ∈ a.zip b) : ∃ i : Nat, a[i]? = some p.1 ∧ b[i]? = some p.2 := by
  obtain ⟨i, hi⟩ := List.getElem?_of_mem h
  rw [List.getElem?_zip_eq_some] at hi
  exact ⟨i, hi⟩
theorem is_plan_ok (H : HouseOk n b M) {plan : List Nat} (P : PlanOk M plan) (h : Q (.bl true)) : p_is_plan [encHouse M, encPlan plan] Q := by
  have hn8 := H.n8
  have hl := P.1
  have hln := H.len
  unfold p_is_plan t_is_plan encPlan
  walk_at "dh"
  rw [List.length_map, hl, show ((M.length : Int) == (M.length : Int)) = true from beq_self_eq_true _]
  walk_at "dh"
  rw [zip_gen]
  refine lc_of (f := fun _ => D.bl true) (fun p hp => ⟨_, rfl, fun Q h => ?_⟩) (by simp; exact line_ok (by omega)) ?_
  · obtain ⟨i, h1, h2⟩ := zip_at hp
    have := P.2 i p.2 p.1 h2 h1
    walk_at "dh"
    rw [List.length_map]
    exact is_index_ok (by omega) (by omega) h
  · rw [List.nil_append]
    refine gAll_m (p := fun _ => true) ?_
    rw [show ((plan.zip M).all fun _ => true) = true by simp]
    exact h
theorem need_plan_ok (H : HouseOk n b M) {plan : List Nat} (P : PlanOk M plan) (h : Q .non) : p_need_plan [encHouse M, encPlan plan] Q := by
  unfold p_need_plan t_need_plan
  walk_at "dh"
  refine is_plan_ok H P ?_
  walk_at "dh"
  exact h
/-- the rows that a plan takes -/
def rowsF (M : List (List Row)) (plan : List Nat) : List Row := (M.zip plan).map fun p => p.1.getD p.2 (0, [])
theorem rows_of_ok (H : HouseOk n b M) {plan : List Nat} (P : PlanOk M plan) (h : Q (.tup ((rowsF M plan).map encRow))) : p_rows_of [encHouse M, encPlan plan] Q := by
  have hn8 := H.n8
  have hl := P.1
  have hln := H.len
  unfold p_rows_of t_rows_of encPlan
  walk_at "dh"
  rw [zip_gen]
  refine lc_of (f := fun p => encRow (p.1.getD p.2 (0, []))) (fun p hp => ⟨_, rfl, fun Q h => ?_⟩) (by simp; exact line_ok (by omega)) ?_
  · obtain ⟨i, h1, h2⟩ := zip_at hp
    have hk := P.2 i p.1 p.2 h1 h2
    walk_at "dh"
    unfold encRsT
    rw [gIx_at (.inr rfl) (d := encRow (p.1.getD p.2 (0, []))) (by rw [List.getElem?_map, List.getD_eq_getElem?_getD, List.getElem?_eq_getElem hk]; rfl)]
    exact h
  · rw [List.nil_append]
    walk_at "dh"
    unfold rowsF at h
    rw [List.map_map] at h
    exact h
theorem rowsF_ok (H : HouseOk n b M) {plan : List Nat} (P : PlanOk M plan) : (rowsF M plan).length = n ∧ ∀ r ∈ rowsF M plan, RowOk n b r := by
  refine ⟨by unfold rowsF; simp [P.1, H.len], fun r hr => ?_⟩
  unfold rowsF at hr
  obtain ⟨p, hp, rfl⟩ := List.mem_map.mp hr
  obtain ⟨i, h1, h2⟩ := zip_at hp
  have hk := P.2 i p.1 p.2 h1 h2
  refine H.row p.1 (List.mem_of_getElem? h1) _ ?_
  rw [List.getD_eq_getElem?_getD, List.getElem?_eq_getElem hk]
  exact List.getElem_mem hk
/-! ### nobody stays -/
theorem range_gi {l : List Int} : (List.range l.length).map (fun k => gi l k) = l := by
  apply List.ext_getElem?
  intro i
  rw [List.getElem?_map]
  by_cases h : i < l.length
  · rw [List.getElem?_range h, gi_get h]
    rfl
  · rw [List.getElem?_eq_none (by simpa using h), List.getElem?_eq_none (by omega)]
    rfl
theorem stays_ok {r : Row} (R : RowOk n b r) (hn : n ≤ 100) (h : Q (.bl false)) : p_stays_in [encRow r, .lst (rangeD 0 n)] Q := by
  unfold p_stays_in t_stays_in encRow encR
  walk_at "dh"
  rw [rangeD_eq]
  refine lc_of (f := fun (k : Nat) => D.int (gi r.2 k)) (fun k hk => ⟨_, rfl, fun Q h => ?_⟩) (by simp; exact line_ok (by omega)) ?_
  · walk_at "dh"
    rw [gIx_t (by rw [R.len]; simpa using hk)]
    exact h
  · rw [List.nil_append, dis_map, gSumB_l]
    walk_at "dh"
    have e : ((List.range n).map fun k => gi r.2 k) = r.2 := by
      rw [← R.len]
      exact range_gi
    rw [e, show (r.2.sum == r.1) = false from beq_eq_false_iff_ne.mpr (by have := R.lt; omega)]
    exact h
theorem staying_ok (H : HouseOk n b M) (h : Q (.lst [])) : p_staying_lot [encHouse M] Q := by
  have hn8 := H.n8
  have hn1 := H.n1
  have hln := H.len
  have rng : Rng (n : Int) := by unfold Rng; omega
  unfold p_staying_lot t_staying_lot
  walk_at "dh"
  rw [hln]
  refine ⟨rng, ?_⟩
  rw [Int.toNat_natCast, rangeD_eq]
  refine lc_of (f := fun (k : Nat) => D.int (k : Int)) (fun k hk => ⟨_, rfl, fun Q h => ?_⟩) (by simp; exact line_ok (by omega)) ?_
  · walk_at "dh"
    exact h
  rw [List.nil_append, ← rangeD_eq]
  refine ⟨rng, ?_⟩
  refine for_range (fun i ρ => ∃ o2 o3 o4 : Option S, ρ = [some (.sh (encHouse M)), some (.sh (.lst (if i = 0 then rangeD 0 n else []))), o2, o3, o4]) ⟨none, none, none, rfl⟩ ?_ ?_
  · rintro i ρ hi ⟨o2, o3, o4, rfl⟩
    refine ⟨_, rfl, fun N hN => ?_⟩
    have fin : ∀ Q : List D → Prop, Q [] → dLcL (dNm 3) (dTest (dCall gAny (dCons (dLst (dLc (dSeqI (dBin gIx (dFldN fnT "moves" (dVar 0)) (dVar 3))) (dNm 4) dYes (dCall (gDef 2 p_stays_in) (dCons (dVar 4) (dCons (dVar 1) dNil))) [4])) dNil))) (dVar 3)
        [some (encHouse M), some (.lst (if i = 0 then rangeD 0 n else [])), some (.int (i : Int)), none, shO o4] (if i = 0 then rangeD 0 n else []) [] Q := fun Q hQ => by
      by_cases h0 : i = 0
      · rw [if_pos h0, rangeD_eq]
        refine lc_filter (p := fun _ => false) (f := fun (k : Nat) => D.int (k : Int)) (fun k hk => ⟨_, rfl, fun Q h => ?_, fun h => by cases h⟩) (by simp; exact line_ok (by omega)) (by rw [List.nil_append, List.filter_eq_nil_iff.mpr (by simp)]; exact hQ)
        have hk' : k < M.length := by rw [hln]; simpa using hk
        walk_at "dh"
        rw [gIx_at (.inr rfl) (d := encRsT M[k]) (by rw [List.getElem?_map, List.getElem?_eq_getElem hk']; rfl)]
        walk_at "dh"
        have hm := List.getElem_mem hk'
        refine lc_of (f := fun _ => D.bl false) (fun r hr => ⟨_, rfl, fun Q h => ?_⟩) (by simp; exact line_ok (by have := H.some_ _ hm; omega)) ?_
        · walk_at "dh"
          rw [← rangeD_eq]
          exact stays_ok (H.row _ hm r hr) (by omega) h
        · rw [List.nil_append]
          refine gAny_m (p := fun _ => false) ?_
          rw [show (M[k].any fun _ => false) = false by simp]
          walk_at "dh"
          exact h
      · rw [if_neg h0]
        exact hQ
    walk_at "dh"
    exact fin _ (hN _ ⟨_, _, _, by rw [if_neg (by omega)]⟩)
  · rintro ρ ⟨o2, o3, o4, rfl⟩
    walk_at "dh"
    rw [if_neg (by omega)]
    exact h
theorem need_leaky_ok (H : HouseOk n b M) (h : Q .non) : p_need_leaky [encHouse M] Q := by
  unfold p_need_leaky t_need_leaky
  walk_at "dh"
  refine staying_ok H ?_
  refine ⟨line_ok (by decide), ?_⟩
  rw [show ∀ Q : DK, gNe (.lst []) (.lst []) Q = Q (.bl false) from fun Q => gNe_nil (ns := [])]
  walk_at "dh"
  exact h
/-! ### parts -/
def encParts (gs : List (List Rat)) : D := .tup (gs.map fun g => D.tup (g.map rt))
/-- a ratio for each move -/
def PartsOk (M : List (List Row)) (gs : List (List Rat)) : Prop := gs.length = M.length ∧ ∀ (i : Nat) (rs : List Row) (g : List Rat), M[i]? = some rs → gs[i]? = some g → g.length = rs.length
theorem are_parts_ok (H : HouseOk n b M) {gs : List (List Rat)} (P : PartsOk M gs) (h : Q (.bl true)) : p_are_parts [encHouse M, encParts gs] Q := by
  have hn8 := H.n8
  have hl := P.1
  have hln := H.len
  unfold p_are_parts t_are_parts encParts
  walk_at "dh"
  rw [List.length_map, hl, show ((M.length : Int) == (M.length : Int)) = true from beq_self_eq_true _]
  walk_at "dh"
  rw [zip_gen]
  refine lc_of (f := fun _ => D.bl true) (fun p hp => ⟨_, rfl, fun Q h => ?_⟩) (by simp; exact line_ok (by omega)) ?_
  · obtain ⟨i, h1, h2⟩ := zip_at hp
    have hk := P.2 i p.2 p.1 h2 h1
    have h3 := (H.some_ p.2 (List.mem_of_getElem? h2)).2
    walk_at "dh"
    rw [List.length_map]
    exact are_ratios_ok (by rw [hk]) (by omega) h
  · rw [List.nil_append]
    refine gAll_m (p := fun _ => true) ?_
    rw [show ((gs.zip M).all fun _ => true) = true by simp]
    exact h
theorem need_gains_ok (H : HouseOk n b M) {gs : List (List Rat)} (P : PartsOk M gs) (h : Q .non) : p_need_gains [encHouse M, encParts gs] Q := by
  unfold p_need_gains t_need_gains
  walk_at "dh"
  refine need_house_ok ?_
  refine are_parts_ok H P ?_
  walk_at "dh"
  exact need_leaky_ok H h
end
end Wk
end
section
set_option Elab.async false
/-! M2: substochastic matrices: who lies below its own mean lies below 0. -/
namespace Mx
theorem arg_max (v : Nat → Rat) : ∀ n, 0 < n → ∃ k, k < n ∧ ∀ i, i < n → v i ≤ v k
  | 0, h => by omega
  | 1, _ => ⟨0, by omega, fun i hi => by
    have : i = 0 := by omega
    subst this
    grind⟩
  | n + 2, _ => by
    obtain ⟨k, hk, h⟩ := arg_max v (n + 1) (by omega)
    by_cases hc : v k ≤ v (n + 1)
    · refine ⟨n + 1, by omega, fun i hi => ?_⟩
      by_cases e : i = n + 1
      · subst e; grind
      · have := h i (by omega)
        grind
    · refine ⟨k, by omega, fun i hi => ?_⟩
      by_cases e : i = n + 1
      · subst e; grind
      · exact h i (by omega)
/-- p: at each place numbers from 0 on, less than 1 together -/
structure Sub (n : Nat) (p : Nat → Nat → Rat) : Prop where
  nn : ∀ i, i < n → ∀ j, j < n → 0 ≤ p i j
  lt : ∀ i, i < n → S n (p i) < 1
theorem mul_le_l {a b c : Rat} (h : 0 ≤ a) (hbc : b ≤ c) : a * b ≤ a * c := Rat.mul_le_mul_of_nonneg_left hbc h
theorem Sub.cmp {n : Nat} {p : Nat → Nat → Rat} (P : Sub n p) {v : Nat → Rat} (h : ∀ i, i < n → v i ≤ S n fun j => p i j * v j) : ∀ i, i < n → v i ≤ 0 := by
  intro i hi
  obtain ⟨k, hk, hm⟩ := arg_max v n (by omega)
  have h1 : S n (fun j => p k j * v j) ≤ S n (fun j => v k * p k j) := S_le fun j hj => by
    have := mul_le_l (P.nn k hk j hj) (hm j hj)
    grind
  rw [S_mul] at h1
  have h2 := h k hk
  have h3 := P.lt k hk
  have h4 := hm i hi
  refine Classical.byContradiction fun hn => ?_
  have h5 : 0 < v k := by grind
  have h6 : v k * S n (p k) < v k * 1 := Rat.mul_lt_mul_of_pos_left h3 h5
  have h7 : S n (fun j => p k j) = S n (p k) := rfl
  grind
theorem Sub.zero {n : Nat} {p : Nat → Nat → Rat} (P : Sub n p) {v : Nat → Rat} (h : ∀ i, i < n → v i = S n fun j => p i j * v j) : ∀ i, i < n → v i = 0 := by
  intro i hi
  have h1 := P.cmp (v := v) (fun i hi => by rw [← h i hi]; grind) i hi
  have h2 := P.cmp (v := fun j => -v j) (fun i hi => by
    have e : S n (fun j => p i j * -v j) = (-1) * S n (fun j => p i j * v j) := by
      rw [← S_mul]
      exact S_congr fun j _ => by grind
    have := h i hi
    grind) i hi
  grind
end Mx
end
section
set_option Elab.async false
set_option linter.all false
set_option maxRecDepth 100000
/-! D13: sizes by common denominators; gained_by. -/
namespace Wk
open PySem PySem.Spec L3
local macro_rules | `(tactic| walk_at "dv") => `(tactic| simp only [q_dDef, q_sh0, List.map_cons, List.map_nil, List.cons_append, List.nil_append, q_dSq, q_dNext, q_dSet, q_dSetF, q_dSetO, q_dRet, q_dRetN, q_dIfS, q_dNever, q_dWhile, q_dFor, q_dPar, q_dAsg, q_dDrop,
  q_dFrz, q_dApp, q_dAppF, q_dPut, q_dPutF, q_dAttrN, q_dAttrFN, q_dFldN,
  List.getElem?_cons_zero, List.getElem?_cons_succ, List.set_cons_zero, List.set_cons_succ, q_setS0, q_setSc, q_setSs0, q_setSsc, q_setD0, q_setDc, q_wipe0, q_wipec,
  shOf_nil, shOf_c, shO_n, shO_s, shO_o, shO_i, alOf_nil, alOf_c, alO_n, alO_s, alO_o, alO_i, dVar_0, dVar_s, q_dC, q_dBin, q_dBinL, q_dTest, q_dChain, q_dNot, q_dNotV, q_dAnd, q_dAndV, q_dOr, q_dOrV, q_dIf, q_dNeg, q_dCall, q_dCallL, q_dCons, q_dNil, q_dStar, q_dLst, q_dTup, q_dLen, q_dxCons, q_dxNil, q_dxP, q_dxO, q_dYes,
  asInt_int, asBl_bl, asSeq_l, asSeq_t, asLst_l, asTup_t, asObj_o, arg1_, arg2_, arg3_, q_gDef, q_gMake, q_gI0, q_gI, gEq_int, gNe_int, q_gLen, q_gAbs, q_gMax2, q_gMin2, q_gInt_i, q_gInt_b, q_gTuple, q_gList, gIx_0, gIx_1, gIx_0l, gIx_1l, q_gCatL, q_gRepL, q_gCatT, q_gRepT, isi_, isi_int_int, isi_bool_int, isi_tup_tup, isiT_, isiT_lst, isiT_tup, isC_, isCK_o, q_dSeqI, q_dEnumI, q_dZip2, q_dZip3, q_dRng1, q_dRng2, q_dLc, q_gIsB, q_gNotB, q_dSlL, q_dSlT, q_dNoP, q_dSoP,
  List.length_cons, List.length_nil, true_and, and_true, Bool.not_true, Bool.not_false, if_true, Bool.false_eq_true, if_false])
local macro_rules | `(tactic| walk_at "dh") => `(tactic| ((try simp only [fM_eq, fN_eq]); repeat (first | walk_at "dv" | simp only [q_dMv, q_dNv, fMoves_h, fMany_h, isCK_h, asSeq_rT])))
open Mx (S Sub)
/-- q = z / D with |z| ≤ M -/
def CD (D M : Nat) (q : Rat) : Prop := ∃ z : Int, q = mkRat z D ∧ z.natAbs ≤ M
theorem CD.sz {D M : Nat} {q : Rat} (h : CD D M q) (hD : 0 < D) (h1 : D < 2 ^ 4400) (h2 : M < 2 ^ 40000) : RSz q := by
  obtain ⟨z, rfl, hz⟩ := h
  obtain ⟨e1, e2⟩ := mkRat_nd (a := z) hD
  refine ⟨(mkRat z D).den_pos, ?_, ?_⟩
  · rw [e1]
    exact Nat.lt_of_le_of_lt (Nat.le_trans (Int.natAbs_ediv_le_natAbs _ _) hz) h2
  · have : (mkRat z D).den ≤ D := by
      have := Int.natAbs_ediv_le_natAbs (D : Int) ((Nat.gcd z.natAbs D : Nat) : Int)
      omega
    omega
theorem CD.add {D M N : Nat} {p q : Rat} (h1 : CD D M p) (h2 : CD D N q) (hD : 0 < D) : CD D (M + N) (p + q) := by
  obtain ⟨y, rfl, hy⟩ := h1
  obtain ⟨z, rfl, hz⟩ := h2
  refine ⟨y + z, ?_, by omega⟩
  rw [Rat.mkRat_add_mkRat _ _ (by omega) (by omega), ← Int.add_mul, Rat.mkRat_mul_right (by omega)]
theorem CD.mul {D E M N : Nat} {p q : Rat} (h1 : CD D M p) (h2 : CD E N q) : CD (D * E) (M * N) (p * q) := by
  obtain ⟨y, rfl, hy⟩ := h1
  obtain ⟨z, rfl, hz⟩ := h2
  exact ⟨y * z, by rw [Rat.mkRat_mul_mkRat], by rw [Int.natAbs_mul]; exact Nat.mul_le_mul hy hz⟩
theorem CD.of {D M : Nat} {z : Int} (h : z.natAbs ≤ M) : CD D M (mkRat z D) := ⟨z, rfl, h⟩
theorem CD.zero {D M : Nat} : CD D M 0 := ⟨0, by rw [Rat.zero_mkRat], by simp⟩
theorem CD.mono {D M N : Nat} {q : Rat} (h : CD D M q) (hm : M ≤ N) : CD D N q := let ⟨z, e, hz⟩ := h; ⟨z, e, by omega⟩
/-- sums of such -/
theorem CD.sumSz {D M : Nat} (hD : 0 < D) (h1 : D < 2 ^ 4400) : ∀ {qs : List Rat} {a : Rat} {A : Nat}, CD D A a → (∀ q ∈ qs, CD D M q) → A + qs.length * M < 2 ^ 40000 → SumSz a qs
  | [], _, _, _, _, _ => trivial
  | q :: qs, a, A, ha, hq, hl => by
    rw [List.length_cons, Nat.succ_mul] at hl
    have h := hq q (List.mem_cons_self ..)
    exact ⟨ha.sz hD h1 (by omega), h.sz hD h1 (by omega), CD.sumSz hD h1 (ha.add h hD) (fun p hp => hq p (List.mem_cons_of_mem _ hp)) (by omega)⟩
theorem CD.sum {D M : Nat} (hD : 0 < D) : ∀ {qs : List Rat}, (∀ q ∈ qs, CD D M q) → CD D (qs.length * M) (sumR qs)
  | [], _ => by rw [sumR_nil]; exact CD.zero
  | q :: qs, h => by
    rw [sumR_cons, List.length_cons, Nat.succ_mul, Nat.add_comm]
    exact (h q (List.mem_cons_self ..)).add (CD.sum hD fun p hp => h p (List.mem_cons_of_mem _ hp)) hD
/-! ### rows as a matrix -/
def rowAt (rows : List Row) (i : Nat) : Row := rows.getD i (1, [])
/-- the chance of j in row r -/
def pq (r : Row) (j : Nat) : Rat := (gi r.2 j : Rat) / (r.1 : Rat)
theorem S_gi : ∀ (l : List Int), S l.length (fun j => (gi l j : Rat)) = (l.sum : Rat) := by
  intro l
  have key : ∀ (l : List Int) (k : Nat), k ≤ l.length → S k (fun j => (gi l j : Rat)) = ((l.take k).sum : Rat) := fun l k => by
    induction k with
    | zero => intro _; rfl
    | succ k ih =>
      intro hk
      rw [Mx.S, ih (by omega), List.take_succ, gi_get (by omega)]
      simp [List.sum_append, Rat.intCast_add]
  rw [key l l.length (Nat.le_refl _), List.take_length]
theorem pq_sub {n b : Nat} {r : Row} (R : RowOk n b r) : (∀ j, 0 ≤ pq r j) ∧ S n (pq r) < 1 := by
  have tp := R.pos
  have tq : (0 : Rat) < (r.1 : Rat) := by exact_mod_cast tp
  have nn : ∀ j, 0 ≤ gi r.2 j := fun j => by
    by_cases hj : j < r.2.length
    · exact R.nn _ (List.mem_of_getElem? (gi_get hj))
    · unfold gi
      rw [List.getD_eq_getElem?_getD, List.getElem?_eq_none (by omega)]
      decide
  have ti : (0 : Rat) ≤ (r.1 : Rat)⁻¹ := by
    have := Rat.inv_pos.mpr tq
    grind
  refine ⟨fun j => ?_, ?_⟩
  · unfold pq
    rw [Rat.div_def]
    have h2 : (0 : Rat) ≤ (gi r.2 j : Rat) := by exact_mod_cast nn j
    exact Rat.mul_nonneg h2 ti
  · have e : S n (pq r) = (r.1 : Rat)⁻¹ * S n (fun j => (gi r.2 j : Rat)) := by
      rw [← Mx.S_mul]
      exact Mx.S_congr fun j _ => by unfold pq; rw [Rat.div_def]; grind
    rw [e, ← R.len, S_gi]
    have h3 : ((r.2.sum : Int) : Rat) < (r.1 : Rat) := by exact_mod_cast R.lt
    have h4 : (r.1 : Rat)⁻¹ * ((r.2.sum : Int) : Rat) < (r.1 : Rat)⁻¹ * (r.1 : Rat) := Rat.mul_lt_mul_of_pos_left h3 (Rat.inv_pos.mpr tq)
    have h5 : (r.1 : Rat)⁻¹ * (r.1 : Rat) = 1 := Rat.inv_mul_cancel _ (by grind)
    grind
theorem rowAt_mem {rows : List Row} {i : Nat} (h : i < rows.length) : rowAt rows i ∈ rows := by
  unfold rowAt
  rw [List.getD_eq_getElem?_getD, List.getElem?_eq_getElem h]
  exact List.getElem_mem h
theorem sub_of {n b : Nat} {rows : List Row} (hl : rows.length = n) (hr : ∀ r ∈ rows, RowOk n b r) : Sub n fun i => pq (rowAt rows i) :=
  ⟨fun i hi j _ => (pq_sub (hr _ (rowAt_mem (by omega)))).1 j, fun i hi => (pq_sub (hr _ (rowAt_mem (by omega)))).2⟩
end Wk
end
section
set_option Elab.async false
set_option linter.all false
set_option maxRecDepth 100000
/-! D14: gained_by. -/
namespace Wk
open PySem PySem.Spec L3
local macro_rules | `(tactic| walk_at "dv") => `(tactic| simp only [q_dDef, q_sh0, List.map_cons, List.map_nil, List.cons_append, List.nil_append, q_dSq, q_dNext, q_dSet, q_dSetF, q_dSetO, q_dRet, q_dRetN, q_dIfS, q_dNever, q_dWhile, q_dFor, q_dPar, q_dAsg, q_dDrop,
  q_dFrz, q_dApp, q_dAppF, q_dPut, q_dPutF, q_dAttrN, q_dAttrFN, q_dFldN,
  List.getElem?_cons_zero, List.getElem?_cons_succ, List.set_cons_zero, List.set_cons_succ, q_setS0, q_setSc, q_setSs0, q_setSsc, q_setD0, q_setDc, q_wipe0, q_wipec,
  shOf_nil, shOf_c, shO_n, shO_s, shO_o, shO_i, alOf_nil, alOf_c, alO_n, alO_s, alO_o, alO_i, dVar_0, dVar_s, q_dC, q_dBin, q_dBinL, q_dTest, q_dChain, q_dNot, q_dNotV, q_dAnd, q_dAndV, q_dOr, q_dOrV, q_dIf, q_dNeg, q_dCall, q_dCallL, q_dCons, q_dNil, q_dStar, q_dLst, q_dTup, q_dLen, q_dxCons, q_dxNil, q_dxP, q_dxO, q_dYes,
  asInt_int, asBl_bl, asSeq_l, asSeq_t, asLst_l, asTup_t, asObj_o, arg1_, arg2_, arg3_, q_gDef, q_gMake, q_gI0, q_gI, gEq_int, gNe_int, q_gLen, q_gAbs, q_gMax2, q_gMin2, q_gInt_i, q_gInt_b, q_gTuple, q_gList, gIx_0, gIx_1, gIx_0l, gIx_1l, q_gCatL, q_gRepL, q_gCatT, q_gRepT, isi_, isi_int_int, isi_bool_int, isi_tup_tup, isiT_, isiT_lst, isiT_tup, isC_, isCK_o, q_dSeqI, q_dEnumI, q_dZip2, q_dZip3, q_dRng1, q_dRng2, q_dLc, q_gIsB, q_gNotB, q_dSlL, q_dSlT, q_dNoP, q_dSoP,
  List.length_cons, List.length_nil, true_and, and_true, Bool.not_true, Bool.not_false, if_true, Bool.false_eq_true, if_false])
local macro_rules | `(tactic| walk_at "dh") => `(tactic| ((try simp only [fM_eq, fN_eq]); repeat (first | walk_at "dv" | simp only [q_dMv, q_dNv, fMoves_h, fMany_h, isCK_h, asSeq_rT])))
open Mx (S Sub)
def lineG (r : Row) (i : Nat) : List Int := r.2.zipIdx.map fun q => r.1 * (if ((i : Int) == ((q.2 : Nat) : Int)) = true then 1 else 0) - q.1
theorem lineG_gi {r : Row} {i j : Nat} (hj : j < r.2.length) : gi (lineG r i) j = r.1 * (if i = j then 1 else 0) - gi r.2 j := by
  unfold lineG
  rw [gi_map (x := (gi r.2 j, j)) (by rw [List.getElem?_zipIdx, gi_get hj]; simp)]
  by_cases e : i = j
  · subst e
    rw [if_pos rfl, if_pos (beq_self_eq_true _)]
  · rw [if_neg e, if_neg (by simp; omega)]
theorem pq_mul {n b : Nat} {r : Row} (R : RowOk n b r) (j : Nat) : (gi r.2 j : Rat) = (r.1 : Rat) * pq r j := by
  have tp := R.pos
  have tq : (r.1 : Rat) ≠ 0 := by
    have : (0 : Rat) < (r.1 : Rat) := by exact_mod_cast tp
    grind
  unfold pq
  grind
theorem dot_line {n b i : Nat} {r : Row} (R : RowOk n b r) (hi : i < n) (y : Nat → Rat) : dot n (lineG r i) y = (r.1 : Rat) * (y i - S n fun j => pq r j * y j) := by
  unfold dot
  have e : S n (fun j => (gi (lineG r i) j : Rat) * y j) = S n (fun j => (r.1 : Rat) * (if i = j then y j else 0) - (r.1 : Rat) * (pq r j * y j)) := Mx.S_congr fun j hj => by
    rw [lineG_gi (by rw [R.len]; exact hj), Rat.intCast_sub, Rat.intCast_mul, pq_mul R j]
    by_cases e : i = j
    · rw [if_pos e, if_pos e]
      have : ((1 : Int) : Rat) = 1 := rfl
      grind
    · rw [if_neg e, if_neg e]
      have : ((0 : Int) : Rat) = 0 := rfl
      grind
  rw [e, Mx.S_sub, Mx.S_mul, Mx.S_mul, Mx.S_one hi fun j hj hn => by rw [if_neg (Ne.symm hn)], if_pos rfl]
  grind
/-- small gains -/
def Gn (g : Rat) : Prop := g.num.natAbs < 2 ^ 10 ∧ g.den < 2 ^ 8
def eqG (c : Nat) (rows : List Row) (gs : List Rat) (i : Nat) : List Int × Int := (lineG (rowAt rows i) i, (rowAt rows i).1 * (gs.getD i 0).num * ((c : Int) / (((gs.getD i 0).den : Nat) : Int)))
def eqsG (c : Nat) (rows : List Row) (gs : List Rat) : List (List Int × Int) := (List.range rows.length).map (eqG c rows gs)
section
variable {n : Nat} {rows : List Row} {gs : List Rat}
theorem eqsG_sys (hn : 1 ≤ n) (hn4 : n ≤ 4) (hl : rows.length = n) (hg : gs.length = n) (hr : ∀ r ∈ rows, RowOk n 8 r) (hG : ∀ g ∈ gs, Gn g) {c : Nat} (hc : c < 2 ^ 33) : Sys n 52 (eqsG c rows gs) := by
  have mem : ∀ q ∈ eqsG c rows gs, ∃ i, i < n ∧ q = eqG c rows gs i := fun q hq => by
    obtain ⟨i, hi, rfl⟩ := List.mem_map.mp hq
    exact ⟨i, by rw [← hl]; simpa using hi, rfl⟩
  have R : ∀ i, i < n → RowOk n 8 (rowAt rows i) := fun i hi => hr _ (rowAt_mem (by omega))
  have P := sub_of hl hr
  have b9 : bnd 52 n ≤ 4000 := Nat.le_trans (bnd_mono 52 hn4) (by decide)
  refine ⟨hn, by omega, by simp [eqsG, hl], fun q hq => ?_, fun v hv => P.zero fun i hi => ?_, fun q hq => ?_, by decide, b9⟩
  · obtain ⟨i, hi, rfl⟩ := mem q hq
    show (lineG (rowAt rows i) i).length = n
    unfold lineG
    simp [(R i hi).len]
  · have h := hv (eqG c rows gs i) (List.mem_map.mpr ⟨i, by simp [hl, hi], rfl⟩)
    have h2 : dot n (lineG (rowAt rows i) i) v = 0 := h
    rw [dot_line (R i hi) hi] at h2
    have tq : ((rowAt rows i).1 : Rat) ≠ 0 := by
      have : (0 : Rat) < ((rowAt rows i).1 : Rat) := by exact_mod_cast (R i hi).pos
      grind
    have h3 := (Rat.mul_eq_zero.mp h2).resolve_left tq
    grind
  · obtain ⟨i, hi, rfl⟩ := mem q hq
    have Ri := R i hi
    have tp := Ri.pos
    have ts := Ri.sm
    refine ⟨fun m hm => ?_, ?_⟩
    · have hm : m ∈ lineG (rowAt rows i) i := hm
      unfold lineG at hm
      obtain ⟨⟨z, k⟩, hz, rfl⟩ := List.mem_map.mp hm
      obtain ⟨z1, z2, z3⟩ := Ri.num z (List.fst_mem_of_mem_zipIdx hz)
      have : (2 : Nat) ^ 8 ≤ 2 ^ 52 := by decide
      dsimp only
      split <;> omega
    · have hgi : Gn (gs.getD i 0) := hG _ (by
        rw [List.getD_eq_getElem?_getD, List.getElem?_eq_getElem (by omega)]
        exact List.getElem_mem _)
      have h1 : ((rowAt rows i).1 * (gs.getD i 0).num).natAbs < 2 ^ (8 + 10) := L2.wide_lt ts hgi.1
      have h2 : ((c : Int) / (((gs.getD i 0).den : Nat) : Int)).natAbs < 2 ^ 33 := Nat.lt_of_le_of_lt (Int.natAbs_ediv_le_natAbs _ _) (by simpa using hc)
      have h3 := L2.wide_lt h1 h2
      exact Nat.lt_of_lt_of_le h3 (by decide)
/-- the value of gains gs under rows: the fixed point -/
def Val (n : Nat) (rows : List Row) (gs : List Rat) (V : Nat → Rat) : Prop := ∀ i, i < n → V i = gs.getD i 0 + S n fun j => pq (rowAt rows i) j * V j
theorem Val.uniq (hl : rows.length = n) (hr : ∀ r ∈ rows, RowOk n 8 r) {V W : Nat → Rat} (hV : Val n rows gs V) (hW : Val n rows gs W) : ∀ i, i < n → V i = W i := fun i hi => by
  have := (sub_of hl hr).zero (v := fun j => V j - W j) (fun i hi => by
    have e : S n (fun j => pq (rowAt rows i) j * (V j - W j)) = S n (fun j => pq (rowAt rows i) j * V j) - S n (fun j => pq (rowAt rows i) j * W j) := by
      rw [← Mx.S_sub]
      exact Mx.S_congr fun j _ => by grind
    have h1 := hV i hi
    have h2 := hW i hi
    grind) i hi
  grind
/-- c times the value solves the system -/
theorem eqsG_iff (hl : rows.length = n) (hg : gs.length = n) (hr : ∀ r ∈ rows, RowOk n 8 r) {c : Nat} (hc0 : 0 < c) (hcd : ∀ g ∈ gs, g.den ∣ c) {x : Nat → Rat} : Solves n (eqsG c rows gs) x ↔ Val n rows gs fun j => x j / (c : Rat) := by
  have R : ∀ i, i < n → RowOk n 8 (rowAt rows i) := fun i hi => hr _ (rowAt_mem (by omega))
  have cq : (c : Rat) ≠ 0 := by
    have : (0 : Rat) < (c : Rat) := by exact_mod_cast hc0
    grind
  have key : ∀ i, i < n → (dot n (eqG c rows gs i).1 x = ((eqG c rows gs i).2 : Rat) ↔ x i / (c : Rat) = gs.getD i 0 + S n fun j => pq (rowAt rows i) j * (x j / (c : Rat))) := fun i hi => by
    have tq : ((rowAt rows i).1 : Rat) ≠ 0 := by
      have : (0 : Rat) < ((rowAt rows i).1 : Rat) := by exact_mod_cast (R i hi).pos
      grind
    show dot n (lineG (rowAt rows i) i) x = (((rowAt rows i).1 * (gs.getD i 0).num * ((c : Int) / (((gs.getD i 0).den : Nat) : Int)) : Int) : Rat) ↔ _
    rw [dot_line (R i hi) hi]
    obtain ⟨k, hk⟩ := hcd (gs.getD i 0) (by
      rw [List.getD_eq_getElem?_getD, List.getElem?_eq_getElem (by omega)]
      exact List.getElem_mem _)
    obtain ⟨g, hg'⟩ : ∃ g, g = gs.getD i 0 := ⟨_, rfl⟩
    rw [← hg'] at hk ⊢
    have dq : (g.den : Rat) ≠ 0 := by
      have : (0 : Rat) < (g.den : Rat) := by exact_mod_cast g.den_pos
      grind
    have ek : (c : Int) / ((g.den : Nat) : Int) = (k : Int) := by
      rw [hk, Int.natCast_mul]
      exact Int.mul_ediv_cancel_left _ (by have := g.den_pos; omega)
    have ck : (c : Rat) = (g.den : Rat) * (k : Rat) := by rw [hk]; exact_mod_cast rfl
    have gq : (g.num : Rat) = g * (g.den : Rat) := by
      have h := Rat.mkRat_self g
      rw [Rat.mkRat_eq_div] at h
      grind
    have es : S n (fun j => pq (rowAt rows i) j * (x j / (c : Rat))) = (1 / (c : Rat)) * S n (fun j => pq (rowAt rows i) j * x j) := by
      rw [← Mx.S_mul]
      exact Mx.S_congr fun j _ => by grind
    rw [es, ek, Rat.intCast_mul, Rat.intCast_mul, gq]
    have kk : ((k : Int) : Rat) = (k : Rat) := Rat.intCast_natCast k
    rw [kk]
    constructor
    · intro h
      grind
    · intro h
      grind
  constructor
  · intro h i hi
    exact (key i hi).mp (h _ (List.mem_map.mpr ⟨i, by simp [hl, hi], rfl⟩))
  · intro h q hq
    obtain ⟨i, hi, rfl⟩ := List.mem_map.mp hq
    have hi' : i < n := by rw [← hl]; simpa using hi
    exact (key i hi').mpr (h i hi')
end
end Wk
end
section
set_option Elab.async false
set_option linter.all false
set_option maxRecDepth 100000
/-! D15: gained_by's reading. -/
namespace Wk
open PySem PySem.Spec L3
local macro_rules | `(tactic| walk_at "dv") => `(tactic| simp only [q_dDef, q_sh0, List.map_cons, List.map_nil, List.cons_append, List.nil_append, q_dSq, q_dNext, q_dSet, q_dSetF, q_dSetO, q_dRet, q_dRetN, q_dIfS, q_dNever, q_dWhile, q_dFor, q_dPar, q_dAsg, q_dDrop,
  q_dFrz, q_dApp, q_dAppF, q_dPut, q_dPutF, q_dAttrN, q_dAttrFN, q_dFldN,
  List.getElem?_cons_zero, List.getElem?_cons_succ, List.set_cons_zero, List.set_cons_succ, q_setS0, q_setSc, q_setSs0, q_setSsc, q_setD0, q_setDc, q_wipe0, q_wipec,
  shOf_nil, shOf_c, shO_n, shO_s, shO_o, shO_i, alOf_nil, alOf_c, alO_n, alO_s, alO_o, alO_i, dVar_0, dVar_s, q_dC, q_dBin, q_dBinL, q_dTest, q_dChain, q_dNot, q_dNotV, q_dAnd, q_dAndV, q_dOr, q_dOrV, q_dIf, q_dNeg, q_dCall, q_dCallL, q_dCons, q_dNil, q_dStar, q_dLst, q_dTup, q_dLen, q_dxCons, q_dxNil, q_dxP, q_dxO, q_dYes,
  asInt_int, asBl_bl, asSeq_l, asSeq_t, asLst_l, asTup_t, asObj_o, arg1_, arg2_, arg3_, q_gDef, q_gMake, q_gI0, q_gI, gEq_int, gNe_int, q_gLen, q_gAbs, q_gMax2, q_gMin2, q_gInt_i, q_gInt_b, q_gTuple, q_gList, gIx_0, gIx_1, gIx_0l, gIx_1l, q_gCatL, q_gRepL, q_gCatT, q_gRepT, isi_, isi_int_int, isi_bool_int, isi_tup_tup, isiT_, isiT_lst, isiT_tup, isC_, isCK_o, q_dSeqI, q_dEnumI, q_dZip2, q_dZip3, q_dRng1, q_dRng2, q_dLc, q_gIsB, q_gNotB, q_dSlL, q_dSlT, q_dNoP, q_dSoP,
  List.length_cons, List.length_nil, true_and, and_true, Bool.not_true, Bool.not_false, if_true, Bool.false_eq_true, if_false])
local macro_rules | `(tactic| walk_at "dh") => `(tactic| ((try simp only [fM_eq, fN_eq]); repeat (first | walk_at "dv" | simp only [q_dMv, q_dNv, fMoves_h, fMany_h, isCK_h, asSeq_rT])))
open Mx (S Sub)
theorem gIx_rt0 {q : Rat} {Q : DK} : gIx (rt q) (.int 0) Q = Q (.int q.num) := gIx_0
theorem gIx_rt1 {q : Rat} {Q : DK} : gIx (rt q) (.int 1) Q = Q (.int (q.den : Int)) := gIx_1
def vecD (n : Nat) (V : Nat → Rat) : D := .tup ((List.range n).map fun j => rt (V j))
section
variable {n : Nat} {rows : List Row} {gs : List Rat}
theorem gained_ok (hn : 1 ≤ n) (hn4 : n ≤ 4) (hl : rows.length = n) (hg : gs.length = n) (hr : ∀ r ∈ rows, RowOk n 8 r) (hG : ∀ g ∈ gs, Gn g) {Q : DK}
    (h : ∀ V, Val n rows gs V → (∃ D, 0 < D ∧ D < 2 ^ 3500 ∧ ∀ j, j < n → CD D (2 ^ 4400) (V j)) → Q (vecD n V)) : p_gained_by [.tup (rows.map encRow), .lst (gs.map rt)] Q := by
  unfold p_gained_by t_gained_by
  try walk_at "dv"
  refine lc_of (f := fun (g : Rat) => D.int (g.den : Int)) (fun g hg' => ⟨_, rfl, fun Q h => ?_⟩) (by simp; exact line_ok (by omega)) ?_
  · try walk_at "dv"
    rw [gIx_rt1]
    exact h
  rw [List.nil_append]
  have e1 : gs.map (fun (g : Rat) => D.int (g.den : Int)) = dis ((gs.map (·.den)).map fun (m : Nat) => (m : Int)) := by unfold dis; rw [List.map_map, List.map_map]; rfl
  rw [e1]
  refine multiple_ok (b := 8) (.inl rfl) (fun m hm => ?_) (by simp; omega) fun c c0 c9 cd => ?_
  · obtain ⟨g, hg', rfl⟩ := List.mem_map.mp hm
    exact ⟨g.den_pos, (hG g hg').2⟩
  have c33 : c < 2 ^ 33 := Nat.lt_of_lt_of_le c9 (Nat.pow_le_pow_right (by decide) (by simp; omega))
  have cd' : ∀ g ∈ gs, g.den ∣ c := fun g hg' => cd _ (List.mem_map.mpr ⟨g, hg', rfl⟩)
  have R : ∀ i, i < n → RowOk n 8 (rowAt rows i) := fun i hi => hr _ (rowAt_mem (by omega))
  try walk_at "dv"
  rw [enum_zip]
  refine ⟨line_ok (by decide), ?_⟩
  refine for_at (fun i ρ => ∃ (o4 o5 o6 o7 o8 o9 o10 o11 o12 o13 o14 : Option L3.S), ρ = [some (.sh (.tup (rows.map encRow))), some (.sh (.lst (gs.map rt))), some (.sh (.int (c : Int))), some (.ow ((List.range i).map fun k => encEq (eqG c rows gs k))), o4, o5, o6, o7, o8, o9, o10, o11, o12, o13, o14])
    ⟨none, none, none, none, none, none, none, none, none, none, none, rfl⟩ ?_ ?_
  · rintro i ⟨r, i'⟩ ρ hi ⟨o4, o5, o6, o7, o8, o9, o10, o11, o12, o13, o14, rfl⟩
    rw [List.getElem?_zipIdx] at hi
    obtain ⟨r', hr', e2⟩ := Option.map_eq_some_iff.mp hi
    have e3 : r' = r ∧ 0 + i = i' := by simpa using e2
    obtain ⟨rfl, rfl⟩ := e3
    rw [Nat.zero_add]
    have hin : i < n := by rw [← hl]; exact (List.getElem?_eq_some_iff.mp hr').1
    have er : rowAt rows i = r' := by unfold rowAt; rw [List.getD_eq_getElem?_getD, hr']; rfl
    have Rr := R i hin
    rw [er] at Rr
    obtain ⟨g, hgi⟩ : ∃ g, gs[i]? = some g := ⟨_, List.getElem?_eq_getElem (by omega)⟩
    have eg : gs.getD i 0 = g := by rw [List.getD_eq_getElem?_getD, hgi]; rfl
    have Gg := hG g (List.mem_of_getElem? hgi)
    have tp := Rr.pos
    have ts := Rr.sm
    refine ⟨_, rfl, fun N hN => ?_⟩
    try walk_at "dv"
    refine ⟨_, rfl, ?_⟩
    try walk_at "dv"
    rw [show dis r'.2 = r'.2.map D.int from rfl, enum_zip]
    refine lc_of (f := fun q => D.int (r'.1 * (if ((i : Int) == ((q.2 : Nat) : Int)) = true then 1 else 0) - q.1)) (fun q hq => ⟨_, rfl, fun Q h => ?_⟩) (by simp [Rr.len]; exact line_ok (by omega)) ?_
    · walk_at "dv"
      refine ⟨mulB ts (b := 1) (by split <;> decide), ?_⟩
      exact h
    rw [List.nil_append, dis_map]
    try walk_at "dv"
    rw [gIx_at (.inl rfl) (d := rt g) (by rw [List.getElem?_map, hgi]; rfl), gIx_rt0]
    try walk_at "dv"
    refine ⟨mulB ts Gg.1, ?_⟩
    rw [gIx_at (.inl rfl) (d := rt g) (by rw [List.getElem?_map, hgi]; rfl), gIx_rt1]
    try walk_at "dv"
    have h1 : (r'.1 * g.num).natAbs < 2 ^ (8 + 10) := L2.wide_lt ts Gg.1
    have h2 : ((c : Int) / ((g.den : Nat) : Int)).natAbs < 2 ^ 33 := Nat.lt_of_le_of_lt (Int.natAbs_ediv_le_natAbs _ _) (by simpa using c33)
    refine ⟨divB g.den_pos Gg.2, mulB h1 h2, line_ok (by decide), ?_, ?_⟩
    · simp
      exact Nat.lt_of_lt_of_le (Nat.lt_succ_self i) (line_ok (by omega))
    · have e4 : (List.range i).map (fun k => encEq (eqG c rows gs k)) ++ [D.tup [D.tup (dis (r'.2.zipIdx.map fun q => r'.1 * (if ((i : Int) == ((q.2 : Nat) : Int)) = true then 1 else 0) - q.1)), D.int (r'.1 * g.num * ((c : Int) / ((g.den : Nat) : Int)))]] = (List.range (i + 1)).map fun k => encEq (eqG c rows gs k) := by
        rw [List.range_succ, List.map_append]
        congr 1
        show _ = [encEq (eqG c rows gs i)]
        unfold eqG
        rw [er, eg]
        rfl
      rw [e4]
      exact hN _ ⟨_, _, _, _, _, _, _, _, _, _, _, rfl⟩
  · rintro ρ ⟨o4, o5, o6, o7, o8, o9, o10, o11, o12, o13, o14, rfl⟩
    rw [List.length_zipIdx, hl]
    try walk_at "dv"
    have Y := eqsG_sys hn hn4 hl hg hr hG c33
    obtain ⟨x, hx⟩ := Y.ex
    have e5 : (List.range n).map (fun k => encEq (eqG c rows gs k)) = (eqsG c rows gs).map encEq := by unfold eqsG; rw [List.map_map, hl]; rfl
    rw [e5]
    have b9 : bnd 52 n ≤ 847 := Nat.le_trans (bnd_mono 52 hn4) (by decide)
    have nb : n * bnd 52 n ≤ 4 * 847 := Nat.mul_le_mul hn4 b9
    refine answer_ok Y hx (by omega) fun sc ns A => ⟨_, rfl, ?_⟩
    have VV := (eqsG_iff hl hg hr c0 cd').mp hx
    have sp := A.pos
    have ss : sc.natAbs < 2 ^ 3389 := Nat.lt_of_lt_of_le A.ssm (Nat.pow_le_pow_right (by decide) (by omega))
    obtain ⟨m, hm⟩ : ∃ m : Nat, sc = (m : Int) := ⟨sc.toNat, by omega⟩
    subst hm
    have m0 : 0 < m := by omega
    have ms : m < 2 ^ 3389 := by simpa using ss
    have D0 : 0 < m * c := Nat.mul_pos m0 c0
    have D9 : m * c < 2 ^ 3422 := by
      have := Nat.mul_lt_mul'' ms c33
      rw [← Nat.pow_add] at this
      exact this
    have cq : (c : Rat) ≠ 0 := by
      have : (0 : Rat) < (c : Rat) := by exact_mod_cast c0
      grind
    have mq : (m : Rat) ≠ 0 := by
      have : (0 : Rat) < (m : Rat) := by exact_mod_cast m0
      grind
    have val : ∀ j, j < n → mkRat (gi ns j) (m * c) = x j / (c : Rat) := fun j hj => by
      have h1 := A.val j hj
      rw [Rat.mkRat_eq_div, h1]
      have h2 : (((m : Nat) : Int) : Rat) = (m : Rat) := Rat.intCast_natCast m
      have h3 : ((m * c : Nat) : Rat) = (m : Rat) * (c : Rat) := by exact_mod_cast rfl
      rw [h2, h3]
      grind
    try walk_at "dv"
    refine lc_of (f := fun z => rt (mkRat z (m * c))) (fun z hz => ⟨_, rfl, fun Q h => ?_⟩) (by simp [A.len]; exact line_ok (by omega)) ?_
    · walk_at "dv"
      refine ⟨mulB (a := 3389) (b := 33) (natAbs_den ms) (natAbs_den c33), ?_⟩
      rw [← Int.natCast_mul]
      exact ratio_ok D0 (Nat.lt_of_lt_of_le D9 (Nat.pow_le_pow_right (by decide) (by decide))) h
    rw [List.nil_append]
    try walk_at "dv"
    have e6 : ns.map (fun z => rt (mkRat z (m * c))) = (List.range n).map fun j => rt (x j / (c : Rat)) := by
      conv => lhs; rw [← range_gi (l := ns), List.map_map, A.len]
      refine List.map_congr_left fun j hj => ?_
      have hj' : j < n := by simpa using hj
      show rt (mkRat (gi ns j) (m * c)) = _
      rw [val j hj']
    rw [e6]
    refine h (fun j => x j / (c : Rat)) VV ⟨m * c, D0, Nat.lt_of_lt_of_le D9 (Nat.pow_le_pow_right (by decide) (by decide)), fun j hj => ?_⟩
    show CD (m * c) (2 ^ 4400) (x j / (c : Rat))
    rw [← val j hj]
    exact CD.of (Nat.le_of_lt (Nat.lt_of_lt_of_le (A.nsm.gi j) (Nat.pow_le_pow_right (by decide) (by omega))))
end
end Wk
end
section
set_option Elab.async false
set_option linter.all false
set_option maxRecDepth 100000
/-! D16: sums_of_moves, greatest_of, index. -/
namespace Wk
open PySem PySem.Spec L3
local macro_rules | `(tactic| walk_at "dv") => `(tactic| simp only [q_dDef, q_sh0, List.map_cons, List.map_nil, List.cons_append, List.nil_append, q_dSq, q_dNext, q_dSet, q_dSetF, q_dSetO, q_dRet, q_dRetN, q_dIfS, q_dNever, q_dWhile, q_dFor, q_dPar, q_dAsg, q_dDrop,
  q_dFrz, q_dApp, q_dAppF, q_dPut, q_dPutF, q_dAttrN, q_dAttrFN, q_dFldN,
  List.getElem?_cons_zero, List.getElem?_cons_succ, List.set_cons_zero, List.set_cons_succ, q_setS0, q_setSc, q_setSs0, q_setSsc, q_setD0, q_setDc, q_wipe0, q_wipec,
  shOf_nil, shOf_c, shO_n, shO_s, shO_o, shO_i, alOf_nil, alOf_c, alO_n, alO_s, alO_o, alO_i, dVar_0, dVar_s, q_dC, q_dBin, q_dBinL, q_dTest, q_dChain, q_dNot, q_dNotV, q_dAnd, q_dAndV, q_dOr, q_dOrV, q_dIf, q_dNeg, q_dCall, q_dCallL, q_dCons, q_dNil, q_dStar, q_dLst, q_dTup, q_dLen, q_dxCons, q_dxNil, q_dxP, q_dxO, q_dYes,
  asInt_int, asBl_bl, asSeq_l, asSeq_t, asLst_l, asTup_t, asObj_o, arg1_, arg2_, arg3_, q_gDef, q_gMake, q_gI0, q_gI, gEq_int, gNe_int, q_gLen, q_gAbs, q_gMax2, q_gMin2, q_gInt_i, q_gInt_b, q_gTuple, q_gList, gIx_0, gIx_1, gIx_0l, gIx_1l, q_gCatL, q_gRepL, q_gCatT, q_gRepT, isi_, isi_int_int, isi_bool_int, isi_tup_tup, isiT_, isiT_lst, isiT_tup, isC_, isCK_o, q_dSeqI, q_dEnumI, q_dZip2, q_dZip3, q_dRng1, q_dRng2, q_dLc, q_gIsB, q_gNotB, q_dSlL, q_dSlT, q_dNoP, q_dSoP,
  List.length_cons, List.length_nil, true_and, and_true, Bool.not_true, Bool.not_false, if_true, Bool.false_eq_true, if_false])
local macro_rules | `(tactic| walk_at "dh") => `(tactic| ((try simp only [fM_eq, fN_eq]); repeat (first | walk_at "dv" | simp only [q_dMv, q_dNv, fMoves_h, fMany_h, isCK_h, asSeq_rT])))
open Mx (S Sub)
theorem sumR_S : ∀ (n : Nat) (f : Nat → Rat), sumR ((List.range n).map f) = S n f := by
  have app : ∀ (a b : List Rat), sumR (a ++ b) = sumR a + sumR b := fun a b => by
    induction a with
    | nil => rw [List.nil_append, sumR_nil, Rat.zero_add]
    | cons x a ih => rw [List.cons_append, sumR_cons, sumR_cons, ih, Rat.add_assoc]
  intro n f
  induction n with
  | zero => rfl
  | succ n ih => rw [List.range_succ, List.map_append, app, ih]; simp [sumR, Mx.S, Rat.zero_add]
theorem pq_mkRat {n b : Nat} {r : Row} (R : RowOk n b r) (j : Nat) : mkRat (gi r.2 j) r.1.toNat = pq r j := by
  have tp := R.pos
  rw [Rat.mkRat_eq_div]
  unfold pq
  have : ((r.1.toNat : Nat) : Rat) = (r.1 : Rat) := by
    rw [← Rat.intCast_natCast, Int.toNat_of_nonneg (by omega)]
  rw [this]
/-- the means as a list of products -/
theorem mean_list {n b : Nat} {r : Row} (R : RowOk n b r) (V : Nat → Rat) : (r.2.zip ((List.range n).map V)).map (fun p => p.2 * mkRat p.1 r.1.toNat) = (List.range n).map fun j => V j * pq r j := by
  apply List.ext_getElem?
  intro i
  rw [List.getElem?_map, List.getElem?_map]
  by_cases h : i < n
  · have e : (r.2.zip ((List.range n).map V))[i]? = some (gi r.2 i, V i) := by
      rw [List.getElem?_zip_eq_some]
      exact ⟨gi_get (by rw [R.len]; exact h), by rw [List.getElem?_map, List.getElem?_range h]; rfl⟩
    rw [e, List.getElem?_range h, Option.map_some, Option.map_some, pq_mkRat R]
  · rw [List.getElem?_eq_none (by simp [R.len]; omega), List.getElem?_eq_none (by simp; omega)]
    rfl
def mean (n : Nat) (r : Row) (V : Nat → Rat) : Rat := S n fun j => pq r j * V j
theorem meanR_eq {n b : Nat} {r : Row} (R : RowOk n b r) (V : Nat → Rat) : meanR r.1.toNat r.2 ((List.range n).map V) = mean n r V := by
  unfold meanR mean
  rw [mean_list R, sumR_S]
  exact Mx.S_congr fun j _ => Rat.mul_comm _ _
/-- values of a size -/
def Vz (n : Nat) (V : Nat → Rat) : Prop := ∃ D, 0 < D ∧ D < 2 ^ 3500 ∧ ∀ j, j < n → CD D (2 ^ 4400) (V j)
/-- numerator and denominator below powers of two -/
def Bz (e f : Nat) (q : Rat) : Prop := q.num.natAbs < 2 ^ e ∧ q.den < 2 ^ f
theorem Bz.rsz {e f : Nat} {q : Rat} (h : Bz e f q) (he : e ≤ 40000) (hf : f ≤ 4400) : RSz q := ⟨q.den_pos, Nat.lt_of_lt_of_le h.1 (Nat.pow_le_pow_right (by decide) he), Nat.lt_of_lt_of_le h.2 (Nat.pow_le_pow_right (by decide) hf)⟩
theorem CD.bz {D M e f : Nat} {q : Rat} (h : CD D M q) (hD : 0 < D) (h1 : D < 2 ^ f) (h2 : M < 2 ^ e) : Bz e f q := by
  obtain ⟨z, rfl, hz⟩ := h
  obtain ⟨e1, e2⟩ := mkRat_nd (a := z) hD
  refine ⟨?_, ?_⟩
  · rw [e1]
    exact Nat.lt_of_le_of_lt (Nat.le_trans (Int.natAbs_ediv_le_natAbs _ _) hz) h2
  · have := Int.natAbs_ediv_le_natAbs (D : Int) ((Nat.gcd z.natAbs D : Nat) : Int)
    have : (mkRat z D).den ≤ D := by omega
    omega
theorem Bz.add {e f e' f' g : Nat} {p q : Rat} (h1 : Bz e f p) (h2 : Bz e' f' q) (hg1 : e + f' < g) (hg2 : e' + f < g) : Bz g (f + f') (p + q) := by
  have a1 : (p.num * (q.den : Int)).natAbs < 2 ^ (e + f') := L2.wide_lt h1.1 (natAbs_den h2.2)
  have a2 : (q.num * (p.den : Int)).natAbs < 2 ^ (e' + f) := L2.wide_lt h2.1 (natAbs_den h1.2)
  have b1 : 2 ^ (e + f') ≤ 2 ^ (g - 1) := Nat.pow_le_pow_right (by decide) (by omega)
  have b2 : 2 ^ (e' + f) ≤ 2 ^ (g - 1) := Nat.pow_le_pow_right (by decide) (by omega)
  have b3 : 2 ^ g = 2 ^ (g - 1) + 2 ^ (g - 1) := by rw [show g = (g - 1) + 1 by omega, Nat.pow_succ, Nat.add_sub_cancel]; omega
  have hd : p.den * q.den < 2 ^ (f + f') := by rw [Nat.pow_add]; exact Nat.mul_lt_mul'' h1.2 h2.2
  rw [Rat.add_def']
  exact (CD.of (z := p.num * (q.den : Int) + q.num * (p.den : Int)) (Nat.le_refl _)).bz (Nat.mul_pos p.den_pos q.den_pos) hd (by omega)
section
variable {n : Nat} {r : Row} {V : Nat → Rat} {Q : DK}
theorem mean_bz (hn4 : n ≤ 4) (R : RowOk n 8 r) (hV : Vz n V) : Bz 4412 3508 (mean n r V) ∧ SumSz 0 ((List.range n).map fun j => V j * pq r j) := by
  obtain ⟨D, D0, D9, hC⟩ := hV
  have tp := R.pos
  have ts := R.sm
  have E0 : 0 < D * r.1.toNat := Nat.mul_pos D0 (by omega)
  have E9 : D * r.1.toNat < 2 ^ 3508 := by
    have := Nat.mul_lt_mul'' D9 (show r.1.toNat < 2 ^ 8 by omega)
    rw [← Nat.pow_add] at this
    exact this
  have all : ∀ q ∈ (List.range n).map fun j => V j * pq r j, CD (D * r.1.toNat) (2 ^ 4400 * 2 ^ 8) q := fun q hq => by
    obtain ⟨j, hj, rfl⟩ := List.mem_map.mp hq
    have hj' : j < n := by simpa using hj
    have hz := (R.num _ (List.mem_of_getElem? (gi_get (l := r.2) (i := j) (by rw [R.len]; exact hj')))).2.2
    rw [← pq_mkRat R]
    exact (hC j hj').mul (CD.of (Nat.le_of_lt hz))
  have cz : (List.range n).length * (2 ^ 4400 * 2 ^ 8) ≤ 2 ^ 4411 := by
    rw [List.length_range, ← Nat.pow_add]
    have : n * 2 ^ (4400 + 8) ≤ 2 ^ 2 * 2 ^ (4400 + 8) := Nat.mul_le_mul_right _ hn4
    rw [← Nat.pow_add] at this
    exact Nat.le_trans this (Nat.pow_le_pow_right (by decide) (by decide))
  have c9 : (2 : Nat) ^ 4411 < 2 ^ 4412 := Nat.pow_lt_pow_right (by decide) (by decide)
  have c8 : (2 : Nat) ^ 4411 < 2 ^ 40000 := Nat.pow_lt_pow_right (by decide) (by decide)
  have d8 : (2 : Nat) ^ 3508 ≤ 2 ^ 4400 := Nat.pow_le_pow_right (by decide) (by decide)
  refine ⟨?_, ?_⟩
  · have e : mean n r V = sumR ((List.range n).map fun j => V j * pq r j) := by
      rw [sumR_S]
      exact Mx.S_congr fun j _ => Rat.mul_comm _ _
    rw [e]
    have := CD.sum E0 all
    rw [List.length_map] at this
    exact this.bz E0 E9 (by omega)
  · refine CD.sumSz E0 (Nat.lt_of_lt_of_le E9 d8) (A := 0) CD.zero all ?_
    rw [List.length_map]
    omega
theorem mean_by_ok (hn4 : n ≤ 4) (R : RowOk n 8 r) (hV : Vz n V) (h : Q (rt (mean n r V))) : p_mean_by [encRow r, vecD n V] Q := by
  have tp := R.pos
  have ts := R.sm
  obtain ⟨hb, hs⟩ := mean_bz hn4 R hV
  have e : encRow r = encR (r.1.toNat : Int) r.2 := by unfold encRow; rw [Int.toNat_of_nonneg (by omega)]
  have e2 : vecD n V = .tup (((List.range n).map V).map rt) := by unfold vecD; rw [List.map_map]; rfl
  rw [e, e2]
  obtain ⟨D, D0, D9, hC⟩ := hV
  refine mean_ok (.inr rfl) (fun m hm => ?_) (fun v hv => ?_) (by rw [R.len]; omega) (by rw [mean_list R]; exact hs) (by rw [meanR_eq R]; exact h)
  · have := R.num m hm
    exact ⟨by omega, Nat.lt_of_lt_of_le this.2.2 (Nat.pow_le_pow_right (by decide) (by decide)), Nat.lt_of_lt_of_le (show r.1.toNat < 2 ^ 8 by omega) (Nat.pow_le_pow_right (by decide) (by decide))⟩
  · obtain ⟨j, hj, rfl⟩ := List.mem_map.mp hv
    exact (hC j (by simpa using hj)).sz D0 (Nat.lt_of_lt_of_le D9 (Nat.pow_le_pow_right (by decide) (by decide))) (Nat.pow_lt_pow_right (by decide) (by decide))
/-- what a move brings -/
def sq (n : Nat) (r : Row) (g : Rat) (V : Nat → Rat) : Rat := g + mean n r V
theorem sq_rsz (hn4 : n ≤ 4) (R : RowOk n 8 r) (hV : Vz n V) {g : Rat} (G : Gn g) : RSz (sq n r g V) := by
  have h1 : Bz 10 8 g := G
  exact (h1.add (mean_bz hn4 R hV).1 (g := 4421) (by decide) (by decide)).rsz (by decide) (by decide)
def sumsF (n : Nat) (rs : List Row) (gs : List Rat) (V : Nat → Rat) : List Rat := (rs.zip gs).map fun p => sq n p.1 p.2 V
theorem sums_ok (hn4 : n ≤ 4) {rs : List Row} {gs : List Rat} (hr : ∀ r ∈ rs, RowOk n 8 r) (hl : rs.length ≤ 3) (hG : ∀ g ∈ gs, Gn g) (hV : Vz n V) (h : Q (.lst ((sumsF n rs gs V).map rt))) : p_sums_of_moves [encRsT rs, .tup (gs.map rt), vecD n V] Q := by
  unfold p_sums_of_moves t_sums_of_moves
  walk_at "dh"
  rw [zip_gen]
  refine lc_of (f := fun p => rt (sq n p.1 p.2 V)) (fun p hp => ⟨_, rfl, fun Q h => ?_⟩) (by simp; exact line_ok (by omega)) ?_
  · have R := hr _ (List.of_mem_zip hp).1
    have G := hG _ (List.of_mem_zip hp).2
    have h1 : Bz 10 8 p.2 := G
    walk_at "dh"
    refine mean_by_ok hn4 R hV ?_
    exact rsum_ok (h1.rsz (by decide) (by decide)) ((mean_bz hn4 R hV).1.rsz (by decide) (by decide)) h
  · rw [List.nil_append]
    unfold sumsF at h
    rw [List.map_map] at h
    exact h
end
end Wk
end
section
set_option Elab.async false
set_option linter.all false
set_option maxRecDepth 100000
/-! D17: equality of ratios, first_best. -/
namespace Wk
open PySem PySem.Spec L3
local macro_rules | `(tactic| walk_at "dv") => `(tactic| simp only [q_dDef, q_sh0, List.map_cons, List.map_nil, List.cons_append, List.nil_append, q_dSq, q_dNext, q_dSet, q_dSetF, q_dSetO, q_dRet, q_dRetN, q_dIfS, q_dNever, q_dWhile, q_dFor, q_dPar, q_dAsg, q_dDrop,
  q_dFrz, q_dApp, q_dAppF, q_dPut, q_dPutF, q_dAttrN, q_dAttrFN, q_dFldN,
  List.getElem?_cons_zero, List.getElem?_cons_succ, List.set_cons_zero, List.set_cons_succ, q_setS0, q_setSc, q_setSs0, q_setSsc, q_setD0, q_setDc, q_wipe0, q_wipec,
  shOf_nil, shOf_c, shO_n, shO_s, shO_o, shO_i, alOf_nil, alOf_c, alO_n, alO_s, alO_o, alO_i, dVar_0, dVar_s, q_dC, q_dBin, q_dBinL, q_dTest, q_dChain, q_dNot, q_dNotV, q_dAnd, q_dAndV, q_dOr, q_dOrV, q_dIf, q_dNeg, q_dCall, q_dCallL, q_dCons, q_dNil, q_dStar, q_dLst, q_dTup, q_dLen, q_dxCons, q_dxNil, q_dxP, q_dxO, q_dYes,
  asInt_int, asBl_bl, asSeq_l, asSeq_t, asLst_l, asTup_t, asObj_o, arg1_, arg2_, arg3_, q_gDef, q_gMake, q_gI0, q_gI, gEq_int, gNe_int, q_gLen, q_gAbs, q_gMax2, q_gMin2, q_gInt_i, q_gInt_b, q_gTuple, q_gList, gIx_0, gIx_1, gIx_0l, gIx_1l, q_gCatL, q_gRepL, q_gCatT, q_gRepT, isi_, isi_int_int, isi_bool_int, isi_tup_tup, isiT_, isiT_lst, isiT_tup, isC_, isCK_o, q_dSeqI, q_dEnumI, q_dZip2, q_dZip3, q_dRng1, q_dRng2, q_dLc, q_gIsB, q_gNotB, q_dSlL, q_dSlT, q_dNoP, q_dSoP,
  List.length_cons, List.length_nil, true_and, and_true, Bool.not_true, Bool.not_false, if_true, Bool.false_eq_true, if_false])
local macro_rules | `(tactic| walk_at "dh") => `(tactic| ((try simp only [fM_eq, fN_eq]); repeat (first | walk_at "dv" | simp only [q_dMv, q_dNv, fMoves_h, fMany_h, isCK_h, asSeq_rT])))
open Mx (S Sub)
def pyR (q : Rat) : PyData := .tuple [.int q.num, .int (q.den : Int)]
theorem py_rt {q : Rat} : py (rt q) = some (pyR q) := rfl
theorem pys_rt : ∀ qs : List Rat, pys (qs.map rt) = some (qs.map pyR)
  | [] => rfl
  | q :: qs => by
    rw [List.map_cons, List.map_cons]
    unfold pys
    rw [pys_rt qs, py_rt]
    rfl
theorem eqv_rt {p q : Rat} : PyData.eqv (pyR p) (pyR q) = decide (p = q) := by
  unfold pyR
  rw [PyData.eqv.eq_def]
  dsimp only
  rw [PyData.eqvAll.eq_def]
  dsimp only
  rw [PyData.eqvAll.eq_def]
  dsimp only
  rw [PyData.eqvAll.eq_def, PyData.eqv.eq_def, PyData.eqv.eq_def]
  dsimp only
  by_cases h : p = q
  · subst h
    simp
  · have : ¬ (p.num = q.num ∧ p.den = q.den) := fun ⟨a, b⟩ => h (Rat.ext a b)
    by_cases h1 : p.num = q.num
    · have h2 : ¬ p.den = q.den := fun z => this ⟨h1, z⟩
      simp [h, h1]
      exact_mod_cast h2
    · simp [h, h1]
theorem can_rt {q : Rat} : (pyR q).canLay0 = true := by
  unfold pyR
  rw [PyData.canLay0.eq_def]
  dsimp only
  rw [PyData.canLayAll0.eq_def]
  dsimp only
  rw [PyData.canLayAll0.eq_def]
  dsimp only
  rw [PyData.canLayAll0.eq_def, PyData.canLay0.eq_def, PyData.canLay0.eq_def]
  rfl
theorem dep_rt {q : Rat} : (pyR q).depth = 1 := by
  unfold pyR
  rw [PyData.depth.eq_def]
  dsimp only
  rw [PyData.depthAll.eq_def]
  dsimp only
  rw [PyData.depthAll.eq_def]
  dsimp only
  rw [PyData.depthAll.eq_def, PyData.depth.eq_def, PyData.depth.eq_def]
  rfl
theorem canAll_rt : ∀ qs : List Rat, PyData.canLayAll0 (qs.map pyR) = true
  | [] => by rw [List.map_nil, PyData.canLayAll0.eq_def]
  | q :: qs => by rw [List.map_cons, PyData.canLayAll0.eq_def]; dsimp only; rw [canAll_rt qs, can_rt]; rfl
theorem depAll_rt : ∀ qs : List Rat, PyData.depthAll (qs.map pyR) ≤ 1
  | [] => by rw [List.map_nil, PyData.depthAll.eq_def]; decide
  | q :: qs => by
    have := depAll_rt qs
    rw [List.map_cons, PyData.depthAll.eq_def]
    dsimp only
    rw [dep_rt]
    omega
theorem shaped_rt {q : Rat} : SeqAt.shaped (pyR q) = true := by
  unfold SeqAt.shaped
  rw [can_rt]
  simp [dep_rt]
theorem shaped_rts (qs : List Rat) : SeqAt.shaped (.list (qs.map pyR)) = true := by
  unfold SeqAt.shaped
  have := depAll_rt qs
  rw [PyData.canLay0.eq_def, PyData.depth.eq_def]
  simp [canAll_rt]
  omega
theorem shaped_rtt (qs : List Rat) : SeqAt.shaped (.tuple (qs.map pyR)) = true := by
  unfold SeqAt.shaped
  have := depAll_rt qs
  rw [PyData.canLay0.eq_def, PyData.depth.eq_def]
  simp [canAll_rt]
  omega
theorem eqvAll_rt : ∀ (ps qs : List Rat), PyData.eqvAll (ps.map pyR) (qs.map pyR) = decide (ps = qs)
  | [], [] => by rw [List.map_nil, PyData.eqvAll.eq_def]; rfl
  | [], q :: qs => by rw [List.map_nil, List.map_cons, PyData.eqvAll.eq_def]; simp
  | p :: ps, [] => by rw [List.map_nil, List.map_cons, PyData.eqvAll.eq_def]; simp
  | p :: ps, q :: qs => by
    rw [List.map_cons, List.map_cons, PyData.eqvAll.eq_def]
    dsimp only
    rw [eqv_rt, eqvAll_rt ps qs]
    simp
/-- vectors of ratios compared -/
theorem gEq_vec {ps qs : List Rat} {Q : DK} : gEq (.tup (ps.map rt)) (.tup (qs.map rt)) Q = Q (.bl (decide (ps = qs))) := by
  have e : ∀ zs : List Rat, py (.tup (zs.map rt)) = some (.tuple (zs.map pyR)) := fun zs => by unfold py; rw [pys_rt]; rfl
  have ee : PyData.eqv (.tuple (ps.map pyR)) (.tuple (qs.map pyR)) = decide (ps = qs) := by rw [PyData.eqv.eq_def]; exact eqvAll_rt ps qs
  unfold gEq
  refine Qiff ⟨?_, fun h => ⟨_, _, e ps, e qs, shaped_rtt ps, shaped_rtt qs, by rw [ee]; exact h⟩⟩
  rintro ⟨p, q, h1, h2, _, _, h⟩
  rw [e] at h1 h2
  cases h1
  cases h2
  rw [ee] at h
  exact h
/-! ### the greatest -/
theorem maxR_spec : ∀ (qs : List Rat) (a : Rat), (maxR a qs = a ∨ maxR a qs ∈ qs) ∧ a ≤ maxR a qs ∧ ∀ p ∈ qs, p ≤ maxR a qs
  | [], a => ⟨.inl rfl, Rat.le_refl, by simp⟩
  | q :: qs, a => by
    obtain ⟨h1, h2, h3⟩ := maxR_spec qs (if a < q then q else a)
    show (maxR (if a < q then q else a) qs = a ∨ maxR (if a < q then q else a) qs ∈ q :: qs) ∧ _
    by_cases hq : a < q
    · rw [if_pos hq] at h1 h2 h3
      refine ⟨?_, ?_, fun p hp => ?_⟩
      · rw [if_pos hq]
        rcases h1 with h | h
        · rw [h]; exact .inr (List.mem_cons_self ..)
        · exact .inr (List.mem_cons_of_mem _ h)
      · show a ≤ maxR (if a < q then q else a) qs
        rw [if_pos hq]; grind
      · show p ≤ maxR (if a < q then q else a) qs
        rw [if_pos hq]
        rcases List.mem_cons.mp hp with rfl | hp
        · exact h2
        · exact h3 p hp
    · rw [if_neg hq] at h1 h2 h3
      refine ⟨?_, ?_, fun p hp => ?_⟩
      · rw [if_neg hq]
        rcases h1 with h | h
        · exact .inl h
        · exact .inr (List.mem_cons_of_mem _ h)
      · show a ≤ maxR (if a < q then q else a) qs
        rw [if_neg hq]; exact h2
      · show p ≤ maxR (if a < q then q else a) qs
        rw [if_neg hq]
        rcases List.mem_cons.mp hp with rfl | hp
        · grind
        · exact h3 p hp
/-- k is the first place of the greatest -/
def Best (qs : List Rat) (k : Nat) : Prop := ∃ m, qs[k]? = some m ∧ (∀ p ∈ qs, p ≤ m) ∧ ∀ j z, j < k → qs[j]? = some z → z < m
theorem Best.uniq {qs : List Rat} {k l : Nat} (h : Best qs k) (h' : Best qs l) : k = l := by
  obtain ⟨m, a1, a2, a3⟩ := h
  obtain ⟨m', b1, b2, b3⟩ := h'
  have e1 := a2 m' (List.mem_of_getElem? b1)
  have e2 := b2 m (List.mem_of_getElem? a1)
  rcases Nat.lt_trichotomy k l with h | h | h
  · have := b3 k m h a1
    grind
  · exact h
  · have := a3 l m' h b1
    grind
theorem best_index {qs : List Rat} {R : Nat → Prop} (hne : qs ≠ []) (hs : ∀ p ∈ qs, RSz p) (h : ∀ k, Best qs k → R k) : (p_greatest_of [.lst (qs.map rt)] fun y => ∃ (p : PyData) (ps : List PyData) (j : Nat) (z : PyData), pys (qs.map rt) = some ps ∧ py y = some p ∧ SeqAt.shaped (.list ps) = true ∧ SeqAt.shaped p = true ∧
  ps[j]? = some z ∧ PyData.eqv z p = true ∧ (∀ (m : Nat) (z' : PyData), m < j → ps[m]? = some z' → PyData.eqv z' p = false) ∧ R j) := by
  obtain ⟨q, qs', rfl⟩ : ∃ q qs', qs = q :: qs' := by
    cases qs with
    | nil => exact absurd rfl hne
    | cons q qs' => exact ⟨q, qs', rfl⟩
  refine greatest_ok hs ?_
  obtain ⟨m1, m2, m3⟩ := maxR_spec (q :: qs') q
  obtain ⟨m, hm⟩ : ∃ m, m = maxR q (q :: qs') := ⟨_, rfl⟩
  rw [← hm] at m1 m2 m3 ⊢
  have mem : m ∈ q :: qs' := by
    rcases m1 with h | h
    · rw [h]; exact List.mem_cons_self ..
    · exact h
  -- the first place
  have first : ∀ (l : List Rat), m ∈ l → ∃ k : Nat, l[k]? = some m ∧ ∀ (j : Nat) (z : Rat), j < k → l[j]? = some z → z ≠ m := fun l => by
    induction l with
    | nil => intro h; cases h
    | cons a l ih =>
      intro h
      by_cases e : a = m
      · exact ⟨0, by rw [e]; rfl, fun j z hj => by omega⟩
      · obtain ⟨k, k1, k2⟩ := ih ((List.mem_cons.mp h).resolve_left (Ne.symm e))
        refine ⟨k + 1, by simpa using k1, fun j z hj hz => ?_⟩
        cases j with
        | zero => simp at hz; subst hz; exact e
        | succ j => exact k2 j z (by omega) (by simpa using hz)
  obtain ⟨k, k1, k2⟩ := first _ mem
  refine ⟨pyR m, _, k, pyR m, pys_rt _, py_rt, shaped_rts _, shaped_rt, by rw [List.getElem?_map, k1]; rfl, by rw [eqv_rt]; simp, fun j z' hj hz => ?_, h k ⟨m, k1, m3, fun j z hj hz => ?_⟩⟩
  · rw [List.getElem?_map] at hz
    obtain ⟨z, z1, rfl⟩ := Option.map_eq_some_iff.mp hz
    rw [eqv_rt]
    exact decide_eq_false (k2 j z hj z1)
  · have h1 := k2 j z hj hz
    have h2 := m3 z (List.mem_of_getElem? hz)
    grind
end Wk
end
section
set_option Elab.async false
set_option linter.all false
set_option maxRecDepth 100000
/-! D18: first_best, gains_of. -/
namespace Wk
open PySem PySem.Spec L3
local macro_rules | `(tactic| walk_at "dv") => `(tactic| simp only [q_dDef, q_sh0, List.map_cons, List.map_nil, List.cons_append, List.nil_append, q_dSq, q_dNext, q_dSet, q_dSetF, q_dSetO, q_dRet, q_dRetN, q_dIfS, q_dNever, q_dWhile, q_dFor, q_dPar, q_dAsg, q_dDrop,
  q_dFrz, q_dApp, q_dAppF, q_dPut, q_dPutF, q_dAttrN, q_dAttrFN, q_dFldN,
  List.getElem?_cons_zero, List.getElem?_cons_succ, List.set_cons_zero, List.set_cons_succ, q_setS0, q_setSc, q_setSs0, q_setSsc, q_setD0, q_setDc, q_wipe0, q_wipec,
  shOf_nil, shOf_c, shO_n, shO_s, shO_o, shO_i, alOf_nil, alOf_c, alO_n, alO_s, alO_o, alO_i, dVar_0, dVar_s, q_dC, q_dBin, q_dBinL, q_dTest, q_dChain, q_dNot, q_dNotV, q_dAnd, q_dAndV, q_dOr, q_dOrV, q_dIf, q_dNeg, q_dCall, q_dCallL, q_dCons, q_dNil, q_dStar, q_dLst, q_dTup, q_dLen, q_dxCons, q_dxNil, q_dxP, q_dxO, q_dYes,
  asInt_int, asBl_bl, asSeq_l, asSeq_t, asLst_l, asTup_t, asObj_o, arg1_, arg2_, arg3_, q_gDef, q_gMake, q_gI0, q_gI, gEq_int, gNe_int, q_gLen, q_gAbs, q_gMax2, q_gMin2, q_gInt_i, q_gInt_b, q_gTuple, q_gList, gIx_0, gIx_1, gIx_0l, gIx_1l, q_gCatL, q_gRepL, q_gCatT, q_gRepT, isi_, isi_int_int, isi_bool_int, isi_tup_tup, isiT_, isiT_lst, isiT_tup, isC_, isCK_o, q_dSeqI, q_dEnumI, q_dZip2, q_dZip3, q_dRng1, q_dRng2, q_dLc, q_gIsB, q_gNotB, q_dSlL, q_dSlT, q_dNoP, q_dSoP,
  List.length_cons, List.length_nil, true_and, and_true, Bool.not_true, Bool.not_false, if_true, Bool.false_eq_true, if_false])
local macro_rules | `(tactic| walk_at "dh") => `(tactic| ((try simp only [fM_eq, fN_eq]); repeat (first | walk_at "dv" | simp only [q_dMv, q_dNv, fMoves_h, fMany_h, isCK_h, asSeq_rT])))
open Mx (S Sub)
/-- a house and its gains -/
structure HG (n : Nat) (M : List (List Row)) (gs : List (List Rat)) : Prop where
  h : HouseOk n 8 M
  n4 : n ≤ 4
  p : PartsOk M gs
  g : ∀ g ∈ gs, ∀ q ∈ g, Gn q
def BestPlan (n : Nat) (M : List (List Row)) (gs : List (List Rat)) (V : Nat → Rat) (plan : List Nat) : Prop := plan.length = n ∧ ∀ (i k : Nat) (rs : List Row) (g : List Rat), M[i]? = some rs → gs[i]? = some g → plan[i]? = some k → Best (sumsF n rs g V) k
def gainsF (gs : List (List Rat)) (plan : List Nat) : List Rat := (gs.zip plan).map fun p => p.1.getD p.2 0
section
variable {n : Nat} {M : List (List Row)} {gs : List (List Rat)} {V : Nat → Rat} {plan : List Nat} {Q : DK}
theorem sumsF_len {rs : List Row} {g : List Rat} (h : g.length = rs.length) : (sumsF n rs g V).length = rs.length := by unfold sumsF; simp [h]
theorem BestPlan.ok (Y : HG n M gs) (B : BestPlan n M gs V plan) : PlanOk M plan := by
  refine ⟨by rw [B.1, Y.h.len], fun i rs k h1 h2 => ?_⟩
  obtain ⟨g, hg⟩ : ∃ g, gs[i]? = some g := ⟨_, List.getElem?_eq_getElem (by rw [Y.p.1]; exact (List.getElem?_eq_some_iff.mp h1).1)⟩
  obtain ⟨m, e, _⟩ := B.2 i k rs g h1 hg h2
  have := (List.getElem?_eq_some_iff.mp e).1
  rwa [sumsF_len (Y.p.2 i rs g h1 hg)] at this
theorem first_best_ok (Y : HG n M gs) (hV : Vz n V) (h : ∀ plan, BestPlan n M gs V plan → Q (encPlan plan)) : p_first_best [encHouse M, encParts gs, vecD n V] Q := by
  have hn8 := Y.h.n8
  have hln := Y.h.len
  have hgl := Y.p.1
  unfold p_first_best t_first_best encParts
  walk_at "dh"
  rw [zip_gen]
  refine ⟨line_ok (by decide), ?_⟩
  refine for_at (fun i ρ => ∃ (pl : List Nat) (o4 o5 o6 : Option L3.S), ρ = [some (.sh (encHouse M)), some (.sh (.tup (gs.map fun g => D.tup (g.map rt)))), some (.sh (vecD n V)), some (.ow (pl.map fun (k : Nat) => D.int (k : Int))), o4, o5, o6] ∧ pl.length = i ∧
      ∀ (j k : Nat) (rs : List Row) (g : List Rat), M[j]? = some rs → gs[j]? = some g → pl[j]? = some k → Best (sumsF n rs g V) k) ⟨[], none, none, none, rfl, rfl, fun j k rs g _ _ h => by simp at h⟩ ?_ ?_
  · rintro i ⟨rs, g⟩ ρ hi ⟨pl, o4, o5, o6, rfl, hl, hB⟩
    rw [List.getElem?_zip_eq_some] at hi
    obtain ⟨h1, h2⟩ := hi
    have h1 : M[i]? = some rs := h1
    have h2 : gs[i]? = some g := h2
    have hrs := List.mem_of_getElem? h1
    obtain ⟨r1, r3⟩ := Y.h.some_ rs hrs
    have hgr := Y.p.2 i rs g h1 h2
    have hG := Y.g g (List.mem_of_getElem? h2)
    refine ⟨_, rfl, fun N hN => ?_⟩
    walk_at "dh"
    refine sums_ok Y.n4 (Y.h.row rs hrs) r3 hG hV ?_
    try walk_at "dh"
    rw [q_dIndex]
    walk_at "dh"
    refine best_index ?_ (fun p hp => ?_) fun k hk => ?_
    · intro z
      have := sumsF_len (n := n) (V := V) hgr
      rw [z] at this
      simp at this
      omega
    · unfold sumsF at hp
      obtain ⟨q, hq, rfl⟩ := List.mem_map.mp hp
      exact sq_rsz Y.n4 (Y.h.row rs hrs _ (List.of_mem_zip hq).1) hV (hG _ (List.of_mem_zip hq).2)
    · have il : i < n := by rw [← hln]; exact (List.getElem?_eq_some_iff.mp h1).1
      refine ⟨by simp; exact Nat.lt_of_lt_of_le (Nat.lt_succ_self _) (line_ok (by omega)), ?_⟩
      refine hN _ ⟨pl ++ [k], _, _, _, by rw [List.map_append]; rfl, by simp [hl], fun j k' rs' g' e1 e2 e3 => ?_⟩
      by_cases hj : j < i
      · rw [List.getElem?_append_left (by omega)] at e3
        exact hB j k' rs' g' e1 e2 e3
      · have : j = i := by
          have := (List.getElem?_eq_some_iff.mp e3).1
          simp at this
          omega
        subst this
        rw [List.getElem?_append_right (by omega), hl, Nat.sub_self] at e3
        rw [h1] at e1
        rw [h2] at e2
        cases e1
        cases e2
        simp at e3
        subst e3
        exact hk
  · rintro ρ ⟨pl, o4, o5, o6, rfl, hl, hB⟩
    walk_at "dh"
    exact h pl ⟨by rw [hl]; simp [hln, hgl], hB⟩
theorem gains_of_ok (Y : HG n M gs) (P : PlanOk M plan) (h : Q (.lst ((gainsF gs plan).map rt))) : p_gains_of [encParts gs, encPlan plan] Q := by
  have hn8 := Y.h.n8
  have hln := Y.h.len
  have hgl := Y.p.1
  unfold p_gains_of t_gains_of encParts encPlan
  walk_at "dh"
  rw [zip_gen]
  refine lc_of (f := fun p => rt (p.1.getD p.2 0)) (fun p hp => ⟨_, rfl, fun Q h => ?_⟩) (by simp; exact line_ok (by omega)) ?_
  · obtain ⟨i, h1, h2⟩ := zip_at hp
    have him : i < M.length := by rw [← hgl]; exact (List.getElem?_eq_some_iff.mp h1).1
    have hk := P.2 i M[i] p.2 (List.getElem?_eq_getElem him) h2
    have hgr := Y.p.2 i M[i] p.1 (List.getElem?_eq_getElem him) h1
    walk_at "dh"
    rw [gIx_at (.inr rfl) (d := rt (p.1.getD p.2 0)) (by rw [List.getElem?_map, List.getD_eq_getElem?_getD, List.getElem?_eq_getElem (by omega)]; rfl)]
    exact h
  · rw [List.nil_append]
    unfold gainsF at h
    rw [List.map_map] at h
    exact h
theorem gainsF_ok (Y : HG n M gs) (P : PlanOk M plan) : (gainsF gs plan).length = n ∧ ∀ q ∈ gainsF gs plan, Gn q := by
  refine ⟨by unfold gainsF; simp [P.1, Y.h.len, Y.p.1], fun q hq => ?_⟩
  unfold gainsF at hq
  obtain ⟨p, hp, rfl⟩ := List.mem_map.mp hq
  obtain ⟨i, h1, h2⟩ := zip_at hp
  have him : i < M.length := by rw [← Y.p.1]; exact (List.getElem?_eq_some_iff.mp h1).1
  have hk := P.2 i M[i] p.2 (List.getElem?_eq_getElem him) h2
  have hgr := Y.p.2 i M[i] p.1 (List.getElem?_eq_getElem him) h1
  refine Y.g p.1 (List.mem_of_getElem? h1) _ ?_
  rw [List.getD_eq_getElem?_getD, List.getElem?_eq_getElem (by omega)]
  exact List.getElem_mem _
/-- the value of a plan, made by the program -/
theorem plan_value_ok (Y : HG n M gs) (P : PlanOk M plan) (h : ∀ V, Val n (rowsF M plan) (gainsF gs plan) V → Vz n V → Q (vecD n V)) : p_gained_by [.tup ((rowsF M plan).map encRow), .lst ((gainsF gs plan).map rt)] Q := by
  obtain ⟨r1, r2⟩ := rowsF_ok Y.h P
  obtain ⟨g1, g2⟩ := gainsF_ok Y P
  exact gained_ok Y.h.n1 Y.n4 r1 g1 r2 g2 h
end
end Wk
end
section
set_option Elab.async false
set_option linter.all false
set_option maxRecDepth 100000
/-! D19: most_of: the plans are improved until nothing changes. -/
namespace Wk
open PySem PySem.Spec L3
local macro_rules | `(tactic| walk_at "dv") => `(tactic| simp only [q_dDef, q_sh0, List.map_cons, List.map_nil, List.cons_append, List.nil_append, q_dSq, q_dNext, q_dSet, q_dSetF, q_dSetO, q_dRet, q_dRetN, q_dIfS, q_dNever, q_dWhile, q_dFor, q_dPar, q_dAsg, q_dDrop,
  q_dFrz, q_dApp, q_dAppF, q_dPut, q_dPutF, q_dAttrN, q_dAttrFN, q_dFldN,
  List.getElem?_cons_zero, List.getElem?_cons_succ, List.set_cons_zero, List.set_cons_succ, q_setS0, q_setSc, q_setSs0, q_setSsc, q_setD0, q_setDc, q_wipe0, q_wipec,
  shOf_nil, shOf_c, shO_n, shO_s, shO_o, shO_i, alOf_nil, alOf_c, alO_n, alO_s, alO_o, alO_i, dVar_0, dVar_s, q_dC, q_dBin, q_dBinL, q_dTest, q_dChain, q_dNot, q_dNotV, q_dAnd, q_dAndV, q_dOr, q_dOrV, q_dIf, q_dNeg, q_dCall, q_dCallL, q_dCons, q_dNil, q_dStar, q_dLst, q_dTup, q_dLen, q_dxCons, q_dxNil, q_dxP, q_dxO, q_dYes,
  asInt_int, asBl_bl, asSeq_l, asSeq_t, asLst_l, asTup_t, asObj_o, arg1_, arg2_, arg3_, q_gDef, q_gMake, q_gI0, q_gI, gEq_int, gNe_int, q_gLen, q_gAbs, q_gMax2, q_gMin2, q_gInt_i, q_gInt_b, q_gTuple, q_gList, gIx_0, gIx_1, gIx_0l, gIx_1l, q_gCatL, q_gRepL, q_gCatT, q_gRepT, isi_, isi_int_int, isi_bool_int, isi_tup_tup, isiT_, isiT_lst, isiT_tup, isC_, isCK_o, q_dSeqI, q_dEnumI, q_dZip2, q_dZip3, q_dRng1, q_dRng2, q_dLc, q_gIsB, q_gNotB, q_dSlL, q_dSlT, q_dNoP, q_dSoP,
  List.length_cons, List.length_nil, true_and, and_true, Bool.not_true, Bool.not_false, if_true, Bool.false_eq_true, if_false])
local macro_rules | `(tactic| walk_at "dh") => `(tactic| ((try simp only [fM_eq, fN_eq]); repeat (first | walk_at "dv" | simp only [q_dMv, q_dNv, fMoves_h, fMany_h, isCK_h, asSeq_rT])))
open Mx (S Sub)
/-- a best value: its own best plan brings it -/
def Bell (n : Nat) (M : List (List Row)) (gs : List (List Rat)) (V : Nat → Rat) : Prop := ∃ plan, BestPlan n M gs V plan ∧ Val n (rowsF M plan) (gainsF gs plan) V
def plansOf : List (List Row) → List (List Nat)
  | [] => [[]]
  | rs :: M => (List.range rs.length).flatMap fun k => (plansOf M).map (k :: ·)
theorem plansOf_mem : ∀ {M : List (List Row)} {plan : List Nat}, PlanOk M plan → plan ∈ plansOf M
  | [], plan, ⟨h, _⟩ => by
    have : plan = [] := List.length_eq_zero_iff.mp h
    subst this
    exact List.mem_singleton.mpr rfl
  | rs :: M, [], ⟨h, _⟩ => by simp at h
  | rs :: M, k :: plan, ⟨h, hk⟩ => by
    have h0 := hk 0 rs k rfl rfl
    have h1 : PlanOk M plan := ⟨by simpa using h, fun i rs k a b => hk (i + 1) rs k (by simpa using a) (by simpa using b)⟩
    exact List.mem_flatMap.mpr ⟨k, by simpa using h0, List.mem_map.mpr ⟨plan, plansOf_mem h1, rfl⟩⟩
section
variable {n : Nat} {M : List (List Row)} {gs : List (List Rat)} {V W : Nat → Rat} {plan : List Nat}
/-- what the plan's move brings at place i -/
theorem at_plan (Y : HG n M gs) (P : PlanOk M plan) {i : Nat} (hi : i < n) : ∃ rs g k r q, M[i]? = some rs ∧ gs[i]? = some g ∧ plan[i]? = some k ∧ rs[k]? = some r ∧ g[k]? = some q ∧ rowAt (rowsF M plan) i = r ∧ (gainsF gs plan).getD i 0 = q ∧ RowOk n 8 r := by
  have hln := Y.h.len
  have hgl := Y.p.1
  have hpl := P.1
  obtain ⟨rs, h1⟩ : ∃ rs, M[i]? = some rs := ⟨_, List.getElem?_eq_getElem (by omega)⟩
  obtain ⟨g, h2⟩ : ∃ g, gs[i]? = some g := ⟨_, List.getElem?_eq_getElem (by omega)⟩
  obtain ⟨k, h3⟩ : ∃ k, plan[i]? = some k := ⟨_, List.getElem?_eq_getElem (by omega)⟩
  have hk := P.2 i rs k h1 h3
  have hg := Y.p.2 i rs g h1 h2
  obtain ⟨r, h4⟩ : ∃ r, rs[k]? = some r := ⟨_, List.getElem?_eq_getElem hk⟩
  obtain ⟨q, h5⟩ : ∃ q, g[k]? = some q := ⟨_, List.getElem?_eq_getElem (by omega)⟩
  refine ⟨rs, g, k, r, q, h1, h2, h3, h4, h5, ?_, ?_, Y.h.row rs (List.mem_of_getElem? h1) r (List.mem_of_getElem? h4)⟩
  · unfold rowAt rowsF
    have e : (M.zip plan)[i]? = some (rs, k) := by rw [List.getElem?_zip_eq_some]; exact ⟨h1, h3⟩
    rw [List.getD_eq_getElem?_getD, List.getElem?_map, e]
    show rs.getD k (0, []) = r
    rw [List.getD_eq_getElem?_getD, h4]; rfl
  · unfold gainsF
    have e : (gs.zip plan)[i]? = some (g, k) := by rw [List.getElem?_zip_eq_some]; exact ⟨h2, h3⟩
    rw [List.getD_eq_getElem?_getD, List.getElem?_map, e]
    show g.getD k 0 = q
    rw [List.getD_eq_getElem?_getD, h5]; rfl
theorem sumsF_at {rs : List Row} {g : List Rat} {k : Nat} {r : Row} {q : Rat} (h1 : rs[k]? = some r) (h2 : g[k]? = some q) : (sumsF n rs g V)[k]? = some (sq n r q V) := by
  unfold sumsF
  have e : (rs.zip g)[k]? = some (r, q) := by rw [List.getElem?_zip_eq_some]; exact ⟨h1, h2⟩
  rw [List.getElem?_map, e]
  rfl
theorem Val.at (hV : Val n (rowsF M plan) (gainsF gs plan) V) {i : Nat} (hi : i < n) : V i = sq n (rowAt (rowsF M plan) i) ((gainsF gs plan).getD i 0) V := hV i hi
theorem mean_sub {r : Row} : mean n r V - mean n r W = mean n r fun j => V j - W j := by
  unfold mean
  rw [← Mx.S_sub]
  exact Mx.S_congr fun j _ => by grind
/-- a plan's value lies below that of its best plan -/
theorem improve (Y : HG n M gs) {plan' : List Nat} (P : PlanOk M plan) (hV : Val n (rowsF M plan) (gainsF gs plan) V) (B : BestPlan n M gs V plan') (hW : Val n (rowsF M plan') (gainsF gs plan') W) : ∀ i, i < n → V i ≤ W i := by
  have P' := B.ok Y
  obtain ⟨r1, r2⟩ := rowsF_ok Y.h P'
  have cmp := (sub_of r1 r2).cmp (v := fun j => V j - W j) (fun i hi => by
    obtain ⟨rs, g, k, r, q, a1, a2, a3, a4, a5, a6, a7, a8⟩ := at_plan Y P hi
    obtain ⟨rs', g', k', r', q', b1, b2, b3, b4, b5, b6, b7, b8⟩ := at_plan Y P' hi
    rw [a1] at b1
    rw [a2] at b2
    cases b1
    cases b2
    obtain ⟨m, m1, m2, _⟩ := B.2 i k' rs g a1 a2 b3
    rw [sumsF_at b4 b5] at m1
    cases m1
    have h1 := m2 _ (List.mem_of_getElem? (sumsF_at (n := n) (V := V) a4 a5))
    have h2 := hV.at hi
    have h3 := hW.at hi
    rw [a6, a7] at h2
    rw [b6, b7] at h3
    rw [b6]
    have h4 := mean_sub (n := n) (r := r') (V := V) (W := W)
    unfold sq at h1 h2 h3
    show V i - W i ≤ mean n r' fun j => V j - W j
    grind)
  intro i hi
  have := cmp i hi
  grind
/-- there is one best value alone -/
theorem Bell.le (Y : HG n M gs) (hV : Bell n M gs V) (hW : Bell n M gs W) : ∀ i, i < n → V i ≤ W i := by
  obtain ⟨plan, B, hV⟩ := hV
  obtain ⟨plan', B', hW⟩ := hW
  have P := B.ok Y
  have P' := B'.ok Y
  obtain ⟨r1, r2⟩ := rowsF_ok Y.h P
  have cmp := (sub_of r1 r2).cmp (v := fun j => V j - W j) (fun i hi => by
    obtain ⟨rs, g, k, r, q, a1, a2, a3, a4, a5, a6, a7, a8⟩ := at_plan Y P hi
    obtain ⟨rs', g', k', r', q', b1, b2, b3, b4, b5, b6, b7, b8⟩ := at_plan Y P' hi
    rw [a1] at b1
    rw [a2] at b2
    cases b1
    cases b2
    obtain ⟨m, m1, m2, _⟩ := B'.2 i k' rs g a1 a2 b3
    rw [sumsF_at b4 b5] at m1
    cases m1
    have h1 := m2 _ (List.mem_of_getElem? (sumsF_at (n := n) (V := W) a4 a5))
    have h2 := hV.at hi
    have h3 := hW.at hi
    rw [a6, a7] at h2
    rw [b6, b7] at h3
    rw [a6]
    have h4 := mean_sub (n := n) (r := r) (V := V) (W := W)
    unfold sq at h1 h2 h3
    show V i - W i ≤ mean n r fun j => V j - W j
    grind)
  intro i hi
  have := cmp i hi
  grind
theorem Bell.uniq (Y : HG n M gs) (hV : Bell n M gs V) (hW : Bell n M gs W) : ∀ i, i < n → V i = W i := fun i hi => Rat.le_antisymm (hV.le Y hW i hi) (hW.le Y hV i hi)
/-! ### the loop ends -/
open Classical in
/-- the plans whose value lies above V, not at it -/
noncomputable def above (n : Nat) (M : List (List Row)) (gs : List (List Rat)) (V : Nat → Rat) : Nat :=
  ((plansOf M).filter fun p => decide (PlanOk M p ∧ ∃ U, Val n (rowsF M p) (gainsF gs p) U ∧ (∀ i, i < n → V i ≤ U i) ∧ ∃ i, i < n ∧ V i ≠ U i)).length
theorem filter_lt {α : Type} {p q : α → Bool} : ∀ {l : List α}, (∀ x ∈ l, p x = true → q x = true) → (∃ x ∈ l, q x = true ∧ p x = false) → (l.filter p).length < (l.filter q).length
  | [], _, ⟨x, h, _⟩ => by cases h
  | a :: l, h, ⟨x, hx, h1, h2⟩ => by
    have le : (l.filter p).length ≤ (l.filter q).length := by
      clear hx h1 h2
      have h' : ∀ x ∈ l, p x = true → q x = true := fun x hx => h x (List.mem_cons_of_mem _ hx)
      clear h
      induction l with
      | nil => exact Nat.le_refl _
      | cons b l ih =>
        have ih := ih fun x hx => h' x (List.mem_cons_of_mem _ hx)
        have hb := h' b (List.mem_cons_self ..)
        rw [List.filter_cons, List.filter_cons]
        cases hp : p b with
        | true => rw [hb hp]; simpa using ih
        | false => cases q b <;> simp <;> omega
    rw [List.filter_cons, List.filter_cons]
    rcases List.mem_cons.mp hx with rfl | hx
    · rw [h1, h2]
      simp
      omega
    · have ih := filter_lt (l := l) (fun x hx => h x (List.mem_cons_of_mem _ hx)) ⟨x, hx, h1, h2⟩
      have ha := h a (List.mem_cons_self ..)
      cases hp : p a with
      | true => rw [ha hp]; simpa using ih
      | false => cases q a <;> simp <;> omega
open Classical in
theorem above_lt (Y : HG n M gs) {plan' : List Nat} (P' : PlanOk M plan') (hW : Val n (rowsF M plan') (gainsF gs plan') W) (hle : ∀ i, i < n → V i ≤ W i) (hne : ∃ i, i < n ∧ V i ≠ W i) : above n M gs W < above n M gs V := by
  unfold above
  refine filter_lt (fun p hp h => ?_) ⟨plan', plansOf_mem P', ?_, ?_⟩
  · obtain ⟨a, U, b, c, i, hi, hn⟩ := of_decide_eq_true h
    refine decide_eq_true ⟨a, U, b, fun i hi => ?_, i, hi, fun e => hn ?_⟩
    · have := c i hi
      have := hle i hi
      grind
    · have := c i hi
      have := hle i hi
      grind
  · exact decide_eq_true ⟨P', W, hW, hle, hne⟩
  · refine decide_eq_false fun ⟨_, U, b, c, i, hi, hn⟩ => hn ?_
    obtain ⟨r1, r2⟩ := rowsF_ok Y.h P'
    exact Val.uniq r1 r2 hW b i hi
theorem vec_eq {V W : Nat → Rat} : (((List.range n).map V) = ((List.range n).map W)) ↔ ∀ i, i < n → V i = W i := by
  constructor
  · intro h i hi
    have := congrArg (fun l => l[i]?) h
    simpa [List.getElem?_map, List.getElem?_range hi] using this
  · intro h
    exact List.map_congr_left fun i hi => h i (by simpa using hi)
theorem vecD_eq : vecD n V = .tup (((List.range n).map V).map rt) := by unfold vecD; rw [List.map_map]; rfl
theorem gEq_vecD {Q : DK} : gEq (vecD n V) (vecD n W) Q = Q (.bl (decide ((List.range n).map V = (List.range n).map W))) := by rw [vecD_eq, vecD_eq, gEq_vec]
theorem zero_plan (Y : HG n M gs) : PlanOk M (List.replicate n 0) := ⟨by rw [List.length_replicate, Y.h.len], fun i rs k h1 h2 => by
  have := Y.h.some_ rs (List.mem_of_getElem? h1)
  have := List.eq_of_mem_replicate (List.mem_of_getElem? h2)
  omega⟩
theorem most_of_ok (Y : HG n M gs) {Q : DK} (h : ∀ V, Bell n M gs V → Vz n V → Q (vecD n V)) : p_most_of [encHouse M, encParts gs] Q := by
  have hn8 := Y.h.n8
  have hn1 := Y.h.n1
  have hln := Y.h.len
  unfold p_most_of t_most_of
  walk_at "dh"
  rw [hln]
  refine ⟨line_ok (by decide), by simp, by omega, by omega, by decide, ?_⟩
  have ep : D.tup (List.replicate ((n : Nat) : Int).toNat [D.int 0]).flatten = encPlan (List.replicate n 0) := by
    rw [Int.toNat_natCast, rep_flat]
    unfold encPlan dis
    rw [List.map_replicate, List.map_replicate]
    rfl
  rw [ep]
  refine rows_of_ok Y.h (zero_plan Y) ?_
  refine gains_of_ok Y (zero_plan Y) ?_
  refine plan_value_ok Y (zero_plan Y) fun V0 hV0 z0 => ?_
  walk_at "dh"
  -- the loop
  have loop : ∀ (m : Nat) (plan : List Nat) (V : Nat → Rat) (o2 o5 : Option L3.S), above n M gs V ≤ m → PlanOk M plan → Val n (rowsF M plan) (gainsF gs plan) V → Vz n V →
      dWhileN (dNot (dTest (dVar 4))) (dSq (dSet 2 (dCall (gDef 3 p_first_best) (dCons (dVar 0) (dCons (dVar 1) (dCons (dVar 3) dNil))))) (dSq (dSet 5 (dCall (gDef 2 p_gained_by) (dCons (dCall (gDef 2 p_rows_of) (dCons (dVar 0) (dCons (dVar 2) dNil))) (dCons (dCall (gDef 2 p_gains_of) (dCons (dVar 1) (dCons (dVar 2) dNil))) dNil)))) (dPar [4, 3] (dxCons (dxP (dBin gEq (dVar 5) (dVar 3))) (dxCons (dxP (dVar 5)) dxNil)))))
        { nx := dRet (dVar 3) { nx := fun _ => Q .non, rt := Q }, rt := Q } (m + 2) [some (.sh (encHouse M)), some (.sh (encParts gs)), o2, some (.sh (vecD n V)), some (.sh (.bl false)), o5] := by
    intro m
    induction m with
    | zero =>
      intro plan V o2 o5 hm P hV hz
      unfold dWhileN
      walk_at "dh"
      refine first_best_ok Y hz fun plan' B => ?_
      have P' := B.ok Y
      try walk_at "dh"
      refine rows_of_ok Y.h P' ?_
      refine gains_of_ok Y P' ?_
      refine plan_value_ok Y P' fun W hW zW => ?_
      have le := improve Y P hV B hW
      have same : ∀ i, i < n → W i = V i := fun i hi => Classical.byContradiction fun hn => by
        have := above_lt Y P' hW le ⟨i, hi, Ne.symm hn⟩
        omega
      have ev : vecD n W = vecD n V := by rw [vecD_eq, vecD_eq, vec_eq.mpr same]
      rw [ev]
      walk_at "dh"
      rw [gEq_vecD, decide_eq_true rfl]
      walk_at "dh"
      unfold dWhileN
      walk_at "dh"
      refine h V ⟨plan', B, fun i hi => ?_⟩ hz
      have := hW i hi
      rw [same i hi] at this
      rw [this]
      congr 1
      exact Mx.S_congr fun j hj => by rw [same j hj]
    | succ m ih =>
      intro plan V o2 o5 hm P hV hz
      unfold dWhileN
      walk_at "dh"
      refine first_best_ok Y hz fun plan' B => ?_
      have P' := B.ok Y
      try walk_at "dh"
      refine rows_of_ok Y.h P' ?_
      refine gains_of_ok Y P' ?_
      refine plan_value_ok Y P' fun W hW zW => ?_
      have le := improve Y P hV B hW
      try walk_at "dh"
      rw [gEq_vecD]
      by_cases same : ∀ i, i < n → W i = V i
      · rw [decide_eq_true (vec_eq.mpr same)]
        walk_at "dh"
        have ev : vecD n W = vecD n V := by rw [vecD_eq, vecD_eq, vec_eq.mpr same]
        rw [ev]
        unfold dWhileN
        walk_at "dh"
        refine h V ⟨plan', B, fun i hi => ?_⟩ hz
        have := hW i hi
        rw [same i hi] at this
        rw [this]
        congr 1
        exact Mx.S_congr fun j hj => by rw [same j hj]
      · rw [decide_eq_false (fun z => same (vec_eq.mp z))]
        walk_at "dh"
        have ne : ∃ i, i < n ∧ V i ≠ W i := Classical.byContradiction fun hn => same fun i hi => Classical.byContradiction fun z => hn ⟨i, hi, Ne.symm z⟩
        have := above_lt Y P' hW le ne
        exact ih plan' W _ _ (by omega) P' hW zW
  exact ⟨_, loop _ _ V0 _ _ (Nat.le_refl _) (zero_plan Y) hV0 z0⟩
end
end Wk
end
section
set_option Elab.async false
set_option linter.all false
set_option maxRecDepth 100000
/-! D20: most, best_plan, is_most_paper. -/
namespace Wk
open PySem PySem.Spec L3
local macro_rules | `(tactic| walk_at "dv") => `(tactic| simp only [q_dDef, q_sh0, List.map_cons, List.map_nil, List.cons_append, List.nil_append, q_dSq, q_dNext, q_dSet, q_dSetF, q_dSetO, q_dRet, q_dRetN, q_dIfS, q_dNever, q_dWhile, q_dFor, q_dPar, q_dAsg, q_dDrop,
  q_dFrz, q_dApp, q_dAppF, q_dPut, q_dPutF, q_dAttrN, q_dAttrFN, q_dFldN,
  List.getElem?_cons_zero, List.getElem?_cons_succ, List.set_cons_zero, List.set_cons_succ, q_setS0, q_setSc, q_setSs0, q_setSsc, q_setD0, q_setDc, q_wipe0, q_wipec,
  shOf_nil, shOf_c, shO_n, shO_s, shO_o, shO_i, alOf_nil, alOf_c, alO_n, alO_s, alO_o, alO_i, dVar_0, dVar_s, q_dC, q_dBin, q_dBinL, q_dTest, q_dChain, q_dNot, q_dNotV, q_dAnd, q_dAndV, q_dOr, q_dOrV, q_dIf, q_dNeg, q_dCall, q_dCallL, q_dCons, q_dNil, q_dStar, q_dLst, q_dTup, q_dLen, q_dxCons, q_dxNil, q_dxP, q_dxO, q_dYes,
  asInt_int, asBl_bl, asSeq_l, asSeq_t, asLst_l, asTup_t, asObj_o, arg1_, arg2_, arg3_, q_gDef, q_gMake, q_gI0, q_gI, gEq_int, gNe_int, q_gLen, q_gAbs, q_gMax2, q_gMin2, q_gInt_i, q_gInt_b, q_gTuple, q_gList, gIx_0, gIx_1, gIx_0l, gIx_1l, q_gCatL, q_gRepL, q_gCatT, q_gRepT, isi_, isi_int_int, isi_bool_int, isi_tup_tup, isiT_, isiT_lst, isiT_tup, isC_, isCK_o, q_dSeqI, q_dEnumI, q_dZip2, q_dZip3, q_dRng1, q_dRng2, q_dLc, q_gIsB, q_gNotB, q_dSlL, q_dSlT, q_dNoP, q_dSoP,
  List.length_cons, List.length_nil, true_and, and_true, Bool.not_true, Bool.not_false, if_true, Bool.false_eq_true, if_false])
local macro_rules | `(tactic| walk_at "dh") => `(tactic| ((try simp only [fM_eq, fN_eq]); repeat (first | walk_at "dv" | simp only [q_dMv, q_dNv, fMoves_h, fMany_h, isCK_h, asSeq_rT])))
open Mx (S Sub)
section
variable {n : Nat} {M : List (List Row)} {gs : List (List Rat)} {V W : Nat → Rat} {plan : List Nat} {Q : DK}
theorem most_ok (Y : HG n M gs) (h : ∀ V, Bell n M gs V → Vz n V → Q (vecD n V)) : p_most [encHouse M, encParts gs] Q := by
  unfold p_most t_most
  walk_at "dh"
  refine need_gains_ok Y.h Y.p ?_
  try walk_at "dh"
  exact most_of_ok Y h
theorem best_plan_ok (Y : HG n M gs) (h : ∀ V plan, Bell n M gs V → BestPlan n M gs V plan → Q (encPlan plan)) : p_best_plan [encHouse M, encParts gs] Q := by
  unfold p_best_plan t_best_plan
  walk_at "dh"
  refine need_gains_ok Y.h Y.p ?_
  try walk_at "dh"
  refine most_of_ok Y fun V hB hz => ?_
  try walk_at "dh"
  exact first_best_ok Y hz fun plan B => h V plan hB B
theorem gNe_rt {p q : Rat} {Q : DK} : gNe (rt p) (rt q) Q = Q (.bl (!decide (p = q))) := by
  unfold gNe
  refine Qiff ⟨?_, fun h => ⟨_, _, py_rt, py_rt, shaped_rt, shaped_rt, by rw [eqv_rt]; exact h⟩⟩
  rintro ⟨a, b, h1, h2, _, _, h⟩
  rw [py_rt] at h1 h2
  cases h1
  cases h2
  rw [eqv_rt] at h
  exact h
theorem bell_at (Y : HG n M gs) (hB : Bell n M gs V) {i : Nat} {rs : List Row} {g : List Rat} (h1 : M[i]? = some rs) (h2 : gs[i]? = some g) {k : Nat} (hk : Best (sumsF n rs g V) k) : (sumsF n rs g V)[k]? = some (V i) ∧ ∀ p ∈ sumsF n rs g V, p ≤ V i := by
  obtain ⟨plan0, B0, hV⟩ := hB
  have hi : i < n := by rw [← Y.h.len]; exact (List.getElem?_eq_some_iff.mp h1).1
  obtain ⟨rs', g', k', r, q, a1, a2, a3, a4, a5, a6, a7, a8⟩ := at_plan Y (B0.ok Y) hi
  rw [h1] at a1
  rw [h2] at a2
  cases a1
  cases a2
  have b := B0.2 i k' rs g h1 h2 a3
  have e := hk.uniq b
  subst e
  have h3 := hV.at hi
  rw [a6, a7] at h3
  obtain ⟨m, m1, m2, _⟩ := hk
  rw [sumsF_at a4 a5] at m1
  cases m1
  rw [sumsF_at a4 a5, h3]
  exact ⟨rfl, m2⟩
theorem Vz.rsz (hz : Vz n V) {j : Nat} (hj : j < n) : RSz (V j) := by
  obtain ⟨D, D0, D9, hC⟩ := hz
  exact (hC j hj).sz D0 (Nat.lt_of_lt_of_le D9 (Nat.pow_le_pow_right (by decide) (by decide))) (Nat.pow_lt_pow_right (by decide) (by decide))
theorem paper_ok (Y : HG n M gs) (hB : Bell n M gs V) (hz : Vz n V) (B : BestPlan n M gs V plan) (h : Q (.bl true)) : p_is_most_paper [encHouse M, encParts gs, .tup [vecD n V, encPlan plan]] Q := by
  have hn8 := Y.h.n8
  have hln := Y.h.len
  have P := B.ok Y
  unfold p_is_most_paper t_is_most_paper
  walk_at "dh"
  refine need_gains_ok Y.h Y.p ?_
  try walk_at "dh"
  rw [vecD_eq]
  refine are_ratios_ok (by simp [hln]) (by simp; omega) ?_
  try walk_at "dh"
  refine is_plan_ok Y.h P ?_
  walk_at "dh"
  rw [enum_zip]
  refine for_at (fun i ρ => ∃ o3 o4 o5 o6 : Option L3.S, ρ = [some (.sh (encHouse M)), some (.sh (encParts gs)), some (.sh (.tup [.tup (((List.range n).map V).map rt), encPlan plan])), o3, o4, o5, o6]) ⟨none, none, none, none, rfl⟩ ?_ ?_
  · rintro i ⟨rs, i'⟩ ρ hi ⟨o3, o4, o5, o6, rfl⟩
    rw [List.getElem?_zipIdx] at hi
    obtain ⟨rs', h1, e2⟩ := Option.map_eq_some_iff.mp hi
    have e3 : rs' = rs ∧ 0 + i = i' := by simpa using e2
    obtain ⟨rfl, rfl⟩ := e3
    rw [Nat.zero_add]
    have hin : i < n := by rw [← hln]; exact (List.getElem?_eq_some_iff.mp h1).1
    obtain ⟨g, h2⟩ : ∃ g, gs[i]? = some g := ⟨_, List.getElem?_eq_getElem (by rw [Y.p.1]; omega)⟩
    obtain ⟨k, h3⟩ : ∃ k, plan[i]? = some k := ⟨_, List.getElem?_eq_getElem (by rw [B.1]; omega)⟩
    have hrs := List.mem_of_getElem? h1
    obtain ⟨r1, r3⟩ := Y.h.some_ rs' hrs
    have hG := Y.g g (List.mem_of_getElem? h2)
    have bk := B.2 i k rs' g h1 h2 h3
    obtain ⟨v1, v2⟩ := bell_at Y hB h1 h2 bk
    have gV : ∀ Q : DK, gIx (.tup (((List.range n).map V).map rt)) (.int (i : Int)) Q = Q (rt (V i)) := fun Q => gIx_at (.inr rfl) (by rw [List.getElem?_map, List.getElem?_map, List.getElem?_range hin]; rfl)
    have gP : ∀ Q : DK, gIx (encPlan plan) (.int (i : Int)) Q = Q (.int (k : Int)) := fun Q => gIx_at (.inr rfl) (by rw [List.getElem?_map, h3]; rfl)
    have gG : ∀ Q : DK, gIx (encParts gs) (.int (i : Int)) Q = Q (.tup (g.map rt)) := fun Q => gIx_at (.inr rfl) (by rw [List.getElem?_map, h2]; rfl)
    refine ⟨_, rfl, fun N hN => ?_⟩
    walk_at "dh"
    rw [gG]
    walk_at "dh"
    rw [← vecD_eq]
    refine sums_ok Y.n4 (Y.h.row rs' hrs) r3 hG hz ?_
    rw [vecD_eq]
    walk_at "dh"
    refine lc_of (f := fun p => D.bl (decide (V i < p))) (fun p hp => ⟨_, rfl, fun Q h => ?_⟩) (by unfold sumsF; simp; exact line_ok (by omega)) ?_
    · have rp : RSz p := by
        unfold sumsF at hp
        obtain ⟨q, hq, rfl⟩ := List.mem_map.mp hp
        exact sq_rsz Y.n4 (Y.h.row rs' hrs _ (List.of_mem_zip hq).1) hz (hG _ (List.of_mem_zip hq).2)
      walk_at "dh"
      rw [gV]
      walk_at "dh"
      exact rbelow_ok (hz.rsz hin) rp h
    · rw [List.nil_append]
      refine gAny_m (p := fun p => decide (V i < p)) ?_
      rw [show ((sumsF n rs' g V).any fun p => decide (V i < p)) = false by
        rw [List.any_eq_false]
        intro p hp
        have := v2 p hp
        simp
        grind]
      walk_at "dh"
      rw [gP, gIx_at (.inl rfl) (d := rt (V i)) (by rw [List.getElem?_map, v1]; rfl), gV, gNe_rt, show (!decide (V i = V i)) = false by simp]
      walk_at "dh"
      exact hN _ ⟨_, _, _, _, rfl⟩
  · rintro ρ ⟨o3, o4, o5, o6, rfl⟩
    walk_at "dh"
    exact h
end
end Wk
end
section
set_option Elab.async false
set_option linter.all false
set_option maxRecDepth 100000
/-! D21: flows: the system of the columns. -/
namespace Wk
open PySem PySem.Spec L3
local macro_rules | `(tactic| walk_at "dv") => `(tactic| simp only [q_dDef, q_sh0, List.map_cons, List.map_nil, List.cons_append, List.nil_append, q_dSq, q_dNext, q_dSet, q_dSetF, q_dSetO, q_dRet, q_dRetN, q_dIfS, q_dNever, q_dWhile, q_dFor, q_dPar, q_dAsg, q_dDrop,
  q_dFrz, q_dApp, q_dAppF, q_dPut, q_dPutF, q_dAttrN, q_dAttrFN, q_dFldN,
  List.getElem?_cons_zero, List.getElem?_cons_succ, List.set_cons_zero, List.set_cons_succ, q_setS0, q_setSc, q_setSs0, q_setSsc, q_setD0, q_setDc, q_wipe0, q_wipec,
  shOf_nil, shOf_c, shO_n, shO_s, shO_o, shO_i, alOf_nil, alOf_c, alO_n, alO_s, alO_o, alO_i, dVar_0, dVar_s, q_dC, q_dBin, q_dBinL, q_dTest, q_dChain, q_dNot, q_dNotV, q_dAnd, q_dAndV, q_dOr, q_dOrV, q_dIf, q_dNeg, q_dCall, q_dCallL, q_dCons, q_dNil, q_dStar, q_dLst, q_dTup, q_dLen, q_dxCons, q_dxNil, q_dxP, q_dxO, q_dYes,
  asInt_int, asBl_bl, asSeq_l, asSeq_t, asLst_l, asTup_t, asObj_o, arg1_, arg2_, arg3_, q_gDef, q_gMake, q_gI0, q_gI, gEq_int, gNe_int, q_gLen, q_gAbs, q_gMax2, q_gMin2, q_gInt_i, q_gInt_b, q_gTuple, q_gList, gIx_0, gIx_1, gIx_0l, gIx_1l, q_gCatL, q_gRepL, q_gCatT, q_gRepT, isi_, isi_int_int, isi_bool_int, isi_tup_tup, isiT_, isiT_lst, isiT_tup, isC_, isCK_o, q_dSeqI, q_dEnumI, q_dZip2, q_dZip3, q_dRng1, q_dRng2, q_dLc, q_gIsB, q_gNotB, q_dSlL, q_dSlT, q_dNoP, q_dSoP,
  List.length_cons, List.length_nil, true_and, and_true, Bool.not_true, Bool.not_false, if_true, Bool.false_eq_true, if_false])
local macro_rules | `(tactic| walk_at "dh") => `(tactic| ((try simp only [fM_eq, fN_eq]); repeat (first | walk_at "dv" | simp only [q_dMv, q_dNv, fMoves_h, fMany_h, isCK_h, asSeq_rT])))
open Mx (S Sub)
theorem dual {n : Nat} {p : Nat → Nat → Rat} {f y : Nat → Rat} : S n (fun i => f i * (y i - S n fun j => p i j * y j)) = S n fun j => y j * (f j - S n fun i => p i j * f i) := by
  have e1 : S n (fun i => f i * (y i - S n fun j => p i j * y j)) = S n (fun i => f i * y i) - S n (fun i => S n fun j => p i j * f i * y j) := by
    rw [← Mx.S_sub]
    refine Mx.S_congr fun i _ => ?_
    have : S n (fun j => p i j * f i * y j) = f i * S n (fun j => p i j * y j) := by
      rw [← Mx.S_mul]
      exact Mx.S_congr fun j _ => by grind
    rw [this]
    grind
  have e2 : S n (fun j => y j * (f j - S n fun i => p i j * f i)) = S n (fun i => f i * y i) - S n (fun j => S n fun i => p i j * f i * y j) := by
    rw [← Mx.S_sub]
    refine Mx.S_congr fun j _ => ?_
    have : S n (fun i => p i j * f i * y j) = y j * S n (fun i => p i j * f i) := by
      rw [← Mx.S_mul]
      exact Mx.S_congr fun i _ => by grind
    rw [this]
    grind
  rw [e1, e2, Mx.S_comm]
section
variable {n : Nat} {rows : List Row}
/-- f flows from the starts s -/
def Flw (n : Nat) (rows : List Row) (s f : Nat → Rat) : Prop := ∀ j, j < n → f j - S n (fun i => pq (rowAt rows i) j * f i) = s j
theorem unit_val (hn : 1 ≤ n) (hn4 : n ≤ 4) (hl : rows.length = n) (hr : ∀ r ∈ rows, RowOk n 8 r) {k : Nat} (hk : k < n) : ∃ y : Nat → Rat, (∀ i, i < n → y i - S n (fun j => pq (rowAt rows i) j * y j) = if i = k then 1 else 0) ∧ ∀ i, i < n → 0 ≤ y i := by
  let gs : List Rat := (List.range n).map fun i => if i = k then 1 else 0
  have gl : gs.length = n := by simp [gs]
  have gG : ∀ g ∈ gs, Gn g := fun g hg => by
    obtain ⟨i, _, rfl⟩ := List.mem_map.mp hg
    by_cases e : i = k
    · rw [if_pos e]; exact ⟨by decide, by decide⟩
    · rw [if_neg e]; exact ⟨by decide, by decide⟩
  have gd : ∀ g ∈ gs, g.den ∣ 1 := fun g hg => by
    obtain ⟨i, _, rfl⟩ := List.mem_map.mp hg
    by_cases e : i = k
    · rw [if_pos e]; decide
    · rw [if_neg e]; decide
  obtain ⟨x, hx⟩ := (eqsG_sys hn hn4 hl gl hr gG (c := 1) (by decide)).ex
  have hv := (eqsG_iff hl gl hr (by decide) gd).mp hx
  have ga : ∀ i, i < n → gs.getD i 0 = if i = k then 1 else 0 := fun i hi => by
    simp only [gs]
    rw [List.getD_eq_getElem?_getD, List.getElem?_map, List.getElem?_range hi]
    rfl
  refine ⟨fun j => x j / ((1 : Nat) : Rat), fun i hi => ?_, fun i hi => ?_⟩
  · have h := hv i hi
    rw [ga i hi] at h
    show x i / ((1 : Nat) : Rat) - S n (fun j => pq (rowAt rows i) j * (x j / ((1 : Nat) : Rat))) = _
    have h : x i / ((1 : Nat) : Rat) = (if i = k then 1 else 0) + S n (fun j => pq (rowAt rows i) j * (x j / ((1 : Nat) : Rat))) := h
    grind
  · have := (sub_of hl hr).cmp (v := fun j => -(x j / ((1 : Nat) : Rat))) (fun i hi => by
      have h := hv i hi
      rw [ga i hi] at h
      have h : x i / ((1 : Nat) : Rat) = (if i = k then 1 else 0) + S n (fun j => pq (rowAt rows i) j * (x j / ((1 : Nat) : Rat))) := h
      have e : S n (fun j => pq (rowAt rows i) j * -(x j / ((1 : Nat) : Rat))) = (-1) * S n (fun j => pq (rowAt rows i) j * (x j / ((1 : Nat) : Rat))) := by
        rw [← Mx.S_mul]
        exact Mx.S_congr fun j _ => by grind
      show -(x i / ((1 : Nat) : Rat)) ≤ S n (fun j => pq (rowAt rows i) j * -(x j / ((1 : Nat) : Rat)))
      rw [e]
      by_cases hik : i = k
      · rw [if_pos hik] at h; grind
      · rw [if_neg hik] at h; grind) i hi
    grind
/-- a flow is given by its starts -/
theorem Flw.at (hn : 1 ≤ n) (hn4 : n ≤ 4) (hl : rows.length = n) (hr : ∀ r ∈ rows, RowOk n 8 r) {k : Nat} (hk : k < n) : ∃ y : Nat → Rat, (∀ i, i < n → 0 ≤ y i) ∧ ∀ s f, Flw n rows s f → f k = S n fun j => y j * s j := by
  obtain ⟨y, y1, y2⟩ := unit_val hn hn4 hl hr hk
  refine ⟨y, y2, fun s f hf => ?_⟩
  have h1 : S n (fun i => f i * (y i - S n fun j => pq (rowAt rows i) j * y j)) = f k := by
    have e : S n (fun i => f i * (y i - S n fun j => pq (rowAt rows i) j * y j)) = S n (fun i => f i * if i = k then 1 else 0) := Mx.S_congr fun i hi => by rw [y1 i hi]
    rw [e, Mx.S_one hk fun i hi hn => by rw [if_neg hn]; grind, if_pos rfl]
    grind
  have h2 := dual (n := n) (p := fun i => pq (rowAt rows i)) (f := f) (y := y)
  have h3 : S n (fun j => y j * (f j - S n fun i => pq (rowAt rows i) j * f i)) = S n fun j => y j * s j := Mx.S_congr fun j hj => by rw [hf j hj]
  rw [← h1]
  exact h2.trans h3
theorem Flw.uniq (hn : 1 ≤ n) (hn4 : n ≤ 4) (hl : rows.length = n) (hr : ∀ r ∈ rows, RowOk n 8 r) {s f g : Nat → Rat} (hf : Flw n rows s f) (hg : Flw n rows s g) : ∀ k, k < n → f k = g k := fun k hk => by
  obtain ⟨y, _, h⟩ := Flw.at hn hn4 hl hr hk
  rw [h s f hf, h s g hg]
theorem Flw.nn (hn : 1 ≤ n) (hn4 : n ≤ 4) (hl : rows.length = n) (hr : ∀ r ∈ rows, RowOk n 8 r) {s f : Nat → Rat} (hs : ∀ j, j < n → 0 ≤ s j) (hf : Flw n rows s f) : ∀ k, k < n → 0 ≤ f k := fun k hk => by
  obtain ⟨y, y0, h⟩ := Flw.at hn hn4 hl hr hk
  rw [h s f hf]
  exact Mx.S_nonneg fun j hj => Rat.mul_nonneg (y0 j hj) (hs j hj)
/-! ### the equations -/
def lineF (c : Nat) (rows : List Row) (j : Nat) : List Int := (List.range rows.length).map fun i => (c : Int) * (if j = i then 1 else 0) - gi (rowAt rows i).2 j * ((c : Int) / (rowAt rows i).1)
def eqF (c : Nat) (rows : List Row) (ss : List Int) (j : Nat) : List Int × Int := (lineF c rows j, (c : Int) * gi ss j)
def eqsF (c : Nat) (rows : List Row) (ss : List Int) : List (List Int × Int) := (List.range rows.length).map (eqF c rows ss)
theorem dot_lineF (hl : rows.length = n) (hr : ∀ r ∈ rows, RowOk n 8 r) {c : Nat} (hc : ∀ r ∈ rows, r.1 ∣ (c : Int)) {j : Nat} (hj : j < n) (y : Nat → Rat) : dot n (lineF c rows j) y = (c : Rat) * (y j - S n fun i => pq (rowAt rows i) j * y i) := by
  have kk : ((c : Int) : Rat) = (c : Rat) := Rat.intCast_natCast c
  unfold dot
  have e : S n (fun i => (gi (lineF c rows j) i : Rat) * y i) = S n (fun i => (c : Rat) * (if j = i then y i else 0) - (c : Rat) * (pq (rowAt rows i) j * y i)) := Mx.S_congr fun i hi => by
    have R := hr _ (rowAt_mem (rows := rows) (i := i) (by omega))
    have tq : ((rowAt rows i).1 : Rat) ≠ 0 := by
      have : (0 : Rat) < ((rowAt rows i).1 : Rat) := by exact_mod_cast R.pos
      grind
    obtain ⟨k, hk⟩ := hc _ (rowAt_mem (rows := rows) (i := i) (by omega))
    have eg : gi (lineF c rows j) i = (c : Int) * (if j = i then 1 else 0) - gi (rowAt rows i).2 j * ((c : Int) / (rowAt rows i).1) := gi_map (by rw [List.getElem?_range (by omega)])
    have ek : (c : Int) / (rowAt rows i).1 = k := by rw [hk]; exact Int.mul_ediv_cancel_left _ (by have := R.pos; omega)
    have ck : (c : Rat) = ((rowAt rows i).1 : Rat) * (k : Rat) := by rw [← kk, hk, Rat.intCast_mul]
    rw [eg, ek, Rat.intCast_sub, Rat.intCast_mul, Rat.intCast_mul, pq_mul R j, kk]
    by_cases e : j = i
    · rw [if_pos e, if_pos e]
      have : ((1 : Int) : Rat) = 1 := rfl
      rw [this]
      grind
    · rw [if_neg e, if_neg e]
      have : ((0 : Int) : Rat) = 0 := rfl
      rw [this]
      grind
  rw [e, Mx.S_sub, Mx.S_mul, Mx.S_mul, Mx.S_one hj fun i hi hn => by rw [if_neg (Ne.symm hn)], if_pos rfl]
  grind
theorem eqsF_iff (hl : rows.length = n) (hr : ∀ r ∈ rows, RowOk n 8 r) {c : Nat} (c0 : 0 < c) (hc : ∀ r ∈ rows, r.1 ∣ (c : Int)) {ss : List Int} {x : Nat → Rat} : Solves n (eqsF c rows ss) x ↔ Flw n rows (fun j => (gi ss j : Rat)) x := by
  have cq : (c : Rat) ≠ 0 := by
    have : (0 : Rat) < (c : Rat) := by exact_mod_cast c0
    grind
  have kk : ((c : Int) : Rat) = (c : Rat) := Rat.intCast_natCast c
  have key : ∀ j, j < n → (dot n (eqF c rows ss j).1 x = ((eqF c rows ss j).2 : Rat) ↔ x j - S n (fun i => pq (rowAt rows i) j * x i) = (gi ss j : Rat)) := fun j hj => by
    show dot n (lineF c rows j) x = (((c : Int) * gi ss j : Int) : Rat) ↔ _
    rw [dot_lineF hl hr hc hj, Rat.intCast_mul, kk]
    constructor
    · intro h; grind
    · intro h; grind
  constructor
  · intro h j hj
    exact (key j hj).mp (h _ (List.mem_map.mpr ⟨j, by simp [hl, hj], rfl⟩))
  · intro h q hq
    obtain ⟨j, hj, rfl⟩ := List.mem_map.mp hq
    have hj' : j < n := by rw [← hl]; simpa using hj
    exact (key j hj').mpr (h j hj')
end
end Wk
end
section
set_option Elab.async false
set_option linter.all false
set_option maxRecDepth 100000
/-! D22: flow_by. -/
namespace Wk
open PySem PySem.Spec L3
local macro_rules | `(tactic| walk_at "dv") => `(tactic| simp only [q_dDef, q_sh0, List.map_cons, List.map_nil, List.cons_append, List.nil_append, q_dSq, q_dNext, q_dSet, q_dSetF, q_dSetO, q_dRet, q_dRetN, q_dIfS, q_dNever, q_dWhile, q_dFor, q_dPar, q_dAsg, q_dDrop,
  q_dFrz, q_dApp, q_dAppF, q_dPut, q_dPutF, q_dAttrN, q_dAttrFN, q_dFldN,
  List.getElem?_cons_zero, List.getElem?_cons_succ, List.set_cons_zero, List.set_cons_succ, q_setS0, q_setSc, q_setSs0, q_setSsc, q_setD0, q_setDc, q_wipe0, q_wipec,
  shOf_nil, shOf_c, shO_n, shO_s, shO_o, shO_i, alOf_nil, alOf_c, alO_n, alO_s, alO_o, alO_i, dVar_0, dVar_s, q_dC, q_dBin, q_dBinL, q_dTest, q_dChain, q_dNot, q_dNotV, q_dAnd, q_dAndV, q_dOr, q_dOrV, q_dIf, q_dNeg, q_dCall, q_dCallL, q_dCons, q_dNil, q_dStar, q_dLst, q_dTup, q_dLen, q_dxCons, q_dxNil, q_dxP, q_dxO, q_dYes,
  asInt_int, asBl_bl, asSeq_l, asSeq_t, asLst_l, asTup_t, asObj_o, arg1_, arg2_, arg3_, q_gDef, q_gMake, q_gI0, q_gI, gEq_int, gNe_int, q_gLen, q_gAbs, q_gMax2, q_gMin2, q_gInt_i, q_gInt_b, q_gTuple, q_gList, gIx_0, gIx_1, gIx_0l, gIx_1l, q_gCatL, q_gRepL, q_gCatT, q_gRepT, isi_, isi_int_int, isi_bool_int, isi_tup_tup, isiT_, isiT_lst, isiT_tup, isC_, isCK_o, q_dSeqI, q_dEnumI, q_dZip2, q_dZip3, q_dRng1, q_dRng2, q_dLc, q_gIsB, q_gNotB, q_dSlL, q_dSlT, q_dNoP, q_dSoP,
  List.length_cons, List.length_nil, true_and, and_true, Bool.not_true, Bool.not_false, if_true, Bool.false_eq_true, if_false])
local macro_rules | `(tactic| walk_at "dh") => `(tactic| ((try simp only [fM_eq, fN_eq]); repeat (first | walk_at "dv" | simp only [q_dMv, q_dNv, fMoves_h, fMany_h, isCK_h, asSeq_rT])))
open Mx (S Sub)
def eqsV (c : Nat → Nat) (rows : List Row) (ss : List Int) : List (List Int × Int) := (List.range rows.length).map fun j => eqF (c j) rows ss j
/-- common multiples of the totals -/
def Cm (rows : List Row) (c : Nat) : Prop := 0 < c ∧ c < 2 ^ 33 ∧ ∀ r ∈ rows, r.1 ∣ (c : Int)
section
variable {n : Nat} {rows : List Row} {ss : List Int} {c : Nat → Nat}
theorem eqsV_iff (hl : rows.length = n) (hr : ∀ r ∈ rows, RowOk n 8 r) (hc : ∀ j, j < n → Cm rows (c j)) {x : Nat → Rat} : Solves n (eqsV c rows ss) x ↔ Flw n rows (fun j => (gi ss j : Rat)) x := by
  have key : ∀ j, j < n → (dot n (eqF (c j) rows ss j).1 x = ((eqF (c j) rows ss j).2 : Rat) ↔ x j - S n (fun i => pq (rowAt rows i) j * x i) = (gi ss j : Rat)) := fun j hj => by
    obtain ⟨c0, _, hd⟩ := hc j hj
    have cq : (c j : Rat) ≠ 0 := by
      have : (0 : Rat) < (c j : Rat) := by exact_mod_cast c0
      grind
    have kk : ((c j : Int) : Rat) = (c j : Rat) := Rat.intCast_natCast (c j)
    show dot n (lineF (c j) rows j) x = (((c j : Int) * gi ss j : Int) : Rat) ↔ _
    rw [dot_lineF hl hr hd hj, Rat.intCast_mul, kk]
    constructor
    · intro h; grind
    · intro h; grind
  constructor
  · intro h j hj
    exact (key j hj).mp (h _ (List.mem_map.mpr ⟨j, by simp [hl, hj], rfl⟩))
  · intro h q hq
    obtain ⟨j, hj, rfl⟩ := List.mem_map.mp hq
    have hj' : j < n := by rw [← hl]; simpa using hj
    exact (key j hj').mpr (h j hj')
theorem eqsV_sys (hn : 1 ≤ n) (hn4 : n ≤ 4) (hl : rows.length = n) (hr : ∀ r ∈ rows, RowOk n 8 r) (hs : ss.length = n) (hsm : Sm 8 ss) (hc : ∀ j, j < n → Cm rows (c j)) : Sys n 52 (eqsV c rows ss) := by
  have mem : ∀ q ∈ eqsV c rows ss, ∃ j, j < n ∧ q = eqF (c j) rows ss j := fun q hq => by
    obtain ⟨i, hi, rfl⟩ := List.mem_map.mp hq
    exact ⟨i, by rw [← hl]; simpa using hi, rfl⟩
  have b9 : bnd 52 n ≤ 4000 := Nat.le_trans (bnd_mono 52 hn4) (by decide)
  refine ⟨hn, by omega, by simp [eqsV, hl], fun q hq => ?_, fun v hv => ?_, fun q hq => ?_, by decide, b9⟩
  · obtain ⟨i, hi, rfl⟩ := mem q hq
    show (lineF (c i) rows i).length = n
    unfold lineF
    simp [hl]
  · have hF : Flw n rows (fun _ => 0) v := fun j hj => by
      obtain ⟨c0, _, hd⟩ := hc j hj
      have cq : (c j : Rat) ≠ 0 := by
        have : (0 : Rat) < (c j : Rat) := by exact_mod_cast c0
        grind
      have h := hv (eqF (c j) rows ss j) (List.mem_map.mpr ⟨j, by simp [hl, hj], rfl⟩)
      have h2 : dot n (lineF (c j) rows j) v = 0 := h
      rw [dot_lineF hl hr hd hj] at h2
      exact (Rat.mul_eq_zero.mp h2).resolve_left cq
    have h0 : Flw n rows (fun _ => 0) fun _ => 0 := fun j hj => by
      rw [Mx.S_zero fun i _ => by grind]
      grind
    exact Flw.uniq hn hn4 hl hr hF h0
  · obtain ⟨j, hj, rfl⟩ := mem q hq
    obtain ⟨c0, c9, hd⟩ := hc j hj
    refine ⟨fun m hm => ?_, ?_⟩
    · have hm : m ∈ lineF (c j) rows j := hm
      unfold lineF at hm
      obtain ⟨i, hi, rfl⟩ := List.mem_map.mp hm
      have hi' : i < n := by rw [← hl]; simpa using hi
      have R := hr _ (rowAt_mem (rows := rows) (i := i) (by omega))
      obtain ⟨k, hk⟩ := hd _ (rowAt_mem (rows := rows) (i := i) (by omega))
      have tp := R.pos
      have ek : (c j : Int) / (rowAt rows i).1 = k := by rw [hk]; exact Int.mul_ediv_cancel_left _ (by omega)
      have k0 : 0 ≤ k := by
        refine Classical.byContradiction fun hn => ?_
        have : (rowAt rows i).1 * k ≤ (rowAt rows i).1 * 0 := Int.mul_le_mul_of_nonneg_left (by omega) (by omega)
        omega
      have z := R.num (gi (rowAt rows i).2 j) (List.mem_of_getElem? (gi_get (by rw [R.len]; exact hj)))
      have h1 : gi (rowAt rows i).2 j * k ≤ (rowAt rows i).1 * k := Int.mul_le_mul_of_nonneg_right (by omega) k0
      have h2 : 0 ≤ gi (rowAt rows i).2 j * k := Int.mul_nonneg z.1 k0
      have : (2 : Nat) ^ 33 ≤ 2 ^ 52 := by decide
      rw [ek]
      split <;> omega
    · have : ((c j : Int) * gi ss j).natAbs < 2 ^ (33 + 8) := L2.wide_lt (by simpa using c9) (hsm.gi j)
      exact Nat.lt_of_lt_of_le this (by decide)
end
theorem zip3_map {α β γ : Type} {f : α → D} {g : β → D} {h : γ → D} : ∀ (a : List α) (b : List β) (c : List γ), zip3D (a.map f) (b.map g) (c.map h) = (a.zip (b.zip c)).map fun p => D.tup [f p.1, g p.2.1, h p.2.2]
  | [], _, _ => rfl
  | _ :: _, [], _ => rfl
  | _ :: _, _ :: _, [] => rfl
  | x :: a, y :: b, z :: c => by
    show D.tup [f x, g y, h z] :: zip3D (a.map f) (b.map g) (c.map h) = _
    rw [zip3_map a b c]
    rfl
theorem encRow_0 {r : Row} {Q : DK} : gIx (encRow r) (.int 0) Q = Q (.int r.1) := gIx_0
theorem encRow_1 {r : Row} {Q : DK} : gIx (encRow r) (.int 1) Q = Q (.tup (dis r.2)) := gIx_1
theorem zipIdx_range {α : Type} {rows : List Row} {f : Row × Nat → α} : rows.zipIdx.map f = (List.range rows.length).map fun k => f (rowAt rows k, k) := by
  apply List.ext_getElem?
  intro i
  rw [List.getElem?_map, List.getElem?_map, List.getElem?_zipIdx]
  by_cases h : i < rows.length
  · rw [List.getElem?_range h, List.getElem?_eq_getElem h]
    have : rowAt rows i = rows[i] := by unfold rowAt; rw [List.getD_eq_getElem?_getD, List.getElem?_eq_getElem h]; rfl
    simp [this]
  · rw [List.getElem?_eq_none (by omega), List.getElem?_eq_none (by simpa using h)]
    rfl
/-- the flow by moves: all of it by the plan's -/
def flowP (n : Nat) (M : List (List Row)) (plan : List Nat) (F : Nat → Rat) : List (List Rat) := (List.range n).map fun i => (List.range (M.getD i []).length).map fun k => if k = plan.getD i 0 then F i else 0
section
variable {n : Nat} {M : List (List Row)} {plan : List Nat} {T : Int} {ss : List Int} {Q : DK}
theorem flow_by_ok (H : HouseOk n 8 M) (hn4 : n ≤ 4) (P : PlanOk M plan) (hT : 0 < T) (hT8 : T.natAbs < 2 ^ 8) (hs : ss.length = n) (hsm : Sm 8 ss)
    (h : ∀ F : Nat → Rat, Flw n (rowsF M plan) (fun j => (gi ss j : Rat) / (T : Rat)) F → Vz n F → Q (encParts (flowP n M plan F))) : p_flow_by [encHouse M, encR T ss, encPlan plan] Q := by
  have hn1 := H.n1
  have hln := H.len
  obtain ⟨r1, r2⟩ := rowsF_ok H P
  obtain ⟨rows, hrows⟩ : ∃ rows, rows = rowsF M plan := ⟨_, rfl⟩
  rw [← hrows] at r1 r2 h
  have rng : ∀ m : Nat, m ≤ 1000 → Rng (m : Int) := fun m hm => by unfold Rng; omega
  unfold p_flow_by t_flow_by
  walk_at "dh"
  refine rows_of_ok H P ?_
  rw [← hrows]
  try walk_at "dh"
  refine ⟨line_ok (by decide), ?_⟩
  rw [hln]
  refine ⟨rng n (by omega), ?_⟩
  rw [Int.toNat_natCast]
  refine for_range (fun i ρ => ∃ (c : Nat → Nat) (o5 o6 o7 o8 o9 o10 o11 o12 o13 o14 o15 o16 : Option L3.S), ρ = [some (.sh (encHouse M)), some (.sh (encR T ss)), some (.sh (encPlan plan)), some (.sh (.tup (rows.map encRow))), some (.ow ((List.range i).map fun j => encEq (eqF (c j) rows ss j))), o5, o6, o7, o8, o9, o10, o11, o12, o13, o14, o15, o16] ∧ ∀ j, j < i → Cm rows (c j))
    ⟨fun _ => 1, none, none, none, none, none, none, none, none, none, none, none, none, rfl, fun j hj => by omega⟩ ?_ ?_
  · rintro i ρ hi ⟨c, o5, o6, o7, o8, o9, o10, o11, o12, o13, o14, o15, o16, rfl, hc⟩
    refine ⟨_, rfl, fun N hN => ?_⟩
    walk_at "dh"
    refine lc_of (f := fun (r : Row) => D.int r.1) (fun r hr => ⟨_, rfl, fun Q h => ?_⟩) (by simp [r1]; exact line_ok (by omega)) ?_
    · unfold encRow encR
      walk_at "dh"
      exact h
    rw [List.nil_append]
    have e1 : rows.map (fun (r : Row) => D.int r.1) = dis ((rows.map fun r => r.1.toNat).map fun (m : Nat) => (m : Int)) := by
      unfold dis
      rw [List.map_map, List.map_map]
      refine List.map_congr_left fun r hr => ?_
      have := (r2 r hr).pos
      show D.int r.1 = D.int ((r.1.toNat : Nat) : Int)
      rw [Int.toNat_of_nonneg (by omega)]
    rw [e1]
    refine multiple_ok (b := 8) (.inl rfl) (fun m hm => ?_) (by simp [r1]; omega) fun c0 cp c9 cd => ?_
    · obtain ⟨r, hr, rfl⟩ := List.mem_map.mp hm
      have := (r2 r hr).pos
      have := (r2 r hr).sm
      exact ⟨by omega, by omega⟩
    have C : Cm rows c0 := ⟨cp, Nat.lt_of_lt_of_le c9 (Nat.pow_le_pow_right (by decide) (by simp [r1]; omega)), fun r hr => by
      have := cd _ (List.mem_map.mpr ⟨r, hr, rfl⟩)
      have hp := (r2 r hr).pos
      have e : r.1 = ((r.1.toNat : Nat) : Int) := (Int.toNat_of_nonneg (by omega)).symm
      rw [e]
      exact Int.natCast_dvd_natCast.mpr this⟩
    try walk_at "dh"
    rw [enum_zip]
    refine lc_of (f := fun (q : Row × Nat) => D.int ((c0 : Int) * (if ((i : Int) == ((q.2 : Nat) : Int)) = true then 1 else 0) - gi q.1.2 i * ((c0 : Int) / q.1.1))) (fun q hq => ⟨_, rfl, fun Q h => ?_⟩) (by simp [r1]; exact line_ok (by omega)) ?_
    · have R := r2 _ (List.fst_mem_of_mem_zipIdx hq)
      have tp := R.pos
      have ts := R.sm
      have cs := C.2.1
      walk_at "dh"
      refine ⟨mulB (a := 33) (b := 1) (natAbs_den cs) (by split <;> decide), ?_⟩
      rw [encRow_1, gIx_t (by rw [R.len]; exact hi)]
      walk_at "dh"
      rw [encRow_0]
      walk_at "dh"
      obtain ⟨t, ht⟩ : ∃ t : Nat, q.1.1 = (t : Int) := ⟨q.1.1.toNat, by omega⟩
      rw [ht] at h ⊢
      have z := (R.num (gi q.1.2 i) (List.mem_of_getElem? (gi_get (by rw [R.len]; exact hi)))).2.2
      exact ⟨divB (b := 8) (by omega) (by omega), mulB z (Nat.lt_of_le_of_lt (Int.natAbs_ediv_le_natAbs _ _) (natAbs_den cs)), h⟩
    rw [List.nil_append]
    have e2 : rows.zipIdx.map (fun (q : Row × Nat) => D.int ((c0 : Int) * (if ((i : Int) == ((q.2 : Nat) : Int)) = true then 1 else 0) - gi q.1.2 i * ((c0 : Int) / q.1.1))) = dis (lineF c0 rows i) := by
      rw [zipIdx_range]
      unfold lineF
      rw [← dis_map]
      refine List.map_congr_left fun k _ => ?_
      by_cases e : i = k
      · subst e
        simp
      · have : ¬ ((i : Int) == (k : Int)) = true := by simp; omega
        simp [e, this]
    rw [e2]
    unfold encR
    walk_at "dh"
    rw [gIx_t (by omega)]
    walk_at "dh"
    refine ⟨mulB (a := 33) (natAbs_den C.2.1) (hsm.gi i), line_ok (by decide), ?_, ?_⟩
    · simp
      exact Nat.lt_of_lt_of_le (Nat.lt_succ_self i) (line_ok (by omega))
    · have e3 : (List.range i).map (fun j => encEq (eqF (c j) rows ss j)) ++ [D.tup [D.tup (dis (lineF c0 rows i)), D.int ((c0 : Int) * gi ss i)]] = (List.range (i + 1)).map fun j => encEq (eqF (if j = i then c0 else c j) rows ss j) := by
        rw [List.range_succ, List.map_append]
        congr 1
        · refine List.map_congr_left fun j hj => ?_
          have : j < i := by simpa using hj
          rw [if_neg (by omega)]
        · show _ = [encEq (eqF (if i = i then c0 else c i) rows ss i)]
          rw [if_pos rfl]
          rfl
      rw [e3]
      refine hN _ ⟨fun j => if j = i then c0 else c j, _, _, _, _, _, _, _, _, _, _, _, _, rfl, fun j hj => ?_⟩
      show Cm rows (if j = i then c0 else c j)
      by_cases e : j = i
      · rw [if_pos e]; exact C
      · rw [if_neg e]; exact hc j (by omega)
  · rintro ρ ⟨c, o5, o6, o7, o8, o9, o10, o11, o12, o13, o14, o15, o16, rfl, hc⟩
    have Y := eqsV_sys hn1 hn4 r1 r2 hs hsm hc
    obtain ⟨x, hx⟩ := Y.ex
    have hF := (eqsV_iff r1 r2 hc).mp hx
    have e5 : (List.range n).map (fun j => encEq (eqF (c j) rows ss j)) = (eqsV c rows ss).map encEq := by unfold eqsV; rw [List.map_map, r1]; rfl
    rw [e5]
    have b9 : bnd 52 n ≤ 847 := Nat.le_trans (bnd_mono 52 hn4) (by decide)
    have nb : n * bnd 52 n ≤ 4 * 847 := Nat.mul_le_mul hn4 b9
    try walk_at "dv"
    refine answer_ok Y hx (by omega) fun sc ns A => ⟨_, rfl, ?_⟩
    have sp := A.pos
    have ss' : sc.natAbs < 2 ^ 3389 := Nat.lt_of_lt_of_le A.ssm (Nat.pow_le_pow_right (by decide) (by omega))
    obtain ⟨m, hm⟩ : ∃ m : Nat, sc = (m : Int) := ⟨sc.toNat, by omega⟩
    subst hm
    obtain ⟨t, ht⟩ : ∃ t : Nat, T = (t : Int) := ⟨T.toNat, by omega⟩
    have m0 : 0 < m := by omega
    have t0 : 0 < t := by omega
    have t8 : t < 2 ^ 8 := by omega
    have ms : m < 2 ^ 3389 := by simpa using ss'
    have D0 : 0 < m * t := Nat.mul_pos m0 t0
    have D9 : m * t < 2 ^ 3397 := by
      have := Nat.mul_lt_mul'' ms t8
      rw [← Nat.pow_add] at this
      exact this
    have tq : (t : Rat) ≠ 0 := by
      have : (0 : Rat) < (t : Rat) := by exact_mod_cast t0
      grind
    have mq : (m : Rat) ≠ 0 := by
      have : (0 : Rat) < (m : Rat) := by exact_mod_cast m0
      grind
    have Tq : (T : Rat) = (t : Rat) := by rw [ht]; exact Rat.intCast_natCast t
    have val : ∀ j, j < n → mkRat (gi ns j) (m * t) = x j / (t : Rat) := fun j hj => by
      have h1 := A.val j hj
      rw [Rat.mkRat_eq_div, h1]
      have h2 : (((m : Nat) : Int) : Rat) = (m : Rat) := Rat.intCast_natCast m
      have h3 : ((m * t : Nat) : Rat) = (m : Rat) * (t : Rat) := by exact_mod_cast rfl
      rw [h2, h3]
      grind
    have FF : Flw n rows (fun j => (gi ss j : Rat) / (T : Rat)) fun j => x j / (t : Rat) := fun j hj => by
      have h1 : x j - S n (fun i => pq (rowAt rows i) j * x i) = (gi ss j : Rat) := hF j hj
      have e : S n (fun i => pq (rowAt rows i) j * (x i / (t : Rat))) = (1 / (t : Rat)) * S n (fun i => pq (rowAt rows i) j * x i) := by
        rw [← Mx.S_mul]
        exact Mx.S_congr fun i _ => by grind
      show x j / (t : Rat) - S n (fun i => pq (rowAt rows i) j * (x i / (t : Rat))) = (gi ss j : Rat) / (T : Rat)
      rw [e, Tq, ← h1]
      grind
    have zF : Vz n fun j => x j / (t : Rat) := ⟨m * t, D0, Nat.lt_of_lt_of_le D9 (Nat.pow_le_pow_right (by decide) (by decide)), fun j hj => by
      show CD (m * t) (2 ^ 4400) (x j / (t : Rat))
      rw [← val j hj]
      exact CD.of (Nat.le_of_lt (Nat.lt_of_lt_of_le (A.nsm.gi j) (Nat.pow_le_pow_right (by decide) (by omega))))⟩
    have hfin := h _ FF zF
    obtain ⟨F, hFe⟩ : ∃ F : Nat → Rat, F = fun j => x j / (t : Rat) := ⟨_, rfl⟩
    rw [← hFe] at hfin
    have val' : ∀ j, j < n → mkRat (gi ns j) (m * t) = F j := fun j hj => by rw [hFe]; exact val j hj
    walk_at "dh"
    refine ⟨line_ok (by decide), ?_⟩
    unfold encPlan
    walk_at "dh"
    rw [show dis ns = ns.map D.int from rfl, zip3_map]
    have part : ∀ i, i < n → ∃ rs k, M[i]? = some rs ∧ plan[i]? = some k ∧ M.getD i [] = rs ∧ plan.getD i 0 = k := fun i hi => by
      obtain ⟨rs, h1⟩ : ∃ rs, M[i]? = some rs := ⟨_, List.getElem?_eq_getElem (by omega)⟩
      obtain ⟨k, h2⟩ : ∃ k, plan[i]? = some k := ⟨_, List.getElem?_eq_getElem (by rw [P.1]; omega)⟩
      exact ⟨rs, k, h1, h2, by rw [List.getD_eq_getElem?_getD, h1]; rfl, by rw [List.getD_eq_getElem?_getD, h2]; rfl⟩
    refine for_at (fun i ρ => ∃ (o11 o12 o13 o14 o15 o16 : Option L3.S), ρ = [some (.sh (encHouse M)), some (.sh (encR T ss)), some (.sh (.tup (plan.map fun (k : Nat) => D.int (k : Int)))), some (.sh (.tup (rows.map encRow))), some (.sh (.lst ((eqsV c rows ss).map encEq))), o5, o6, o7, some (.sh (.int (m : Int))), some (.sh (.tup (ns.map D.int))),
        some (.ow ((List.range i).map fun i => D.tup (((List.range (M.getD i []).length).map fun k => if k = plan.getD i 0 then F i else 0).map rt))), o11, o12, o13, o14, o15, o16]) ⟨_, _, _, _, _, _, rfl⟩ ?_ ?_
    · rintro i ⟨rs, k, z⟩ ρ hi ⟨o11, o12, o13, o14, o15, o16, rfl⟩
      rw [List.getElem?_zip_eq_some, List.getElem?_zip_eq_some] at hi
      obtain ⟨h1, h2, h3⟩ := hi
      have h1 : M[i]? = some rs := h1
      have h2 : plan[i]? = some k := h2
      have h3 : ns[i]? = some z := h3
      have hin : i < n := by rw [← hln]; exact (List.getElem?_eq_some_iff.mp h1).1
      have ez : z = gi ns i := (gi_of h3).symm
      have e1 : M.getD i [] = rs := by rw [List.getD_eq_getElem?_getD, h1]; rfl
      have e2 : plan.getD i 0 = k := by rw [List.getD_eq_getElem?_getD, h2]; rfl
      have hrs := H.some_ rs (List.mem_of_getElem? h1)
      have zs : z.natAbs < 2 ^ 8000 := Nat.lt_of_lt_of_le (ez ▸ A.nsm.gi i) (Nat.pow_le_pow_right (by decide) (by omega))
      refine ⟨_, rfl, fun N hN => ?_⟩
      walk_at "dh"
      rw [List.length_map]
      refine ⟨rng _ (by omega), ?_⟩
      rw [Int.toNat_natCast, rangeD_eq]
      refine lc_of (f := fun (k' : Nat) => rt (if k' = k then F i else 0)) (fun k' _ => ⟨_, rfl, fun Q h => ?_⟩) (by simp; exact line_ok (by omega)) ?_
      · unfold encR
        walk_at "dh"
        refine ⟨mulB (b := 1) zs (by split <;> decide), ?_⟩
        rw [ht]
        refine ⟨mulB (a := 3389) (b := 8) (natAbs_den ms) (natAbs_den t8), ?_⟩
        rw [← Int.natCast_mul]
        refine ratio_ok D0 (Nat.lt_of_lt_of_le D9 (Nat.pow_le_pow_right (by decide) (by decide))) ?_
        by_cases e : k' = k
        · subst e
          rw [if_pos rfl] at h
          rw [if_pos (by simp), Int.mul_one, ez, val' i hin]
          exact h
        · rw [if_neg e] at h
          rw [if_neg (by simp; omega), Int.mul_zero, Rat.zero_mkRat]
          exact h
      rw [List.nil_append]
      walk_at "dh"
      refine ⟨by simp; exact Nat.lt_of_lt_of_le (Nat.lt_succ_self i) (line_ok (by omega)), ?_⟩
      have e6 : (List.range i).map (fun i => D.tup (((List.range (M.getD i []).length).map fun k => if k = plan.getD i 0 then F i else 0).map rt)) ++ [D.tup ((List.range rs.length).map fun (k' : Nat) => rt (if k' = k then F i else 0))] = (List.range (i + 1)).map fun i => D.tup (((List.range (M.getD i []).length).map fun k => if k = plan.getD i 0 then F i else 0).map rt) := by
        rw [List.range_succ, List.map_append]
        congr 1
        show _ = [D.tup (((List.range (M.getD i []).length).map fun k => if k = plan.getD i 0 then F i else 0).map rt)]
        rw [e1, e2, List.map_map]
        rfl
      rw [e6]
      exact hN _ ⟨_, _, _, _, _, _, rfl⟩
    · rintro ρ ⟨o11, o12, o13, o14, o15, o16, rfl⟩
      walk_at "dh"
      have el : (M.zip (plan.zip ns)).length = n := by simp [hln, P.1, A.len]
      rw [el]
      unfold encParts flowP at hfin
      rw [List.map_map] at hfin
      exact hfin
end
end Wk
end
section
set_option Elab.async false
set_option linter.all false
set_option maxRecDepth 100000
/-! D23: Walk, walk_of, flow_of, are_counts. -/
namespace Wk
open PySem PySem.Spec L3
local macro_rules | `(tactic| walk_at "dv") => `(tactic| simp only [q_dDef, q_sh0, List.map_cons, List.map_nil, List.cons_append, List.nil_append, q_dSq, q_dNext, q_dSet, q_dSetF, q_dSetO, q_dRet, q_dRetN, q_dIfS, q_dNever, q_dWhile, q_dFor, q_dPar, q_dAsg, q_dDrop,
  q_dFrz, q_dApp, q_dAppF, q_dPut, q_dPutF, q_dAttrN, q_dAttrFN, q_dFldN,
  List.getElem?_cons_zero, List.getElem?_cons_succ, List.set_cons_zero, List.set_cons_succ, q_setS0, q_setSc, q_setSs0, q_setSsc, q_setD0, q_setDc, q_wipe0, q_wipec,
  shOf_nil, shOf_c, shO_n, shO_s, shO_o, shO_i, alOf_nil, alOf_c, alO_n, alO_s, alO_o, alO_i, dVar_0, dVar_s, q_dC, q_dBin, q_dBinL, q_dTest, q_dChain, q_dNot, q_dNotV, q_dAnd, q_dAndV, q_dOr, q_dOrV, q_dIf, q_dNeg, q_dCall, q_dCallL, q_dCons, q_dNil, q_dStar, q_dLst, q_dTup, q_dLen, q_dxCons, q_dxNil, q_dxP, q_dxO, q_dYes,
  asInt_int, asBl_bl, asSeq_l, asSeq_t, asLst_l, asTup_t, asObj_o, arg1_, arg2_, arg3_, q_gDef, q_gMake, q_gI0, q_gI, gEq_int, gNe_int, q_gLen, q_gAbs, q_gMax2, q_gMin2, q_gInt_i, q_gInt_b, q_gTuple, q_gList, gIx_0, gIx_1, gIx_0l, gIx_1l, q_gCatL, q_gRepL, q_gCatT, q_gRepT, isi_, isi_int_int, isi_bool_int, isi_tup_tup, isiT_, isiT_lst, isiT_tup, isC_, isCK_o, q_dSeqI, q_dEnumI, q_dZip2, q_dZip3, q_dRng1, q_dRng2, q_dLc, q_gIsB, q_gNotB, q_dSlL, q_dSlT, q_dNoP, q_dSoP,
  List.length_cons, List.length_nil, true_and, and_true, Bool.not_true, Bool.not_false, if_true, Bool.false_eq_true, if_false])
local macro_rules | `(tactic| walk_at "dh") => `(tactic| ((try simp only [fM_eq, fN_eq]); repeat (first | walk_at "dv" | simp only [q_dMv, q_dNv, fMoves_h, fMany_h, isCK_h, asSeq_rT])))
open Mx (S Sub)
def encWalk (rows : List Row) : D := .obj 0 [.tup (rows.map encRow), .int (rows.length : Int)]
section
variable {n b : Nat} {rows : List Row} {M : List (List Row)} {plan : List Nat} {T : Int} {ss : List Int} {Q : DK}
theorem Walk_ok {x : D} (hx : x = .lst (rows.map encRow) ∨ x = .tup (rows.map encRow)) (hn : 1 ≤ n) (hn8 : n ≤ 8) (hl : rows.length = n) (hr : ∀ r ∈ rows, RowOk n b r) (hb : b ≤ 4000) (q : Q (encWalk (rows.map lp))) : gMake 0 1 p_Walk_init_ [x] Q := by
  have hx' : ∀ k, asSeq x k = k (rows.map encRow) := fun k => by rcases hx with rfl | rfl <;> rfl
  have hil : ∀ Q : DK, Q (.bl true) → p_is_list [x] Q := fun Q h => by
    rcases hx with rfl | rfl
    · exact is_list_l h
    · exact is_list_t h
  rw [q_gMake]
  refine ⟨rfl, ?_⟩
  unfold p_Walk_init_ t_Walk_init_
  rw [q_dIni]
  intro p dx
  walk_at "dv"
  refine hil _ ?_
  walk_at "dv"
  rw [hx']
  rw [List.length_map, hl, if_pos (decide_eq_true (by omega))]
  try walk_at "dv"
  rw [decide_eq_true (by omega)]
  walk_at "dv"
  rw [hx']
  refine lc_of (f := fun _ => D.bl true) (fun r hrm => ⟨_, rfl, fun Q h => ?_⟩) (by simp [hl]; exact line_ok (by omega)) ?_
  · walk_at "dv"
    rw [hx', List.length_map, hl]
    exact chance_ok (hr r hrm) (by omega) h
  rw [List.nil_append]
  refine gAll_m (p := fun _ => true) ?_
  rw [show (rows.all fun _ => true) = true by simp]
  walk_at "dv"
  rw [hx']
  refine lc_of (f := fun r => encRow (lp r)) (fun r hrm => ?_) (by simp [hl]; exact line_ok (by omega)) ?_
  · have R := hr r hrm
    refine ⟨[(2, .int r.1), (3, .tup (dis r.2))], rfl, fun Q h => ?_⟩
    walk_at "dv"
    exact least_pair_ok (.inr rfl) (by rw [R.len]; omega) R.pos (by
      have := R.sm
      have := R.pos
      exact Nat.lt_of_lt_of_le (by omega : r.1.toNat < 2 ^ b) (Nat.pow_le_pow_right (by decide) (by omega))) h
  rw [List.nil_append]
  try walk_at "dv"
  refine ⟨rfl, by decide, ⟨0, _, rfl, rfl, ?_⟩⟩
  try walk_at "dv"
  refine ⟨trivial, rfl, by decide, _, rfl, ?_⟩
  unfold encWalk at q
  rw [List.map_map] at q
  rw [List.length_map] at q ⊢
  exact q
/-! ### rows compared -/
def pyRow (r : Row) : PyData := .tuple [.int r.1, .tuple (r.2.map PyData.int)]
theorem py_row {r : Row} : py (encRow r) = some (pyRow r) := by
  unfold encRow encR pyRow
  rw [py.eq_def]
  dsimp only
  rw [pys.eq_def]
  dsimp only
  rw [pys.eq_def]
  dsimp only
  rw [pys.eq_def]
  dsimp only
  have : py (.tup (dis r.2)) = some (.tuple (r.2.map PyData.int)) := by rw [py.eq_def]; dsimp only; rw [pys_dis]; rfl
  rw [this]
  rfl
theorem walk_of_ok (H : HouseOk n b M) (P : PlanOk M plan) (hb : b ≤ 4000) (q : Q (encWalk ((rowsF M plan).map lp))) : p_walk_of [encHouse M, encPlan plan] Q := by
  obtain ⟨r1, r2⟩ := rowsF_ok H P
  unfold p_walk_of t_walk_of
  walk_at "dh"
  refine need_house_ok ?_
  try walk_at "dh"
  refine need_plan_ok H P ?_
  try walk_at "dh"
  refine rows_of_ok H P ?_
  have := Walk_ok (Q := Q) (.inr rfl) H.n1 H.n8 r1 r2 hb q
  rw [q_gMake] at this
  first
    | exact this
    | exact ⟨rfl, this.2⟩
    | exact this.2
/-- a good share -/
structure ShareOk (n : Nat) (T : Int) (ss : List Int) : Prop where
  len : ss.length = n
  pos : 0 < T
  sm : T.natAbs < 2 ^ 8
  nn : ∀ m ∈ ss, 0 ≤ m
  sum : ss.sum = T
  gcd : gcdL 0 (T :: ss) = 1
theorem ShareOk.s8 (h : ShareOk n T ss) : Sm 8 ss := fun m hm => by
  have h1 := le_sum h.nn m hm
  have h2 := h.nn m hm
  have h3 := h.sum
  have h4 := h.sm
  omega
theorem flow_of_ok (H : HouseOk n 8 M) (hn4 : n ≤ 4) (P : PlanOk M plan) (Z : ShareOk n T ss)
    (h : ∀ F : Nat → Rat, Flw n (rowsF M plan) (fun j => (gi ss j : Rat) / (T : Rat)) F → Vz n F → Q (encParts (flowP n M plan F))) : p_flow_of [encHouse M, encR T ss, encPlan plan] Q := by
  unfold p_flow_of t_flow_of
  walk_at "dh"
  refine need_house_ok ?_
  try walk_at "dh"
  refine need_share_ok (by rw [Z.len, H.len]) (by rw [Z.len]; omega) Z.nn (by have := Z.pos; omega) Z.gcd Z.sum ?_
  try walk_at "dh"
  refine need_plan_ok H P ?_
  try walk_at "dh"
  refine need_leaky_ok H ?_
  try walk_at "dh"
  exact flow_by_ok H hn4 P Z.pos Z.sm Z.len Z.s8 h
theorem are_counts_ok (H : HouseOk n b M) {gs : List (List Rat)} (P : PartsOk M gs) (h0 : ∀ g ∈ gs, ∀ q ∈ g, 0 ≤ q) (h : Q (.bl true)) : p_are_counts [encHouse M, encParts gs] Q := by
  have hn8 := H.n8
  have hln := H.len
  have hgl := P.1
  unfold p_are_counts t_are_counts
  walk_at "dh"
  refine are_parts_ok H P ?_
  walk_at "dh"
  unfold encParts
  walk_at "dh"
  refine lc_of (f := fun _ => D.bl true) (fun g hg => ⟨_, rfl, fun Q h => ?_⟩) (by simp; exact line_ok (by omega)) ?_
  · obtain ⟨i, hi⟩ := List.getElem?_of_mem hg
    have him : i < M.length := by rw [← hgl]; exact (List.getElem?_eq_some_iff.mp hi).1
    have hlen := P.2 i M[i] g (List.getElem?_eq_getElem him) hi
    have h3 := (H.some_ M[i] (List.getElem_mem him)).2
    walk_at "dh"
    refine lc_of (f := fun _ => D.bl true) (fun q hq => ⟨_, rfl, fun Q h => ?_⟩) (by simp; exact line_ok (by omega)) ?_
    · walk_at "dh"
      rw [gIx_rt0]
      walk_at "dh"
      have : 0 ≤ q.num := Rat.num_nonneg.mpr (h0 g hg q hq)
      rw [decide_eq_true this]
      exact h
    · rw [List.nil_append]
      refine gAll_m (p := fun _ => true) ?_
      rw [show (g.all fun _ => true) = true by simp]
      exact h
  · rw [List.nil_append]
    refine gAll_m (p := fun _ => true) ?_
    rw [show (gs.all fun _ => true) = true by simp]
    exact h
end
end Wk
end
section
set_option Elab.async false
set_option linter.all false
set_option maxRecDepth 100000
/-! D24: the draws. -/
namespace Wk
open PySem PySem.Spec L3
local macro_rules | `(tactic| walk_at "dv") => `(tactic| simp only [q_dDef, q_sh0, List.map_cons, List.map_nil, List.cons_append, List.nil_append, q_dSq, q_dNext, q_dSet, q_dSetF, q_dSetO, q_dRet, q_dRetN, q_dIfS, q_dNever, q_dWhile, q_dFor, q_dPar, q_dAsg, q_dDrop,
  q_dFrz, q_dApp, q_dAppF, q_dPut, q_dPutF, q_dAttrN, q_dAttrFN, q_dFldN,
  List.getElem?_cons_zero, List.getElem?_cons_succ, List.set_cons_zero, List.set_cons_succ, q_setS0, q_setSc, q_setSs0, q_setSsc, q_setD0, q_setDc, q_wipe0, q_wipec,
  shOf_nil, shOf_c, shO_n, shO_s, shO_o, shO_i, alOf_nil, alOf_c, alO_n, alO_s, alO_o, alO_i, dVar_0, dVar_s, q_dC, q_dBin, q_dBinL, q_dTest, q_dChain, q_dNot, q_dNotV, q_dAnd, q_dAndV, q_dOr, q_dOrV, q_dIf, q_dNeg, q_dCall, q_dCallL, q_dCons, q_dNil, q_dStar, q_dLst, q_dTup, q_dLen, q_dxCons, q_dxNil, q_dxP, q_dxO, q_dYes,
  asInt_int, asBl_bl, asSeq_l, asSeq_t, asLst_l, asTup_t, asObj_o, arg1_, arg2_, arg3_, q_gDef, q_gMake, q_gI0, q_gI, gEq_int, gNe_int, q_gLen, q_gAbs, q_gMax2, q_gMin2, q_gInt_i, q_gInt_b, q_gTuple, q_gList, gIx_0, gIx_1, gIx_0l, gIx_1l, q_gCatL, q_gRepL, q_gCatT, q_gRepT, isi_, isi_int_int, isi_bool_int, isi_tup_tup, isiT_, isiT_lst, isiT_tup, isC_, isCK_o, q_dSeqI, q_dEnumI, q_dZip2, q_dZip3, q_dRng1, q_dRng2, q_dLc, q_gIsB, q_gNotB, q_dSlL, q_dSlT, q_dNoP, q_dSoP,
  List.length_cons, List.length_nil, true_and, and_true, Bool.not_true, Bool.not_false, if_true, Bool.false_eq_true, if_false])
local macro_rules | `(tactic| walk_at "dh") => `(tactic| ((try simp only [fM_eq, fN_eq]); repeat (first | walk_at "dv" | simp only [q_dMv, q_dNv, fMoves_h, fMany_h, isCK_h, asSeq_rT])))
theorem q_dDrN {te : DE} {δ : DEnv} {Q : DK} : dDrN te δ Q = te δ fun x => x = .drw ∧ ∀ r : Int, 0 ≤ r → Q (.int r) := propext Iff.rfl
theorem q_dDrC {te : DE} {δ : DEnv} {Q : DK} : dDrC te δ Q = te δ fun x => x = .drw ∧ ∀ cs : List Int, (∀ x ∈ cs, 0 ≤ x) → Q (.lst (cs.map D.int)) := propext Iff.rfl
theorem q_dPop {i : Nat} {tl : DE} {δ : DEnv} {Q : DK} : dPop i tl δ Q = dVar i δ fun x => x = .drw ∧ (∀ r : Int, 0 ≤ r → Q (.int r)) ∧ tl δ Q := propext Iff.rfl
theorem q_dDput {i : Nat} {te : DE} {E : DEnds} {ρ : EnvS} : dDput i te E ρ = te (alOf ρ) fun d => asInt d fun r => 0 ≤ r ∧ ρ[i]? = some (some (.sh .drw)) ∧ E.nx ρ := propext Iff.rfl
theorem q_dScrI {te : DE} {δ : DEnv} {Q : List D → Prop} : dScrI te δ Q = te δ fun x => x = .scr ∧ ∀ ns : List Int, ns.length ≤ 63 → Q (ns.map D.int) := propext Iff.rfl
theorem q_dLenS {te : DE} {δ : DEnv} {Q : DK} : dLenS te δ Q = te δ fun x => x = .scr ∧ ∀ n : Nat, n ≤ 63 → Q (.int n) := propext Iff.rfl
local macro_rules | `(tactic| walk_at "dd") => `(tactic| repeat (first | walk_at "dv" | simp only [q_dDrN, q_dDrC, q_dPop, q_dDput, q_dScrI, q_dLenS]))
theorem mulC {i j : Int} (h : -(2 ^ 64) < j) (h2 : j < 2 ^ 64) : CMulB i j := .inl (.inr ⟨h, h2⟩)
theorem mixed_ok {Q : DK} (h : ∀ r : Int, 0 ≤ r → Q (.int r)) : p__law_mixed [.drw] Q := by
  unfold p__law_mixed t__law_mixed
  walk_at "dd"
  intro r0 hr0
  refine ⟨by omega, fun t ht => ⟨line_ok (by decide), ?_⟩⟩
  have e : [D.int 2147483647, D.int 2147483629, D.int 2147483587] = ([2147483647, 2147483629, 2147483587] : List Int).map D.int := rfl
  rw [e]
  refine for_of (fun gs ρ => (∀ g ∈ gs, 0 < g ∧ g < 2 ^ 33) ∧ ∃ (f : Int) (o3 o4 o5 : Option S), ρ = [some (.sh .drw), some (.sh (.int t)), some (.sh (.int f)), o3, o4, o5] ∧ 0 ≤ f) ⟨by decide, 0, none, none, none, rfl, by decide⟩ ?_ ?_
  · rintro g gs ρ ⟨hg, f, o3, o4, o5, rfl, hf⟩
    obtain ⟨g0, g9⟩ := hg g (List.mem_cons_self ..)
    refine ⟨_, rfl, fun N hN => ?_⟩
    walk_at "dd"
    refine ⟨mulC (by decide) (by decide), ⟨by decide, by decide⟩, g0, ?_⟩
    intro cs hcs
    refine for_of (fun (xs : List Int) ρ => ∃ (b : Int) (o5 : Option S), ρ = [some (.sh .drw), some (.sh (.int t)), some (.sh (.int f)), some (.sh (.int g)), some (.sh (.int b)), o5] ∧ 0 ≤ b ∧ b < 2 ^ 33) ⟨_, o5, rfl, Int.emod_nonneg _ (by omega), Int.lt_trans (Int.emod_lt_of_pos _ g0) g9⟩ ?_ ?_
    · rintro x xs ρ ⟨b, o5, rfl, b0, b9⟩
      refine ⟨_, rfl, fun N' hN' => ?_⟩
      walk_at "dd"
      exact ⟨mulC (by decide) (by decide), g0, hN' _ ⟨_, _, rfl, Int.emod_nonneg _ (by omega), Int.lt_trans (Int.emod_lt_of_pos _ g0) g9⟩⟩
    · rintro ρ ⟨b, o5, rfl, b0, b9⟩
      walk_at "dd"
      refine ⟨mulC (by decide) (by decide), ⟨by decide, by decide, by omega⟩, g0, ?_⟩
      refine hN _ ⟨fun z hz => hg z (List.mem_cons_of_mem _ hz), _, _, _, _, rfl, ?_⟩
      have h1 := Int.emod_nonneg (b ^ (5 : Int).toNat) (show g ≠ 0 by omega)
      omega
  · rintro ρ ⟨_, f, o3, o4, o5, rfl, hf⟩
    walk_at "dd"
    exact h f hf
theorem take_ok {a : Int} {Q : DK} (h0 : 0 < a) (h9 : a < 2 ^ 64) (h : ∀ r : Int, 0 ≤ r → r < a → Q (.int r)) : p__law_take [.drw, .int a] Q := by
  unfold p__law_take t__law_take
  walk_at "dd"
  have fin : ∀ r : Int, 0 ≤ r → 0 < a ∧ ∀ r_1 : Int, 0 ≤ r_1 → L2.CDivW r_1 a ∧ 0 ≤ r_1 / a ∧ Q (.int (r % a)) := fun r _ => ⟨h0, fun r1 h1 => ⟨L2.wide_div (b := 64) h0 (by omega) (by decide) (by decide), Int.ediv_nonneg h1 (by omega), h _ (Int.emod_nonneg _ (by omega)) (Int.emod_lt_of_pos _ h0)⟩⟩
  intro r hr
  by_cases e : (r == 0) = true
  · rw [if_pos e]
    refine ⟨fun r hr => ⟨hr, fin⟩, mixed_ok fun r hr => ?_⟩
    walk_at "dd"
    exact ⟨hr, fin⟩
  · rw [if_neg e]
    exact fin
/-- one of the things given -/
theorem pick_ok {xs : List D} {Q : DK} (hne : xs ≠ []) (hl : xs.length ≤ 1000) (h : ∀ x ∈ xs, Q x) : p__law_pick [.drw, .lst xs] Q := by
  have : 0 < xs.length := List.length_pos_iff.mpr hne
  unfold p__law_pick t__law_pick
  walk_at "dd"
  refine take_ok (by omega) (by omega) fun r h1 h2 => ?_
  obtain ⟨k, rfl⟩ : ∃ k : Nat, r = (k : Int) := ⟨r.toNat, by omega⟩
  have hk : k < xs.length := by omega
  rw [gIx_at (.inl rfl) (List.getElem?_eq_getElem hk)]
  exact h _ (List.getElem_mem hk)
end Wk
end
section
set_option Elab.async false
set_option linter.all false
set_option maxRecDepth 100000
/-! D25: _law_begun. -/
namespace Wk
open PySem PySem.Spec L3
local macro_rules | `(tactic| walk_at "dv") => `(tactic| simp only [q_dDef, q_sh0, List.map_cons, List.map_nil, List.cons_append, List.nil_append, q_dSq, q_dNext, q_dSet, q_dSetF, q_dSetO, q_dRet, q_dRetN, q_dIfS, q_dNever, q_dWhile, q_dFor, q_dPar, q_dAsg, q_dDrop,
  q_dFrz, q_dApp, q_dAppF, q_dPut, q_dPutF, q_dAttrN, q_dAttrFN, q_dFldN,
  List.getElem?_cons_zero, List.getElem?_cons_succ, List.set_cons_zero, List.set_cons_succ, q_setS0, q_setSc, q_setSs0, q_setSsc, q_setD0, q_setDc, q_wipe0, q_wipec,
  shOf_nil, shOf_c, shO_n, shO_s, shO_o, shO_i, alOf_nil, alOf_c, alO_n, alO_s, alO_o, alO_i, dVar_0, dVar_s, q_dC, q_dBin, q_dBinL, q_dTest, q_dChain, q_dNot, q_dNotV, q_dAnd, q_dAndV, q_dOr, q_dOrV, q_dIf, q_dNeg, q_dCall, q_dCallL, q_dCons, q_dNil, q_dStar, q_dLst, q_dTup, q_dLen, q_dxCons, q_dxNil, q_dxP, q_dxO, q_dYes,
  asInt_int, asBl_bl, asSeq_l, asSeq_t, asLst_l, asTup_t, asObj_o, arg1_, arg2_, arg3_, q_gDef, q_gMake, q_gI0, q_gI, gEq_int, gNe_int, q_gLen, q_gAbs, q_gMax2, q_gMin2, q_gInt_i, q_gInt_b, q_gTuple, q_gList, gIx_0, gIx_1, gIx_0l, gIx_1l, q_gCatL, q_gRepL, q_gCatT, q_gRepT, isi_, isi_int_int, isi_bool_int, isi_tup_tup, isiT_, isiT_lst, isiT_tup, isC_, isCK_o, q_dSeqI, q_dEnumI, q_dZip2, q_dZip3, q_dRng1, q_dRng2, q_dLc, q_gIsB, q_gNotB, q_dSlL, q_dSlT, q_dNoP, q_dSoP,
  List.length_cons, List.length_nil, true_and, and_true, Bool.not_true, Bool.not_false, if_true, Bool.false_eq_true, if_false])
local macro_rules | `(tactic| walk_at "dh") => `(tactic| ((try simp only [fM_eq, fN_eq]); repeat (first | walk_at "dv" | simp only [q_dMv, q_dNv, fMoves_h, fMany_h, isCK_h, asSeq_rT])))
local macro_rules | `(tactic| walk_at "dd") => `(tactic| repeat (first | walk_at "dv" | simp only [q_dDrN, q_dDrC, q_dPop, q_dDput, q_dScrI, q_dLenS]))
theorem qb : t_begun { nx := begunNx l_begun, rt := fun _ => False } (sh0 [.scr] [none, none]) := by
  unfold t_begun l_begun
  rw [q_sh0]
  walk_at "dd"
  intro ns hns
  have p18 : ((10 : Int) ^ (18 : Int).toNat) = 10 ^ 18 := rfl
  refine lc_filter (p := fun (z : Int) => decide ((10 : Int) ^ 18 ≤ (z.natAbs : Int))) (f := fun (z : Int) => D.int ((z.natAbs : Int) - 10 ^ 18)) (fun z hz => ⟨_, rfl, fun Q h => ?_, fun hp Q h => ?_⟩) (by simp; exact line_ok (by omega)) ?_
  · walk_at "dd"
    refine ⟨⟨by decide, by decide, by decide⟩, ?_⟩
    rw [abs_if, p18]
    exact h
  · walk_at "dd"
    refine ⟨⟨by decide, by decide, by decide⟩, ?_⟩
    rw [abs_if, p18]
    exact h
  · rw [List.nil_append]
    refine ⟨(ns.filter fun (z : Int) => decide ((10 : Int) ^ 18 ≤ (z.natAbs : Int))).map fun (z : Int) => (z.natAbs : Int) - 10 ^ 18, by rw [List.map_map]; rfl, fun x hx => ?_, ?_, ?_⟩
    · obtain ⟨z, hz, rfl⟩ := List.mem_map.mp hx
      have := of_decide_eq_true (List.mem_filter.mp hz).2
      omega
    · rw [List.length_map]
      exact Nat.le_trans (List.length_filter_le _ _) hns
    · walk_at "dd"
      intro ms hms
      refine lc_of (f := fun (z : Int) => D.int (z.natAbs : Int)) (fun z hz => ⟨_, rfl, fun Q h => ?_⟩) (by simp; exact line_ok (by omega)) ?_
      · walk_at "dd"
        rw [abs_if]
        exact h
      · rw [List.nil_append]
        exact ⟨ms.map fun (z : Int) => (z.natAbs : Int), by rw [List.map_map]; rfl, fun x hx => by
          obtain ⟨z, hz, rfl⟩ := List.mem_map.mp hx
          omega, by rw [List.length_map]; exact hms⟩
end Wk
end
section
set_option Elab.async false
set_option linter.all false
set_option maxRecDepth 100000
/-! D26: what the law draws: stays, houses. -/
namespace Wk
open PySem PySem.Spec L3
local macro_rules | `(tactic| walk_at "dv") => `(tactic| simp only [q_dDef, q_sh0, List.map_cons, List.map_nil, List.cons_append, List.nil_append, q_dSq, q_dNext, q_dSet, q_dSetF, q_dSetO, q_dRet, q_dRetN, q_dIfS, q_dNever, q_dWhile, q_dFor, q_dPar, q_dAsg, q_dDrop,
  q_dFrz, q_dApp, q_dAppF, q_dPut, q_dPutF, q_dAttrN, q_dAttrFN, q_dFldN,
  List.getElem?_cons_zero, List.getElem?_cons_succ, List.set_cons_zero, List.set_cons_succ, q_setS0, q_setSc, q_setSs0, q_setSsc, q_setD0, q_setDc, q_wipe0, q_wipec,
  shOf_nil, shOf_c, shO_n, shO_s, shO_o, shO_i, alOf_nil, alOf_c, alO_n, alO_s, alO_o, alO_i, dVar_0, dVar_s, q_dC, q_dBin, q_dBinL, q_dTest, q_dChain, q_dNot, q_dNotV, q_dAnd, q_dAndV, q_dOr, q_dOrV, q_dIf, q_dNeg, q_dCall, q_dCallL, q_dCons, q_dNil, q_dStar, q_dLst, q_dTup, q_dLen, q_dxCons, q_dxNil, q_dxP, q_dxO, q_dYes,
  asInt_int, asBl_bl, asSeq_l, asSeq_t, asLst_l, asTup_t, asObj_o, arg1_, arg2_, arg3_, q_gDef, q_gMake, q_gI0, q_gI, gEq_int, gNe_int, q_gLen, q_gAbs, q_gMax2, q_gMin2, q_gInt_i, q_gInt_b, q_gTuple, q_gList, gIx_0, gIx_1, gIx_0l, gIx_1l, q_gCatL, q_gRepL, q_gCatT, q_gRepT, isi_, isi_int_int, isi_bool_int, isi_tup_tup, isiT_, isiT_lst, isiT_tup, isC_, isCK_o, q_dSeqI, q_dEnumI, q_dZip2, q_dZip3, q_dRng1, q_dRng2, q_dLc, q_gIsB, q_gNotB, q_dSlL, q_dSlT, q_dNoP, q_dSoP,
  List.length_cons, List.length_nil, true_and, and_true, Bool.not_true, Bool.not_false, if_true, Bool.false_eq_true, if_false])
local macro_rules | `(tactic| walk_at "dh") => `(tactic| ((try simp only [fM_eq, fN_eq]); repeat (first | walk_at "dv" | simp only [q_dMv, q_dNv, fMoves_h, fMany_h, isCK_h, asSeq_rT])))
local macro_rules | `(tactic| walk_at "dd") => `(tactic| repeat (first | walk_at "dv" | simp only [q_dDrN, q_dDrC, q_dPop, q_dDput, q_dScrI, q_dLenS]))
/-- from demonic items: a list of plain things -/
theorem lc_draw {α β : Type} {td : DG} {te : DE} {δ : DEnv} {enc : α → D} {out : β → D} {R : α → β → Prop} : ∀ {xs : List α} {acc : List D} {Q : List D → Prop}, (∀ x ∈ xs, ∃ asg, td (enc x) = some asg ∧ ∀ Q : DK, (∀ y, R x y → Q (out y)) → te (setD δ asg) Q) → acc.length + xs.length ≤ sizeLine →
    (∀ ys : List β, ys.length = xs.length → (∀ (i : Nat) x y, xs[i]? = some x → ys[i]? = some y → R x y) → Q (acc ++ ys.map out)) → dLcL td dYes te δ (xs.map enc) acc Q
  | [], acc, Q, _, _, h => by
    have := h [] rfl (by simp)
    simpa [dLcL] using this
  | x :: xs, acc, Q, ht, hl, h => by
    obtain ⟨asg, e, q⟩ := ht x (List.mem_cons_self ..)
    refine ⟨asg, e, yes_if ?_⟩
    refine q _ fun y hy => ⟨by simp at hl; omega, ?_⟩
    refine lc_draw (out := out) (R := R) (fun d' hd => ht d' (List.mem_cons_of_mem _ hd)) (by simp at hl ⊢; omega) fun ys hy2 hr => ?_
    have := h (y :: ys) (by simp [hy2]) fun i d' y' h1 h2 => by
      cases i with
      | zero => simp at h1 h2; subst h1 h2; exact hy
      | succ i => exact hr i d' y' (by simpa using h1) (by simpa using h2)
    simpa using this
def encP (p : Int × Int) : D := .tup [.int p.1, .int p.2]
/-- a stay: less than a whole, in tenths at most -/
def StayOk (p : Int × Int) : Prop := 0 ≤ p.1 ∧ p.1 < p.2 ∧ p.2 ≤ 10
theorem stays_ok' {n : Nat} (hn : n ≤ 8) {Q : DK} (h : ∀ st : List (Int × Int), st.length = n → (∀ p ∈ st, StayOk p) → Q (.lst (st.map encP))) : p__law_stays [.drw, .int (n : Int)] Q := by
  unfold p__law_stays t__law_stays
  walk_at "dd"
  refine ⟨by unfold Rng; omega, ?_⟩
  rw [Int.toNat_natCast, rangeD_eq]
  refine lc_draw (out := encP) (R := fun (_ : Nat) p => StayOk p) (fun k hk => ⟨_, rfl, fun Q h => ?_⟩) (by simp; exact line_ok (by omega)) fun ys hl hr => ?_
  · walk_at "dd"
    refine ⟨line_ok (by decide), line_ok (by decide), line_ok (by decide), line_ok (by decide), line_ok (by decide), line_ok (by decide), line_ok (by decide), ?_⟩
    refine pick_ok (by simp) (by simp) fun x hx => ?_
    simp only [List.mem_cons, List.not_mem_nil, or_false] at hx
    rcases hx with rfl | rfl | rfl | rfl | rfl | rfl
    · exact h (0, 1) ⟨by decide, by decide, by decide⟩
    · exact h (1, 2) ⟨by decide, by decide, by decide⟩
    · exact h (1, 3) ⟨by decide, by decide, by decide⟩
    · exact h (2, 3) ⟨by decide, by decide, by decide⟩
    · exact h (1, 10) ⟨by decide, by decide, by decide⟩
    · exact h (4, 5) ⟨by decide, by decide, by decide⟩
  · rw [List.nil_append]
    refine h ys (by simpa using hl) fun p hp => ?_
    obtain ⟨i, hi⟩ := List.getElem?_of_mem hp
    have hin := (List.getElem?_eq_some_iff.mp hi).1
    exact hr i i p (List.getElem?_range (by rw [hl] at hin; simpa using hin)) hi
end Wk
end
section
set_option Elab.async false
set_option linter.all false
set_option maxRecDepth 100000
/-! D27: _law_house. -/
namespace Wk
open PySem PySem.Spec L3
local macro_rules | `(tactic| walk_at "dv") => `(tactic| simp only [q_dDef, q_sh0, List.map_cons, List.map_nil, List.cons_append, List.nil_append, q_dSq, q_dNext, q_dSet, q_dSetF, q_dSetO, q_dRet, q_dRetN, q_dIfS, q_dNever, q_dWhile, q_dFor, q_dPar, q_dAsg, q_dDrop,
  q_dFrz, q_dApp, q_dAppF, q_dPut, q_dPutF, q_dAttrN, q_dAttrFN, q_dFldN,
  List.getElem?_cons_zero, List.getElem?_cons_succ, List.set_cons_zero, List.set_cons_succ, q_setS0, q_setSc, q_setSs0, q_setSsc, q_setD0, q_setDc, q_wipe0, q_wipec,
  shOf_nil, shOf_c, shO_n, shO_s, shO_o, shO_i, alOf_nil, alOf_c, alO_n, alO_s, alO_o, alO_i, dVar_0, dVar_s, q_dC, q_dBin, q_dBinL, q_dTest, q_dChain, q_dNot, q_dNotV, q_dAnd, q_dAndV, q_dOr, q_dOrV, q_dIf, q_dNeg, q_dCall, q_dCallL, q_dCons, q_dNil, q_dStar, q_dLst, q_dTup, q_dLen, q_dxCons, q_dxNil, q_dxP, q_dxO, q_dYes,
  asInt_int, asBl_bl, asSeq_l, asSeq_t, asLst_l, asTup_t, asObj_o, arg1_, arg2_, arg3_, q_gDef, q_gMake, q_gI0, q_gI, gEq_int, gNe_int, q_gLen, q_gAbs, q_gMax2, q_gMin2, q_gInt_i, q_gInt_b, q_gTuple, q_gList, gIx_0, gIx_1, gIx_0l, gIx_1l, q_gCatL, q_gRepL, q_gCatT, q_gRepT, isi_, isi_int_int, isi_bool_int, isi_tup_tup, isiT_, isiT_lst, isiT_tup, isC_, isCK_o, q_dSeqI, q_dEnumI, q_dZip2, q_dZip3, q_dRng1, q_dRng2, q_dLc, q_gIsB, q_gNotB, q_dSlL, q_dSlT, q_dNoP, q_dSoP,
  List.length_cons, List.length_nil, true_and, and_true, Bool.not_true, Bool.not_false, if_true, Bool.false_eq_true, if_false])
local macro_rules | `(tactic| walk_at "dh") => `(tactic| ((try simp only [fM_eq, fN_eq]); repeat (first | walk_at "dv" | simp only [q_dMv, q_dNv, fMoves_h, fMany_h, isCK_h, asSeq_rT])))
local macro_rules | `(tactic| walk_at "dd") => `(tactic| repeat (first | walk_at "dv" | simp only [q_dDrN, q_dDrC, q_dPop, q_dDput, q_dScrI, q_dLenS]))
theorem sum_le5 : ∀ {l : List Int}, (∀ m ∈ l, m ≤ 5) → l.sum ≤ 5 * (l.length : Int)
  | [], _ => by simp
  | x :: l, h => by
    have h1 := h x (List.mem_cons_self ..)
    have h2 := sum_le5 (l := l) fun m hm => h m (List.mem_cons_of_mem _ hm)
    rw [List.sum_cons, List.length_cons]
    omega
theorem house_ok {Q : DK} (h : ∀ n M, n ≤ 4 → HouseOk n 5 M → (∀ rs ∈ M, ∀ r ∈ rs, r.1 ≤ 23) → Q (encMoves M)) : p__law_house [.drw] Q := by
  unfold p__law_house t__law_house
  walk_at "dd"
  refine take_ok (by decide) (by decide) fun r h1 h2 => ?_
  obtain ⟨n, hn⟩ : ∃ n : Nat, (1 : Int) + r = (n : Int) := ⟨(1 + r).toNat, by omega⟩
  walk_at "dd"
  rw [hn]
  have n1 : 1 ≤ n := by omega
  have n4 : n ≤ 4 := by omega
  have rng : ∀ m : Nat, m ≤ 1000 → Rng (m : Int) := fun m hm => by unfold Rng; omega
  refine ⟨line_ok (by decide), rng n (by omega), ?_⟩
  rw [Int.toNat_natCast]
  refine for_range (fun i ρ => ∃ (M : List (List Row)) (o3 o4 o5 o6 o7 : Option S), ρ = [some (.sh .drw), some (.sh (.int (n : Int))), some (.ow (M.map encRsL)), o3, o4, o5, o6, o7] ∧ M.length = i ∧ ∀ rs ∈ M, (1 ≤ rs.length ∧ rs.length ≤ 3) ∧ ∀ r ∈ rs, RowOk n 5 r ∧ r.1 ≤ 23)
    ⟨[], none, none, none, none, none, rfl, rfl, by simp⟩ ?_ ?_
  · rintro i ρ hi ⟨M, o3, o4, o5, o6, o7, rfl, hl, hM⟩
    refine ⟨_, rfl, fun N hN => ?_⟩
    walk_at "dd"
    refine ⟨line_ok (by decide), take_ok (by decide) (by decide) fun r h1 h2 => ?_⟩
    obtain ⟨k, hk⟩ : ∃ k : Nat, (1 : Int) + r = (k : Int) := ⟨(1 + r).toNat, by omega⟩
    walk_at "dd"
    rw [hk]
    refine ⟨rng k (by omega), ?_⟩
    rw [Int.toNat_natCast]
    refine for_range (fun j ρ => ∃ (rs : List Row) (o5 o6 o7 : Option S), ρ = [some (.sh .drw), some (.sh (.int (n : Int))), some (.ow (M.map encRsL)), some (.sh (.int (i : Int))), some (.ow (rs.map encRow)), o5, o6, o7] ∧ rs.length = j ∧ ∀ r ∈ rs, RowOk n 5 r ∧ r.1 ≤ 23)
      ⟨[], o5, o6, o7, rfl, rfl, by simp⟩ ?_ ?_
    · rintro j ρ hj ⟨rs, o5, o6, o7, rfl, hr, hR⟩
      refine ⟨_, rfl, fun N' hN' => ?_⟩
      walk_at "dd"
      refine ⟨rng n (by omega), ?_⟩
      rw [Int.toNat_natCast, rangeD_eq]
      refine lc_draw (out := D.int) (R := fun (_ : Nat) (y : Int) => 0 ≤ y ∧ y ≤ 5) (fun s hs => ⟨_, rfl, fun Q h => ?_⟩) (by simp; exact line_ok (by omega)) fun ys hyl hyr => ?_
      · walk_at "dd"
        refine ⟨line_ok (by decide), ?_⟩
        refine pick_ok (by simp) (by simp) fun x hx => ?_
        simp only [List.mem_cons, List.not_mem_nil, or_false] at hx
        rcases hx with rfl | rfl | rfl | rfl | rfl
        · exact h 0 (by decide)
        · exact h 0 (by decide)
        · exact h 1 (by decide)
        · exact h 2 (by decide)
        · exact h 5 (by decide)
      · rw [List.nil_append]
        have yl : ys.length = n := by simpa using hyl
        have all : ∀ y ∈ ys, 0 ≤ y ∧ y ≤ 5 := fun y hy => by
          obtain ⟨z, hz⟩ := List.getElem?_of_mem hy
          have hzl := (List.getElem?_eq_some_iff.mp hz).1
          exact hyr z z y (List.getElem?_range (by omega)) hz
        rw [show ys.map D.int = dis ys from rfl, gSumB_l]
        walk_at "dd"
        refine take_ok (by decide) (by decide) fun r h1 h2 => ?_
        walk_at "dd"
        have s0 := sum_nn fun m hm => (all m hm).1
        have s5 := sum_le5 fun m hm => (all m hm).2
        refine ⟨line_ok (by decide), by simp; exact Nat.lt_of_lt_of_le (Nat.lt_succ_self _) (line_ok (by omega)), ?_⟩
        refine hN' _ ⟨rs ++ [(ys.sum + 1 + r, ys)], _, _, _, by rw [List.map_append]; rfl, by simp [hr], fun q hq => ?_⟩
        rcases List.mem_append.mp hq with hq | hq
        · exact hR q hq
        · have : q = (ys.sum + 1 + r, ys) := by simpa using hq
          subst this
          exact ⟨⟨yl, fun m hm => (all m hm).1, by show ys.sum < ys.sum + 1 + r; omega, by show (ys.sum + 1 + r).natAbs < 2 ^ 5; omega⟩, by show ys.sum + 1 + r ≤ 23; omega⟩
    · rintro ρ ⟨rs, o5, o6, o7, rfl, hr, hR⟩
      walk_at "dd"
      refine ⟨by simp; exact Nat.lt_of_lt_of_le (Nat.lt_succ_self _) (line_ok (by omega)), ?_⟩
      refine hN _ ⟨M ++ [rs], _, _, _, _, _, by rw [List.map_append]; rfl, by simp [hl], fun q hq => ?_⟩
      rcases List.mem_append.mp hq with hq | hq
      · exact hM q hq
      · have : q = rs := by simpa using hq
        subst this
        exact ⟨by omega, hR⟩
  · rintro ρ ⟨M, o3, o4, o5, o6, o7, rfl, hl, hM⟩
    walk_at "dd"
    exact h n M n4 ⟨hl, n1, by omega, fun rs hrs => (hM rs hrs).1, fun rs hrs r hr => ((hM rs hrs).2 r hr).1⟩ fun rs hrs r hr => ((hM rs hrs).2 r hr).2
end Wk
end
section
set_option Elab.async false
set_option linter.all false
set_option maxRecDepth 100000
/-! D28: _law_gain, factors. -/
namespace Wk
open PySem PySem.Spec L3
local macro_rules | `(tactic| walk_at "dv") => `(tactic| simp only [q_dDef, q_sh0, List.map_cons, List.map_nil, List.cons_append, List.nil_append, q_dSq, q_dNext, q_dSet, q_dSetF, q_dSetO, q_dRet, q_dRetN, q_dIfS, q_dNever, q_dWhile, q_dFor, q_dPar, q_dAsg, q_dDrop,
  q_dFrz, q_dApp, q_dAppF, q_dPut, q_dPutF, q_dAttrN, q_dAttrFN, q_dFldN,
  List.getElem?_cons_zero, List.getElem?_cons_succ, List.set_cons_zero, List.set_cons_succ, q_setS0, q_setSc, q_setSs0, q_setSsc, q_setD0, q_setDc, q_wipe0, q_wipec,
  shOf_nil, shOf_c, shO_n, shO_s, shO_o, shO_i, alOf_nil, alOf_c, alO_n, alO_s, alO_o, alO_i, dVar_0, dVar_s, q_dC, q_dBin, q_dBinL, q_dTest, q_dChain, q_dNot, q_dNotV, q_dAnd, q_dAndV, q_dOr, q_dOrV, q_dIf, q_dNeg, q_dCall, q_dCallL, q_dCons, q_dNil, q_dStar, q_dLst, q_dTup, q_dLen, q_dxCons, q_dxNil, q_dxP, q_dxO, q_dYes,
  asInt_int, asBl_bl, asSeq_l, asSeq_t, asLst_l, asTup_t, asObj_o, arg1_, arg2_, arg3_, q_gDef, q_gMake, q_gI0, q_gI, gEq_int, gNe_int, q_gLen, q_gAbs, q_gMax2, q_gMin2, q_gInt_i, q_gInt_b, q_gTuple, q_gList, gIx_0, gIx_1, gIx_0l, gIx_1l, q_gCatL, q_gRepL, q_gCatT, q_gRepT, isi_, isi_int_int, isi_bool_int, isi_tup_tup, isiT_, isiT_lst, isiT_tup, isC_, isCK_o, q_dSeqI, q_dEnumI, q_dZip2, q_dZip3, q_dRng1, q_dRng2, q_dLc, q_gIsB, q_gNotB, q_dSlL, q_dSlT, q_dNoP, q_dSoP,
  List.length_cons, List.length_nil, true_and, and_true, Bool.not_true, Bool.not_false, if_true, Bool.false_eq_true, if_false])
local macro_rules | `(tactic| walk_at "dh") => `(tactic| ((try simp only [fM_eq, fN_eq]); repeat (first | walk_at "dv" | simp only [q_dMv, q_dNv, fMoves_h, fMany_h, isCK_h, asSeq_rT])))
local macro_rules | `(tactic| walk_at "dd") => `(tactic| repeat (first | walk_at "dv" | simp only [q_dDrN, q_dDrC, q_dPop, q_dDput, q_dScrI, q_dLenS]))
/-- a drawn gain -/
def G1 (q : Rat) : Prop := q.num.natAbs ≤ 10 ∧ q.den ≤ 3
theorem mkRat_small {a : Int} {b A B : Nat} (hb : 0 < b) (ha : a.natAbs ≤ A) (hB : b ≤ B) : (mkRat a b).num.natAbs ≤ A ∧ (mkRat a b).den ≤ B := by
  obtain ⟨e1, e2⟩ := mkRat_nd (a := a) hb
  have h1 := Int.natAbs_ediv_le_natAbs a ((Nat.gcd a.natAbs b : Nat) : Int)
  have h2 := Int.natAbs_ediv_le_natAbs (b : Int) ((Nat.gcd a.natAbs b : Nat) : Int)
  rw [e1]
  omega
theorem gain_ok {n b : Nat} {M : List (List Row)} (H : HouseOk n b M) {Q : DK} (h : ∀ gs, PartsOk M gs → (∀ g ∈ gs, ∀ q ∈ g, G1 q) → Q (encParts gs)) : p__law_gain [.drw, encMoves M] Q := by
  have hn8 := H.n8
  unfold p__law_gain t__law_gain encMoves
  walk_at "dd"
  refine lc_draw (out := fun (g : List Rat) => D.tup (g.map rt)) (R := fun (rs : List Row) (g : List Rat) => g.length = rs.length ∧ ∀ q ∈ g, G1 q) (fun rs hrs => ⟨_, rfl, fun Q h => ?_⟩) (by simp [H.len]; exact line_ok (by omega)) fun gs hl hr => ?_
  · have h3 := H.some_ rs hrs
    unfold encRsL
    walk_at "dd"
    refine lc_draw (out := rt) (R := fun (_ : Row) (q : Rat) => G1 q) (fun r hr => ⟨_, rfl, fun Q h => ?_⟩) (by simp; exact line_ok (by omega)) fun g hgl hgr => ?_
    · walk_at "dd"
      refine take_ok (by decide) (by decide) fun t h1 h2 => ?_
      walk_at "dd"
      refine ⟨line_ok (by decide), ?_⟩
      refine pick_ok (by simp) (by simp) fun x hx => ?_
      simp only [List.mem_cons, List.not_mem_nil, or_false] at hx
      have fin : ∀ b : Nat, 0 < b → b ≤ 3 → p__law_ratio [.int (t - 10), .int (b : Int)] Q := fun b b0 b3 => lratio_ok b0 (Nat.lt_of_le_of_lt b3 (Nat.lt_of_lt_of_le (by decide : 3 < 2 ^ 2) (Nat.pow_le_pow_right (by decide) (by decide)))) (h _ (mkRat_small b0 (by omega) b3))
      rcases hx with rfl | rfl | rfl
      · exact fin 1 (by decide) (by decide)
      · exact fin 1 (by decide) (by decide)
      · exact fin 3 (by decide) (by decide)
    · rw [List.nil_append]
      walk_at "dd"
      refine h g ⟨hgl, fun q hq => ?_⟩
      obtain ⟨i, hi⟩ := List.getElem?_of_mem hq
      have il := (List.getElem?_eq_some_iff.mp hi).1
      exact hgr i rs[i] q (List.getElem?_eq_getElem (by omega)) hi
  · rw [List.nil_append]
    walk_at "dd"
    refine h gs ⟨hl, fun i rs g h1 h2 => (hr i rs g h1 h2).1⟩ fun g hg => ?_
    obtain ⟨i, hi⟩ := List.getElem?_of_mem hg
    have il := (List.getElem?_eq_some_iff.mp hi).1
    exact (hr i M[i] g (List.getElem?_eq_getElem (by omega)) hi).2
/-! ### factors -/
def shorter (p : Int × Int) : Rat := mkRat (p.2 - p.1) p.2.toNat
def longer (p : Int × Int) : Rat := mkRat p.2 (p.2 - p.1).toNat
theorem shorter_ok {st : List (Int × Int)} (hs : ∀ p ∈ st, StayOk p) (hl : st.length ≤ 100) {Q : DK} (h : Q (.lst ((st.map shorter).map rt))) : p__law_shorter [.lst (st.map encP)] Q := by
  unfold p__law_shorter t__law_shorter
  walk_at "dd"
  refine lc_of (f := fun p => rt (shorter p)) (fun p hp => ⟨[(1, .int p.1), (2, .int p.2)], rfl, fun Q h => ?_⟩) (by simp; exact line_ok (by omega)) ?_
  · obtain ⟨a, b, c⟩ := hs p hp
    walk_at "dd"
    have e : p.2 = ((p.2.toNat : Nat) : Int) := (Int.toNat_of_nonneg (by omega)).symm
    have := lratio_ok (a := p.2 - p.1) (b := p.2.toNat) (Q := Q) (by omega) (Nat.lt_of_le_of_lt (by omega : p.2.toNat ≤ 10) (Nat.lt_of_lt_of_le (by decide : 10 < 2 ^ 4) (Nat.pow_le_pow_right (by decide) (by decide)))) h
    rw [← e] at this
    exact this
  · rw [List.nil_append]
    rw [List.map_map] at h
    exact h
theorem longer_ok {st : List (Int × Int)} (hs : ∀ p ∈ st, StayOk p) (hl : st.length ≤ 100) {Q : DK} (h : Q (.lst ((st.map longer).map rt))) : p__law_longer [.lst (st.map encP)] Q := by
  unfold p__law_longer t__law_longer
  walk_at "dd"
  refine lc_of (f := fun p => rt (longer p)) (fun p hp => ⟨[(1, .int p.1), (2, .int p.2)], rfl, fun Q h => ?_⟩) (by simp; exact line_ok (by omega)) ?_
  · obtain ⟨a, b, c⟩ := hs p hp
    walk_at "dd"
    have e : p.2 - p.1 = (((p.2 - p.1).toNat : Nat) : Int) := (Int.toNat_of_nonneg (by omega)).symm
    have := lratio_ok (a := p.2) (b := (p.2 - p.1).toNat) (Q := Q) (by omega) (Nat.lt_of_le_of_lt (by omega : (p.2 - p.1).toNat ≤ 10) (Nat.lt_of_lt_of_le (by decide : 10 < 2 ^ 4) (Nat.pow_le_pow_right (by decide) (by decide)))) h
    rw [← e] at this
    exact this
  · rw [List.nil_append]
    rw [List.map_map] at h
    exact h
end Wk
end
section
set_option Elab.async false
set_option linter.all false
set_option maxRecDepth 100000
/-! D29: _law_slow. -/
namespace Wk
open PySem PySem.Spec L3
local macro_rules | `(tactic| walk_at "dv") => `(tactic| simp only [q_dDef, q_sh0, List.map_cons, List.map_nil, List.cons_append, List.nil_append, q_dSq, q_dNext, q_dSet, q_dSetF, q_dSetO, q_dRet, q_dRetN, q_dIfS, q_dNever, q_dWhile, q_dFor, q_dPar, q_dAsg, q_dDrop,
  q_dFrz, q_dApp, q_dAppF, q_dPut, q_dPutF, q_dAttrN, q_dAttrFN, q_dFldN,
  List.getElem?_cons_zero, List.getElem?_cons_succ, List.set_cons_zero, List.set_cons_succ, q_setS0, q_setSc, q_setSs0, q_setSsc, q_setD0, q_setDc, q_wipe0, q_wipec,
  shOf_nil, shOf_c, shO_n, shO_s, shO_o, shO_i, alOf_nil, alOf_c, alO_n, alO_s, alO_o, alO_i, dVar_0, dVar_s, q_dC, q_dBin, q_dBinL, q_dTest, q_dChain, q_dNot, q_dNotV, q_dAnd, q_dAndV, q_dOr, q_dOrV, q_dIf, q_dNeg, q_dCall, q_dCallL, q_dCons, q_dNil, q_dStar, q_dLst, q_dTup, q_dLen, q_dxCons, q_dxNil, q_dxP, q_dxO, q_dYes,
  asInt_int, asBl_bl, asSeq_l, asSeq_t, asLst_l, asTup_t, asObj_o, arg1_, arg2_, arg3_, q_gDef, q_gMake, q_gI0, q_gI, gEq_int, gNe_int, q_gLen, q_gAbs, q_gMax2, q_gMin2, q_gInt_i, q_gInt_b, q_gTuple, q_gList, gIx_0, gIx_1, gIx_0l, gIx_1l, q_gCatL, q_gRepL, q_gCatT, q_gRepT, isi_, isi_int_int, isi_bool_int, isi_tup_tup, isiT_, isiT_lst, isiT_tup, isC_, isCK_o, q_dSeqI, q_dEnumI, q_dZip2, q_dZip3, q_dRng1, q_dRng2, q_dLc, q_gIsB, q_gNotB, q_dSlL, q_dSlT, q_dNoP, q_dSoP,
  List.length_cons, List.length_nil, true_and, and_true, Bool.not_true, Bool.not_false, if_true, Bool.false_eq_true, if_false])
local macro_rules | `(tactic| walk_at "dh") => `(tactic| ((try simp only [fM_eq, fN_eq]); repeat (first | walk_at "dv" | simp only [q_dMv, q_dNv, fMoves_h, fMany_h, isCK_h, asSeq_rT])))
local macro_rules | `(tactic| walk_at "dd") => `(tactic| repeat (first | walk_at "dv" | simp only [q_dDrN, q_dDrC, q_dPop, q_dDput, q_dScrI, q_dLenS]))
/-- row r of place i, slowed by the stay p -/
def slowRow (r : Row) (p : Int × Int) (i : Nat) : Row := (r.1 * p.2, (r.2.map fun m => m * (p.2 - p.1)).set i (gi r.2 i * (p.2 - p.1) + r.1 * p.1))
theorem slow_ok {n b : Nat} {rows : List Row} {st : List (Int × Int)} (hn : n ≤ 100) (hl : rows.length = n) (hsl : st.length = n) (hr : ∀ r ∈ rows, RowOk n b r) (hb : b ≤ 60) (hs : ∀ p ∈ st, StayOk p) {Q : DK}
    (h : Q (.lst ((List.range n).map fun i => encRow (slowRow (rowAt rows i) (st.getD i (0, 1)) i)))) : p__law_slow [.lst (rows.map encRow), .lst (st.map encP)] Q := by
  unfold p__law_slow t__law_slow
  walk_at "dd"
  rw [enum_zip]
  refine ⟨line_ok (by decide), ?_⟩
  refine for_at (fun i ρ => ∃ (o3 o4 o5 o6 o7 o8 o9 : Option S), ρ = [some (.sh (.lst (rows.map encRow))), some (.sh (.lst (st.map encP))), some (.ow ((List.range i).map fun i => encRow (slowRow (rowAt rows i) (st.getD i (0, 1)) i))), o3, o4, o5, o6, o7, o8, o9]) ⟨none, none, none, none, none, none, none, rfl⟩ ?_ ?_
  · rintro i ⟨r, i'⟩ ρ hi ⟨o3, o4, o5, o6, o7, o8, o9, rfl⟩
    rw [List.getElem?_zipIdx] at hi
    obtain ⟨r', hr', e2⟩ := Option.map_eq_some_iff.mp hi
    have e3 : r' = r ∧ 0 + i = i' := by simpa using e2
    obtain ⟨rfl, rfl⟩ := e3
    rw [Nat.zero_add]
    have hin : i < n := by rw [← hl]; exact (List.getElem?_eq_some_iff.mp hr').1
    have er : rowAt rows i = r' := by unfold rowAt; rw [List.getD_eq_getElem?_getD, hr']; rfl
    have R := hr r' (List.mem_of_getElem? hr')
    obtain ⟨p, hp⟩ : ∃ p, st[i]? = some p := ⟨_, List.getElem?_eq_getElem (by omega)⟩
    have ep : st.getD i (0, 1) = p := by rw [List.getD_eq_getElem?_getD, hp]; rfl
    obtain ⟨s0, s1, s2⟩ := hs p (List.mem_of_getElem? hp)
    have small : ∀ {z : Int}, 0 ≤ z → z ≤ 10 → ∀ {y : Int}, CMulB y z := fun h0 h1 {y} => mulC (by omega) (by omega)
    refine ⟨[(3, .int (i : Int)), (4, .int r'.1), (5, .tup (dis r'.2))], rfl, fun N hN => ?_⟩
    walk_at "dd"
    rw [gIx_at (.inl rfl) (d := encP p) (by rw [List.getElem?_map, hp]; rfl)]
    refine ⟨[(6, .int p.1), (7, .int p.2)], rfl, ?_⟩
    walk_at "dd"
    have hpl : i < (r'.2.map fun m => m * (p.2 - p.1)).length := by rw [List.length_map, R.len]; exact hin
    refine lc_of (f := fun m => D.int (m * (p.2 - p.1))) (fun m hm => ⟨_, rfl, fun Q h => ?_⟩) (by simp [R.len]; exact line_ok (by omega)) ?_
    · walk_at "dd"
      exact ⟨small (by omega) (by omega), h⟩
    rw [List.nil_append, dis_map, gIx_l hpl]
    walk_at "dd"
    rw [gi_map (gi_get (by rw [R.len]; exact hin))]
    refine ⟨small (by omega) (by omega), trivial, i, ixN_nat (by rw [dis_len]; exact hpl), small (by omega) (by omega), line_ok (by decide), ?_, ?_⟩
    · simp
      exact Nat.lt_of_lt_of_le (Nat.lt_succ_self i) (line_ok (by omega))
    · have e4 : (List.range i).map (fun i => encRow (slowRow (rowAt rows i) (st.getD i (0, 1)) i)) ++ [D.tup [D.int (r'.1 * p.2), D.tup ((dis (r'.2.map fun m => m * (p.2 - p.1))).set i (D.int (gi r'.2 i * (p.2 - p.1) + r'.1 * p.1)))]] = (List.range (i + 1)).map fun i => encRow (slowRow (rowAt rows i) (st.getD i (0, 1)) i) := by
        rw [List.range_succ, List.map_append]
        congr 1
        show _ = [encRow (slowRow (rowAt rows i) (st.getD i (0, 1)) i)]
        rw [er, ep]
        unfold slowRow encRow encR
        have : (dis (r'.2.map fun m => m * (p.2 - p.1))).set i (D.int (gi r'.2 i * (p.2 - p.1) + r'.1 * p.1)) = dis ((r'.2.map fun m => m * (p.2 - p.1)).set i (gi r'.2 i * (p.2 - p.1) + r'.1 * p.1)) := by unfold dis; rw [List.map_set]
        rw [this]
      rw [e4]
      exact hN _ ⟨_, _, _, _, _, _, _, rfl⟩
  · rintro ρ ⟨o3, o4, o5, o6, o7, o8, o9, rfl⟩
    walk_at "dd"
    rw [List.length_zipIdx, hl]
    exact h
end Wk
end
section
set_option Elab.async false
set_option linter.all false
set_option maxRecDepth 100000
/-! D30: _law_slow_moves; the slowed house is a good one. -/
namespace Wk
open PySem PySem.Spec L3
local macro_rules | `(tactic| walk_at "dv") => `(tactic| simp only [q_dDef, q_sh0, List.map_cons, List.map_nil, List.cons_append, List.nil_append, q_dSq, q_dNext, q_dSet, q_dSetF, q_dSetO, q_dRet, q_dRetN, q_dIfS, q_dNever, q_dWhile, q_dFor, q_dPar, q_dAsg, q_dDrop,
  q_dFrz, q_dApp, q_dAppF, q_dPut, q_dPutF, q_dAttrN, q_dAttrFN, q_dFldN,
  List.getElem?_cons_zero, List.getElem?_cons_succ, List.set_cons_zero, List.set_cons_succ, q_setS0, q_setSc, q_setSs0, q_setSsc, q_setD0, q_setDc, q_wipe0, q_wipec,
  shOf_nil, shOf_c, shO_n, shO_s, shO_o, shO_i, alOf_nil, alOf_c, alO_n, alO_s, alO_o, alO_i, dVar_0, dVar_s, q_dC, q_dBin, q_dBinL, q_dTest, q_dChain, q_dNot, q_dNotV, q_dAnd, q_dAndV, q_dOr, q_dOrV, q_dIf, q_dNeg, q_dCall, q_dCallL, q_dCons, q_dNil, q_dStar, q_dLst, q_dTup, q_dLen, q_dxCons, q_dxNil, q_dxP, q_dxO, q_dYes,
  asInt_int, asBl_bl, asSeq_l, asSeq_t, asLst_l, asTup_t, asObj_o, arg1_, arg2_, arg3_, q_gDef, q_gMake, q_gI0, q_gI, gEq_int, gNe_int, q_gLen, q_gAbs, q_gMax2, q_gMin2, q_gInt_i, q_gInt_b, q_gTuple, q_gList, gIx_0, gIx_1, gIx_0l, gIx_1l, q_gCatL, q_gRepL, q_gCatT, q_gRepT, isi_, isi_int_int, isi_bool_int, isi_tup_tup, isiT_, isiT_lst, isiT_tup, isC_, isCK_o, q_dSeqI, q_dEnumI, q_dZip2, q_dZip3, q_dRng1, q_dRng2, q_dLc, q_gIsB, q_gNotB, q_dSlL, q_dSlT, q_dNoP, q_dSoP,
  List.length_cons, List.length_nil, true_and, and_true, Bool.not_true, Bool.not_false, if_true, Bool.false_eq_true, if_false])
local macro_rules | `(tactic| walk_at "dh") => `(tactic| ((try simp only [fM_eq, fN_eq]); repeat (first | walk_at "dv" | simp only [q_dMv, q_dNv, fMoves_h, fMany_h, isCK_h, asSeq_rT])))
local macro_rules | `(tactic| walk_at "dd") => `(tactic| repeat (first | walk_at "dv" | simp only [q_dDrN, q_dDrC, q_dPop, q_dDput, q_dScrI, q_dLenS]))
open Mx (S)
theorem rep_map {α : Type} {f : α → D} {x : α} : ∀ n : Nat, (List.replicate n [f x]).flatten = (List.replicate n x).map f
  | 0 => rfl
  | n + 1 => by rw [List.replicate_succ, List.flatten_cons, rep_map n, List.replicate_succ]; rfl
def slowM (M : List (List Row)) (st : List (Int × Int)) : List (List Row) := (List.range M.length).map fun i => (M.getD i []).map fun r => slowRow r (st.getD i (0, 1)) i
theorem slow_moves_ok {n b : Nat} {M : List (List Row)} {st : List (Int × Int)} (H : HouseOk n b M) (hb : b ≤ 60) (hsl : st.length = n) (hs : ∀ p ∈ st, StayOk p) {Q : DK} (h : Q (encMoves (slowM M st))) : p__law_slow_moves [encMoves M, .lst (st.map encP)] Q := by
  have hn8 := H.n8
  have hln := H.len
  unfold p__law_slow_moves t__law_slow_moves encMoves
  walk_at "dd"
  rw [List.length_map, hln]
  refine ⟨by unfold Rng; omega, ?_⟩
  rw [Int.toNat_natCast, rangeD_eq]
  refine lc_of (f := fun i => encRsL ((M.getD i []).map fun r => slowRow r (st.getD i (0, 1)) i)) (fun i hi => ⟨_, rfl, fun Q h => ?_⟩) (by simp; exact line_ok (by omega)) ?_
  · have hin : i < n := by simpa using hi
    obtain ⟨rs, h1⟩ : ∃ rs, M[i]? = some rs := ⟨_, List.getElem?_eq_getElem (by omega)⟩
    have e1 : M.getD i [] = rs := by rw [List.getD_eq_getElem?_getD, h1]; rfl
    obtain ⟨p, hp⟩ : ∃ p, st[i]? = some p := ⟨_, List.getElem?_eq_getElem (by omega)⟩
    have ep : st.getD i (0, 1) = p := by rw [List.getD_eq_getElem?_getD, hp]; rfl
    have hrs := List.mem_of_getElem? h1
    have h3 := H.some_ rs hrs
    rw [e1, ep] at h
    walk_at "dd"
    rw [gIx_at (.inl rfl) (d := encRsL rs) (by rw [List.getElem?_map, h1]; rfl), encRsL_eq rs]
    walk_at "dd"
    refine lc_of (f := fun r => encRow (slowRow r p i)) (fun r hr => ⟨_, rfl, fun Q h => ?_⟩) (by simp; exact line_ok (by omega)) ?_
    · have R := H.row rs hrs r hr
      walk_at "dd"
      refine ⟨line_ok (by decide), by omega, by omega, by simp; exact line_ok (by omega), ?_⟩
      rw [gIx_at (.inl rfl) (d := encP p) (by rw [List.getElem?_map, hp]; rfl)]
      refine ⟨line_ok (by decide), by omega, by omega, by simp; exact line_ok (by omega), ?_⟩
      rw [Int.toNat_natCast, rep_map, rep_map]
      refine slow_ok (n := n) (b := b) (by omega) (by simp) (by simp) (fun x hx => by rw [List.eq_of_mem_replicate hx]; exact R) hb (fun x hx => by rw [List.eq_of_mem_replicate hx]; exact hs p (List.mem_of_getElem? hp)) ?_
      have e2 : rowAt (List.replicate n r) i = r := by unfold rowAt; rw [List.getD_eq_getElem?_getD, List.getElem?_replicate, if_pos hin]; rfl
      have e3 : (List.replicate n p).getD i (0, 1) = p := by rw [List.getD_eq_getElem?_getD, List.getElem?_replicate, if_pos hin]; rfl
      rw [gIx_at (.inl rfl) (d := encRow (slowRow r p i)) (by rw [List.getElem?_map, List.getElem?_range hin]; show some (encRow (slowRow (rowAt (List.replicate n r) i) ((List.replicate n p).getD i (0, 1)) i)) = _; rw [e2, e3])]
      exact h
    · rw [List.nil_append]
      unfold encRsL at h
      rw [List.map_map] at h
      exact h
  · rw [List.nil_append]
    unfold encMoves slowM at h
    rw [List.map_map, hln] at h
    exact h
end Wk
end
section
set_option Elab.async false
set_option linter.all false
set_option maxRecDepth 100000
/-! D31: the slowed row. -/
namespace Wk
open PySem PySem.Spec L3
local macro_rules | `(tactic| walk_at "dv") => `(tactic| simp only [q_dDef, q_sh0, List.map_cons, List.map_nil, List.cons_append, List.nil_append, q_dSq, q_dNext, q_dSet, q_dSetF, q_dSetO, q_dRet, q_dRetN, q_dIfS, q_dNever, q_dWhile, q_dFor, q_dPar, q_dAsg, q_dDrop,
  q_dFrz, q_dApp, q_dAppF, q_dPut, q_dPutF, q_dAttrN, q_dAttrFN, q_dFldN,
  List.getElem?_cons_zero, List.getElem?_cons_succ, List.set_cons_zero, List.set_cons_succ, q_setS0, q_setSc, q_setSs0, q_setSsc, q_setD0, q_setDc, q_wipe0, q_wipec,
  shOf_nil, shOf_c, shO_n, shO_s, shO_o, shO_i, alOf_nil, alOf_c, alO_n, alO_s, alO_o, alO_i, dVar_0, dVar_s, q_dC, q_dBin, q_dBinL, q_dTest, q_dChain, q_dNot, q_dNotV, q_dAnd, q_dAndV, q_dOr, q_dOrV, q_dIf, q_dNeg, q_dCall, q_dCallL, q_dCons, q_dNil, q_dStar, q_dLst, q_dTup, q_dLen, q_dxCons, q_dxNil, q_dxP, q_dxO, q_dYes,
  asInt_int, asBl_bl, asSeq_l, asSeq_t, asLst_l, asTup_t, asObj_o, arg1_, arg2_, arg3_, q_gDef, q_gMake, q_gI0, q_gI, gEq_int, gNe_int, q_gLen, q_gAbs, q_gMax2, q_gMin2, q_gInt_i, q_gInt_b, q_gTuple, q_gList, gIx_0, gIx_1, gIx_0l, gIx_1l, q_gCatL, q_gRepL, q_gCatT, q_gRepT, isi_, isi_int_int, isi_bool_int, isi_tup_tup, isiT_, isiT_lst, isiT_tup, isC_, isCK_o, q_dSeqI, q_dEnumI, q_dZip2, q_dZip3, q_dRng1, q_dRng2, q_dLc, q_gIsB, q_gNotB, q_dSlL, q_dSlT, q_dNoP, q_dSoP,
  List.length_cons, List.length_nil, true_and, and_true, Bool.not_true, Bool.not_false, if_true, Bool.false_eq_true, if_false])
local macro_rules | `(tactic| walk_at "dh") => `(tactic| ((try simp only [fM_eq, fN_eq]); repeat (first | walk_at "dv" | simp only [q_dMv, q_dNv, fMoves_h, fMany_h, isCK_h, asSeq_rT])))
local macro_rules | `(tactic| walk_at "dd") => `(tactic| repeat (first | walk_at "dv" | simp only [q_dDrN, q_dDrC, q_dPop, q_dDput, q_dScrI, q_dLenS]))
open Mx (S)
theorem sum_setI : ∀ {l : List Int} {i : Nat} {x : Int}, i < l.length → (l.set i x).sum = l.sum - gi l i + x
  | a :: l, 0, x, _ => by
    rw [List.set_cons_zero, List.sum_cons, List.sum_cons]
    show x + l.sum = a + l.sum - a + x
    omega
  | a :: l, i + 1, x, h => by
    rw [List.set_cons_succ, List.sum_cons, List.sum_cons, sum_setI (l := l) (by simpa using h)]
    show a + (l.sum - gi l i + x) = a + l.sum - gi l i + x
    omega
theorem sum_mulI {c : Int} : ∀ {l : List Int}, (l.map fun m => m * c).sum = l.sum * c
  | [] => by simp
  | a :: l => by rw [List.map_cons, List.sum_cons, List.sum_cons, sum_mulI (l := l), Int.add_mul]
theorem slow_row {n i : Nat} {r : Row} {p : Int × Int} (R : RowOk n 5 r) (h23 : r.1 ≤ 23) (hp : StayOk p) (hi : i < n) : RowOk n 8 (slowRow r p i) ∧ ∀ j, j < n → pq (slowRow r p i) j = (1 - (p.1 : Rat) / (p.2 : Rat)) * pq r j + if j = i then (p.1 : Rat) / (p.2 : Rat) else 0 := by
  obtain ⟨s0, s1, s2⟩ := hp
  have tp := R.pos
  have hlen : (r.2.map fun m => m * (p.2 - p.1)).length = n := by rw [List.length_map, R.len]
  have gm : ∀ j, j < n → gi (r.2.map fun m => m * (p.2 - p.1)) j = gi r.2 j * (p.2 - p.1) := fun j hj => gi_map (gi_get (by rw [R.len]; exact hj))
  have hsum : (slowRow r p i).2.sum = r.2.sum * (p.2 - p.1) + r.1 * p.1 := by
    show ((r.2.map fun m => m * (p.2 - p.1)).set i _).sum = _
    rw [sum_setI (by omega), sum_mulI, gm i hi]
    omega
  have hd : (0 : Int) < p.2 - p.1 := by omega
  have h0 := sum_nn R.nn
  have hlt : r.2.sum * (p.2 - p.1) < r.1 * (p.2 - p.1) := Int.mul_lt_mul_of_pos_right R.lt hd
  have hmul : r.1 * p.2 = r.1 * (p.2 - p.1) + r.1 * p.1 := by rw [← Int.mul_add]; congr 1; omega
  have hpos : 0 ≤ r.1 * p.1 := Int.mul_nonneg (by omega) s0
  refine ⟨⟨by show ((r.2.map fun m => m * (p.2 - p.1)).set i _).length = n; rw [List.length_set, hlen], fun m hm => ?_, by rw [hsum]; show _ < r.1 * p.2; omega, ?_⟩, fun j hj => ?_⟩
  · rcases List.mem_or_eq_of_mem_set hm with hm | rfl
    · obtain ⟨z, hz, rfl⟩ := List.mem_map.mp hm
      exact Int.mul_nonneg (R.nn z hz) (by omega)
    · have := R.num (gi r.2 i) (List.mem_of_getElem? (gi_get (by rw [R.len]; exact hi)))
      have := Int.mul_nonneg this.1 (show (0 : Int) ≤ p.2 - p.1 by omega)
      omega
  · show (r.1 * p.2).natAbs < 2 ^ 8
    have h1 : r.1 * p.2 ≤ 23 * p.2 := Int.mul_le_mul_of_nonneg_right h23 (by omega)
    have h2 : 0 ≤ r.1 * p.2 := Int.mul_nonneg (by omega) (by omega)
    omega
  · have tq : (r.1 : Rat) ≠ 0 := by
      have : (0 : Rat) < (r.1 : Rat) := by exact_mod_cast tp
      grind
    have dq : (p.2 : Rat) ≠ 0 := by
      have : (0 : Rat) < (p.2 : Rat) := by exact_mod_cast (show (0 : Int) < p.2 by omega)
      grind
    unfold pq
    show ((gi ((r.2.map fun m => m * (p.2 - p.1)).set i (gi r.2 i * (p.2 - p.1) + r.1 * p.1)) j : Int) : Rat) / ((r.1 * p.2 : Int) : Rat) = _
    rw [gi_set (by omega)]
    by_cases e : j = i
    · subst e
      rw [if_pos rfl, if_pos rfl, Rat.intCast_add, Rat.intCast_mul, Rat.intCast_mul, Rat.intCast_mul, Rat.intCast_sub]
      grind
    · rw [if_neg e, if_neg e, gm j hj, Rat.intCast_mul, Rat.intCast_mul, Rat.intCast_sub]
      grind
end Wk
end
section
set_option Elab.async false
set_option linter.all false
set_option maxRecDepth 100000
/-! D32: rows that stand for the same chances; the slowed house has the same best value. -/
namespace Wk
open PySem PySem.Spec L3
local macro_rules | `(tactic| walk_at "dv") => `(tactic| simp only [q_dDef, q_sh0, List.map_cons, List.map_nil, List.cons_append, List.nil_append, q_dSq, q_dNext, q_dSet, q_dSetF, q_dSetO, q_dRet, q_dRetN, q_dIfS, q_dNever, q_dWhile, q_dFor, q_dPar, q_dAsg, q_dDrop,
  q_dFrz, q_dApp, q_dAppF, q_dPut, q_dPutF, q_dAttrN, q_dAttrFN, q_dFldN,
  List.getElem?_cons_zero, List.getElem?_cons_succ, List.set_cons_zero, List.set_cons_succ, q_setS0, q_setSc, q_setSs0, q_setSsc, q_setD0, q_setDc, q_wipe0, q_wipec,
  shOf_nil, shOf_c, shO_n, shO_s, shO_o, shO_i, alOf_nil, alOf_c, alO_n, alO_s, alO_o, alO_i, dVar_0, dVar_s, q_dC, q_dBin, q_dBinL, q_dTest, q_dChain, q_dNot, q_dNotV, q_dAnd, q_dAndV, q_dOr, q_dOrV, q_dIf, q_dNeg, q_dCall, q_dCallL, q_dCons, q_dNil, q_dStar, q_dLst, q_dTup, q_dLen, q_dxCons, q_dxNil, q_dxP, q_dxO, q_dYes,
  asInt_int, asBl_bl, asSeq_l, asSeq_t, asLst_l, asTup_t, asObj_o, arg1_, arg2_, arg3_, q_gDef, q_gMake, q_gI0, q_gI, gEq_int, gNe_int, q_gLen, q_gAbs, q_gMax2, q_gMin2, q_gInt_i, q_gInt_b, q_gTuple, q_gList, gIx_0, gIx_1, gIx_0l, gIx_1l, q_gCatL, q_gRepL, q_gCatT, q_gRepT, isi_, isi_int_int, isi_bool_int, isi_tup_tup, isiT_, isiT_lst, isiT_tup, isC_, isCK_o, q_dSeqI, q_dEnumI, q_dZip2, q_dZip3, q_dRng1, q_dRng2, q_dLc, q_gIsB, q_gNotB, q_dSlL, q_dSlT, q_dNoP, q_dSoP,
  List.length_cons, List.length_nil, true_and, and_true, Bool.not_true, Bool.not_false, if_true, Bool.false_eq_true, if_false])
local macro_rules | `(tactic| walk_at "dh") => `(tactic| ((try simp only [fM_eq, fN_eq]); repeat (first | walk_at "dv" | simp only [q_dMv, q_dNv, fMoves_h, fMany_h, isCK_h, asSeq_rT])))
local macro_rules | `(tactic| walk_at "dd") => `(tactic| repeat (first | walk_at "dv" | simp only [q_dDrN, q_dDrC, q_dPop, q_dDput, q_dScrI, q_dLenS]))
open Mx (S)
theorem pq_lp {n b : Nat} {r : Row} (R : RowOk n b r) (j : Nat) : pq (lp r) j = pq r j := by
  obtain ⟨R', g, g0, e1, e2⟩ := lp_ok R
  have gq : (g : Rat) ≠ 0 := by
    have : (0 : Rat) < (g : Rat) := by exact_mod_cast g0
    grind
  have tq : ((lp r).1 : Rat) ≠ 0 := by
    have : (0 : Rat) < ((lp r).1 : Rat) := by exact_mod_cast R'.pos
    grind
  have h1 : (r.1 : Rat) = (g : Rat) * ((lp r).1 : Rat) := by rw [← Rat.intCast_mul, ← e1]
  have h2 : (gi r.2 j : Rat) = (g : Rat) * (gi (lp r).2 j : Rat) := by rw [← Rat.intCast_mul, ← e2 j]
  unfold pq
  rw [h1, h2]
  grind
theorem mean_congr {n : Nat} {r r' : Row} {V W : Nat → Rat} (h : ∀ j, j < n → pq r j = pq r' j) (hv : ∀ j, j < n → V j = W j) : mean n r V = mean n r' W := Mx.S_congr fun j hj => by rw [h j hj, hv j hj]
/-- one move of the slowed house -/
theorem sq_slow {n i : Nat} {r : Row} {p : Int × Int} (R : RowOk n 5 r) (h23 : r.1 ≤ 23) (hp : StayOk p) (hi : i < n) {g : Rat} {V : Nat → Rat} :
    sq n (lp (slowRow r p i)) (g * (1 - (p.1 : Rat) / (p.2 : Rat))) V = (1 - (p.1 : Rat) / (p.2 : Rat)) * sq n (lp r) g V + (p.1 : Rat) / (p.2 : Rat) * V i := by
  obtain ⟨R', hq⟩ := slow_row R h23 hp hi
  have e : mean n (lp (slowRow r p i)) V = (1 - (p.1 : Rat) / (p.2 : Rat)) * mean n (lp r) V + (p.1 : Rat) / (p.2 : Rat) * V i := by
    unfold mean
    have e1 : S n (fun j => pq (lp (slowRow r p i)) j * V j) = S n (fun j => (1 - (p.1 : Rat) / (p.2 : Rat)) * (pq (lp r) j * V j) + if j = i then (p.1 : Rat) / (p.2 : Rat) * V j else 0) := Mx.S_congr fun j hj => by
      rw [pq_lp R', hq j hj, pq_lp R]
      by_cases e : j = i
      · rw [if_pos e, if_pos e]; grind
      · rw [if_neg e, if_neg e]; grind
    rw [e1, Mx.S_add, Mx.S_mul, Mx.S_one (f := fun j => if j = i then (p.1 : Rat) / (p.2 : Rat) * V j else 0) hi fun j hj hn => if_neg hn, if_pos rfl]
  unfold sq
  rw [e]
  grind
end Wk
end
section
set_option Elab.async false
set_option linter.all false
set_option maxRecDepth 100000
/-! D33: best values by sums. -/
namespace Wk
open PySem PySem.Spec L3
local macro_rules | `(tactic| walk_at "dv") => `(tactic| simp only [q_dDef, q_sh0, List.map_cons, List.map_nil, List.cons_append, List.nil_append, q_dSq, q_dNext, q_dSet, q_dSetF, q_dSetO, q_dRet, q_dRetN, q_dIfS, q_dNever, q_dWhile, q_dFor, q_dPar, q_dAsg, q_dDrop,
  q_dFrz, q_dApp, q_dAppF, q_dPut, q_dPutF, q_dAttrN, q_dAttrFN, q_dFldN,
  List.getElem?_cons_zero, List.getElem?_cons_succ, List.set_cons_zero, List.set_cons_succ, q_setS0, q_setSc, q_setSs0, q_setSsc, q_setD0, q_setDc, q_wipe0, q_wipec,
  shOf_nil, shOf_c, shO_n, shO_s, shO_o, shO_i, alOf_nil, alOf_c, alO_n, alO_s, alO_o, alO_i, dVar_0, dVar_s, q_dC, q_dBin, q_dBinL, q_dTest, q_dChain, q_dNot, q_dNotV, q_dAnd, q_dAndV, q_dOr, q_dOrV, q_dIf, q_dNeg, q_dCall, q_dCallL, q_dCons, q_dNil, q_dStar, q_dLst, q_dTup, q_dLen, q_dxCons, q_dxNil, q_dxP, q_dxO, q_dYes,
  asInt_int, asBl_bl, asSeq_l, asSeq_t, asLst_l, asTup_t, asObj_o, arg1_, arg2_, arg3_, q_gDef, q_gMake, q_gI0, q_gI, gEq_int, gNe_int, q_gLen, q_gAbs, q_gMax2, q_gMin2, q_gInt_i, q_gInt_b, q_gTuple, q_gList, gIx_0, gIx_1, gIx_0l, gIx_1l, q_gCatL, q_gRepL, q_gCatT, q_gRepT, isi_, isi_int_int, isi_bool_int, isi_tup_tup, isiT_, isiT_lst, isiT_tup, isC_, isCK_o, q_dSeqI, q_dEnumI, q_dZip2, q_dZip3, q_dRng1, q_dRng2, q_dLc, q_gIsB, q_gNotB, q_dSlL, q_dSlT, q_dNoP, q_dSoP,
  List.length_cons, List.length_nil, true_and, and_true, Bool.not_true, Bool.not_false, if_true, Bool.false_eq_true, if_false])
local macro_rules | `(tactic| walk_at "dh") => `(tactic| ((try simp only [fM_eq, fN_eq]); repeat (first | walk_at "dv" | simp only [q_dMv, q_dNv, fMoves_h, fMany_h, isCK_h, asSeq_rT])))
local macro_rules | `(tactic| walk_at "dd") => `(tactic| repeat (first | walk_at "dv" | simp only [q_dDrN, q_dDrC, q_dPop, q_dDput, q_dScrI, q_dLenS]))
open Mx (S)
section
variable {n : Nat} {M M' : List (List Row)} {gs gs' : List (List Rat)} {V W : Nat → Rat} {plan : List Nat}
theorem bell_of (Y : HG n M gs) (B : BestPlan n M gs V plan) (hv : ∀ (i k : Nat) (rs : List Row) (g : List Rat), M[i]? = some rs → gs[i]? = some g → plan[i]? = some k → (sumsF n rs g V)[k]? = some (V i)) : Bell n M gs V := by
  refine ⟨plan, B, fun i hi => ?_⟩
  obtain ⟨rs, g, k, r, q, a1, a2, a3, a4, a5, a6, a7, a8⟩ := at_plan Y (B.ok Y) hi
  have h := hv i k rs g a1 a2 a3
  rw [sumsF_at a4 a5] at h
  have h2 : sq n r q V = V i := Option.some.inj h
  rw [a6, a7]
  exact h2.symm
/-- an increasing change of the sums keeps the first greatest -/
theorem Best.map {qs : List Rat} {f : Rat → Rat} (hf : ∀ x y, x < y → f x < f y) {k : Nat} (h : Best qs k) : Best (qs.map f) k := by
  obtain ⟨m, h1, h2, h3⟩ := h
  refine ⟨f m, by rw [List.getElem?_map, h1]; rfl, fun p hp => ?_, fun j z hj hz => ?_⟩
  · obtain ⟨x, hx, rfl⟩ := List.mem_map.mp hp
    have := h2 x hx
    by_cases e : x = m
    · rw [e]; exact Rat.le_refl
    · have := hf x m (by grind)
      grind
  · rw [List.getElem?_map] at hz
    obtain ⟨x, hx, rfl⟩ := Option.map_eq_some_iff.mp hz
    exact hf x m (h3 j x hj hx)
/-- the same place by place, changed upwards: the same plan is best, and V stays the value -/
theorem Bell.change (Y : HG n M gs) (Y' : HG n M' gs') (hB : Bell n M gs V) (B : BestPlan n M gs V plan) (f : Nat → Rat → Rat) (hf : ∀ i, i < n → ∀ x y, x < y → f i x < f i y)
    (hs : ∀ (i : Nat) (rs rs' : List Row) (g g' : List Rat), M[i]? = some rs → gs[i]? = some g → M'[i]? = some rs' → gs'[i]? = some g' → sumsF n rs' g' W = (sumsF n rs g V).map (f i)) (hV : ∀ i, i < n → f i (V i) = W i) :
    BestPlan n M' gs' W plan ∧ Bell n M' gs' W := by
  have get : ∀ {i : Nat}, i < n → ∃ rs g, M[i]? = some rs ∧ gs[i]? = some g := fun {i} hi => ⟨_, _, List.getElem?_eq_getElem (by rw [Y.h.len]; exact hi), List.getElem?_eq_getElem (by rw [Y.p.1, Y.h.len]; exact hi)⟩
  have B' : BestPlan n M' gs' W plan := ⟨B.1, fun i k rs' g' h1 h2 h3 => by
    have hi : i < n := by rw [← Y'.h.len]; exact (List.getElem?_eq_some_iff.mp h1).1
    obtain ⟨rs, g, e1, e2⟩ := get hi
    rw [hs i rs rs' g g' e1 e2 h1 h2]
    exact (B.2 i k rs g e1 e2 h3).map (hf i hi)⟩
  refine ⟨B', bell_of Y' B' fun i k rs' g' h1 h2 h3 => ?_⟩
  have hi : i < n := by rw [← Y'.h.len]; exact (List.getElem?_eq_some_iff.mp h1).1
  obtain ⟨rs, g, e1, e2⟩ := get hi
  rw [hs i rs rs' g g' e1 e2 h1 h2, List.getElem?_map, (bell_at Y hB e1 e2 (B.2 i k rs g e1 e2 h3)).1]
  show some (f i (V i)) = some (W i)
  rw [hV i hi]
end
end Wk
end
section
set_option Elab.async false
set_option linter.all false
set_option maxRecDepth 100000
/-! D34: the house and the slowed house, their gains. -/
namespace Wk
open PySem PySem.Spec L3
local macro_rules | `(tactic| walk_at "dv") => `(tactic| simp only [q_dDef, q_sh0, List.map_cons, List.map_nil, List.cons_append, List.nil_append, q_dSq, q_dNext, q_dSet, q_dSetF, q_dSetO, q_dRet, q_dRetN, q_dIfS, q_dNever, q_dWhile, q_dFor, q_dPar, q_dAsg, q_dDrop,
  q_dFrz, q_dApp, q_dAppF, q_dPut, q_dPutF, q_dAttrN, q_dAttrFN, q_dFldN,
  List.getElem?_cons_zero, List.getElem?_cons_succ, List.set_cons_zero, List.set_cons_succ, q_setS0, q_setSc, q_setSs0, q_setSsc, q_setD0, q_setDc, q_wipe0, q_wipec,
  shOf_nil, shOf_c, shO_n, shO_s, shO_o, shO_i, alOf_nil, alOf_c, alO_n, alO_s, alO_o, alO_i, dVar_0, dVar_s, q_dC, q_dBin, q_dBinL, q_dTest, q_dChain, q_dNot, q_dNotV, q_dAnd, q_dAndV, q_dOr, q_dOrV, q_dIf, q_dNeg, q_dCall, q_dCallL, q_dCons, q_dNil, q_dStar, q_dLst, q_dTup, q_dLen, q_dxCons, q_dxNil, q_dxP, q_dxO, q_dYes,
  asInt_int, asBl_bl, asSeq_l, asSeq_t, asLst_l, asTup_t, asObj_o, arg1_, arg2_, arg3_, q_gDef, q_gMake, q_gI0, q_gI, gEq_int, gNe_int, q_gLen, q_gAbs, q_gMax2, q_gMin2, q_gInt_i, q_gInt_b, q_gTuple, q_gList, gIx_0, gIx_1, gIx_0l, gIx_1l, q_gCatL, q_gRepL, q_gCatT, q_gRepT, isi_, isi_int_int, isi_bool_int, isi_tup_tup, isiT_, isiT_lst, isiT_tup, isC_, isCK_o, q_dSeqI, q_dEnumI, q_dZip2, q_dZip3, q_dRng1, q_dRng2, q_dLc, q_gIsB, q_gNotB, q_dSlL, q_dSlT, q_dNoP, q_dSoP,
  List.length_cons, List.length_nil, true_and, and_true, Bool.not_true, Bool.not_false, if_true, Bool.false_eq_true, if_false])
local macro_rules | `(tactic| walk_at "dh") => `(tactic| ((try simp only [fM_eq, fN_eq]); repeat (first | walk_at "dv" | simp only [q_dMv, q_dNv, fMoves_h, fMany_h, isCK_h, asSeq_rT])))
local macro_rules | `(tactic| walk_at "dd") => `(tactic| repeat (first | walk_at "dv" | simp only [q_dDrN, q_dDrC, q_dPop, q_dDput, q_dScrI, q_dLenS]))
open Mx (S)
def houseM (M0 : List (List Row)) : List (List Row) := M0.map fun rs => rs.map lp
def lateM (M0 : List (List Row)) (st : List (Int × Int)) : List (List Row) := (slowM M0 st).map fun rs => rs.map lp
def lateG (gs : List (List Rat)) (st : List (Int × Int)) : List (List Rat) := (gs.zip st).map fun q => q.1.map fun g => g * shorter q.2
theorem shorter_eq {p : Int × Int} (h : StayOk p) : shorter p = 1 - (p.1 : Rat) / (p.2 : Rat) := by
  obtain ⟨s0, s1, s2⟩ := h
  have dq : (p.2 : Rat) ≠ 0 := by
    have : (0 : Rat) < (p.2 : Rat) := by exact_mod_cast (show (0 : Int) < p.2 by omega)
    grind
  unfold shorter
  have : ((p.2.toNat : Nat) : Rat) = (p.2 : Rat) := by
    rw [← Rat.intCast_natCast, Int.toNat_of_nonneg (by omega)]
  rw [Rat.mkRat_eq_div, this, Rat.intCast_sub]
  grind
theorem mul_small {p q : Rat} {A B C D : Nat} (h1 : p.num.natAbs ≤ A ∧ p.den ≤ B) (h2 : q.num.natAbs ≤ C ∧ q.den ≤ D) : (p * q).num.natAbs ≤ A * C ∧ (p * q).den ≤ B * D := by
  rw [Rat.mul_def']
  exact mkRat_small (Nat.mul_pos p.den_pos q.den_pos) (by rw [Int.natAbs_mul]; exact Nat.mul_le_mul h1.1 h2.1) (Nat.mul_le_mul h1.2 h2.2)
theorem shorter_small {p : Int × Int} (h : StayOk p) : (shorter p).num.natAbs ≤ 10 ∧ (shorter p).den ≤ 10 := by
  obtain ⟨s0, s1, s2⟩ := h
  exact mkRat_small (by omega) (by omega) (by omega)
section
variable {n : Nat} {M0 : List (List Row)} {st : List (Int × Int)} {gs : List (List Rat)}
/-- what the law draws -/
structure Drawn (n : Nat) (M0 : List (List Row)) (st : List (Int × Int)) (gs : List (List Rat)) : Prop where
  n4 : n ≤ 4
  h : HouseOk n 5 M0
  t : ∀ rs ∈ M0, ∀ r ∈ rs, r.1 ≤ 23
  sl : st.length = n
  st : ∀ p ∈ st, StayOk p
  p : PartsOk M0 gs
  g : ∀ g ∈ gs, ∀ q ∈ g, G1 q
theorem RowOk.mono {b c : Nat} {r : Row} (h : RowOk n b r) (hc : b ≤ c) : RowOk n c r := ⟨h.len, h.nn, h.lt, Nat.lt_of_lt_of_le h.sm (Nat.pow_le_pow_right (by decide) hc)⟩
theorem Drawn.house (Y : Drawn n M0 st gs) : HG n (houseM M0) gs := by
  refine ⟨⟨by unfold houseM; rw [List.length_map, Y.h.len], Y.h.n1, Y.h.n8, fun rs hrs => ?_, fun rs hrs r hr => ?_⟩, Y.n4, ⟨by unfold houseM; rw [List.length_map]; exact Y.p.1, fun i rs g h1 h2 => ?_⟩, fun g hg q hq => ?_⟩
  · obtain ⟨rs0, h0, rfl⟩ := List.mem_map.mp hrs
    rw [List.length_map]
    exact Y.h.some_ rs0 h0
  · obtain ⟨rs0, h0, rfl⟩ := List.mem_map.mp hrs
    obtain ⟨r0, hr0, rfl⟩ := List.mem_map.mp hr
    exact (lp_ok (Y.h.row rs0 h0 r0 hr0)).1.mono (by decide)
  · unfold houseM at h1
    rw [List.getElem?_map] at h1
    obtain ⟨rs0, h0, rfl⟩ := Option.map_eq_some_iff.mp h1
    rw [List.length_map]
    exact Y.p.2 i rs0 g h0 h2
  · have := Y.g g hg q hq
    exact ⟨Nat.lt_of_le_of_lt this.1 (by decide), Nat.lt_of_le_of_lt this.2 (by decide)⟩
theorem Drawn.slow_at (Y : Drawn n M0 st gs) {i : Nat} {rs' : List Row} (h : (lateM M0 st)[i]? = some rs') : ∃ rs p, M0[i]? = some rs ∧ st[i]? = some p ∧ rs' = rs.map fun r => lp (slowRow r p i) := by
  unfold lateM slowM at h
  rw [List.getElem?_map, List.getElem?_map] at h
  obtain ⟨ls, h1, rfl⟩ := Option.map_eq_some_iff.mp h
  obtain ⟨k, h2, rfl⟩ := Option.map_eq_some_iff.mp h1
  have hk : i < M0.length := by
    have := (List.getElem?_eq_some_iff.mp h2).1
    simpa using this
  rw [List.getElem?_range hk] at h2
  cases h2
  have e1 : M0[i]? = some M0[i] := List.getElem?_eq_getElem hk
  have hs : i < st.length := by rw [Y.sl, ← Y.h.len]; exact hk
  have e2 : st[i]? = some st[i] := List.getElem?_eq_getElem hs
  refine ⟨M0[i], st[i], e1, e2, ?_⟩
  have ea : M0.getD i [] = M0[i] := by rw [List.getD_eq_getElem?_getD, e1]; rfl
  have eb : st.getD i (0, 1) = st[i] := by rw [List.getD_eq_getElem?_getD, e2]; rfl
  rw [ea, eb, List.map_map]
  rfl
theorem Drawn.lateG_at (Y : Drawn n M0 st gs) {i : Nat} {g' : List Rat} (h : (lateG gs st)[i]? = some g') : ∃ g p, gs[i]? = some g ∧ st[i]? = some p ∧ g' = g.map fun q => q * shorter p := by
  unfold lateG at h
  rw [List.getElem?_map] at h
  obtain ⟨⟨g, p⟩, h1, rfl⟩ := Option.map_eq_some_iff.mp h
  rw [List.getElem?_zip_eq_some] at h1
  exact ⟨g, p, h1.1, h1.2, rfl⟩
theorem Drawn.late (Y : Drawn n M0 st gs) : HG n (lateM M0 st) (lateG gs st) := by
  have ll : (lateM M0 st).length = n := by unfold lateM slowM; simp [Y.h.len]
  have at_ : ∀ {rs'}, rs' ∈ lateM M0 st → ∃ i rs p, i < n ∧ M0[i]? = some rs ∧ st[i]? = some p ∧ rs' = rs.map fun r => lp (slowRow r p i) := fun {rs'} h => by
    obtain ⟨i, hi⟩ := List.getElem?_of_mem h
    obtain ⟨rs, p, a, b, c⟩ := Y.slow_at hi
    exact ⟨i, rs, p, by rw [← ll]; exact (List.getElem?_eq_some_iff.mp hi).1, a, b, c⟩
  refine ⟨⟨ll, Y.h.n1, Y.h.n8, fun rs' hrs => ?_, fun rs' hrs r' hr => ?_⟩, Y.n4, ⟨by unfold lateG; simp [ll, Y.p.1, Y.h.len, Y.sl], fun i rs' g' h1 h2 => ?_⟩, fun g' hg q hq => ?_⟩
  · obtain ⟨i, rs, p, hi, a, b, rfl⟩ := at_ hrs
    rw [List.length_map]
    exact Y.h.some_ rs (List.mem_of_getElem? a)
  · obtain ⟨i, rs, p, hi, a, b, rfl⟩ := at_ hrs
    obtain ⟨r, hr', rfl⟩ := List.mem_map.mp hr
    have hm := List.mem_of_getElem? a
    exact (lp_ok (slow_row (Y.h.row rs hm r hr') (Y.t rs hm r hr') (Y.st p (List.mem_of_getElem? b)) hi).1).1
  · obtain ⟨rs, p, a, b, rfl⟩ := Y.slow_at h1
    obtain ⟨g, p', c, d, rfl⟩ := Y.lateG_at h2
    rw [List.length_map, List.length_map]
    exact Y.p.2 i rs g a c
  · obtain ⟨i, hi⟩ := List.getElem?_of_mem hg
    obtain ⟨g, p, c, d, rfl⟩ := Y.lateG_at hi
    obtain ⟨z, hz, rfl⟩ := List.mem_map.mp hq
    have := mul_small (Y.g g (List.mem_of_getElem? c) z hz) (shorter_small (Y.st p (List.mem_of_getElem? d)))
    exact ⟨Nat.lt_of_le_of_lt this.1 (by decide), Nat.lt_of_le_of_lt this.2 (by decide)⟩
/-- the slowed house has the same best value and plan -/
theorem Drawn.same (Y : Drawn n M0 st gs) {V : Nat → Rat} {plan : List Nat} (hB : Bell n (houseM M0) gs V) (B : BestPlan n (houseM M0) gs V plan) : BestPlan n (lateM M0 st) (lateG gs st) V plan ∧ Bell n (lateM M0 st) (lateG gs st) V := by
  let s : Nat → Rat := fun i => ((st.getD i (0, 1)).1 : Rat) / ((st.getD i (0, 1)).2 : Rat)
  have sp : ∀ {i p}, st[i]? = some p → s i = (p.1 : Rat) / (p.2 : Rat) := fun {i p} h => by
    show ((st.getD i (0, 1)).1 : Rat) / ((st.getD i (0, 1)).2 : Rat) = _
    rw [List.getD_eq_getElem?_getD, h]
    rfl
  refine Bell.change Y.house Y.late hB B (fun i x => (1 - s i) * x + s i * V i) (fun i hi x y hxy => ?_) (fun i rs rs' g g' h1 h2 h3 h4 => ?_) (fun i hi => by grind)
  · obtain ⟨p, hp⟩ : ∃ p, st[i]? = some p := ⟨_, List.getElem?_eq_getElem (by rw [Y.sl]; exact hi)⟩
    obtain ⟨s0, s1, s2⟩ := Y.st p (List.mem_of_getElem? hp)
    have dq : (0 : Rat) < (p.2 : Rat) := by exact_mod_cast (show (0 : Int) < p.2 by omega)
    have nq : (p.1 : Rat) < (p.2 : Rat) := by exact_mod_cast s1
    have e : 1 - s i = ((p.2 : Rat) - (p.1 : Rat)) * (p.2 : Rat)⁻¹ := by rw [sp hp, Rat.div_def]; grind
    have pos : 0 < 1 - s i := by
      rw [e]
      exact Rat.mul_pos (by grind) (Rat.inv_pos.mpr dq)
    have := Rat.mul_lt_mul_of_pos_left hxy pos
    grind
  · obtain ⟨rs0, p, a, b, rfl⟩ := Y.slow_at h3
    obtain ⟨g0, p', c, d, rfl⟩ := Y.lateG_at h4
    rw [b] at d
    cases d
    rw [h2] at c
    cases c
    have hi : i < n := by rw [← Y.h.len]; exact (List.getElem?_eq_some_iff.mp a).1
    unfold houseM at h1
    rw [List.getElem?_map, a] at h1
    have h1 : rs0.map lp = rs := Option.some.inj h1
    subst h1
    have hm := List.mem_of_getElem? a
    have hst := Y.st p (List.mem_of_getElem? b)
    unfold sumsF
    rw [List.zip_map, List.zip_map_left, List.map_map, List.map_map, List.map_map]
    refine List.map_congr_left fun q hq => ?_
    obtain ⟨r, z⟩ := q
    have hr := (List.of_mem_zip hq).1
    show sq n (lp (slowRow r p i)) (z * shorter p) V = (1 - s i) * sq n (lp r) z V + s i * V i
    rw [shorter_eq hst, sp b]
    exact sq_slow (Y.h.row rs0 hm r hr) (Y.t rs0 hm r hr) hst hi
end
end Wk
end
section
set_option Elab.async false
set_option linter.all false
set_option maxRecDepth 100000
/-! D35: begun_by. -/
namespace Wk
open PySem PySem.Spec L3
local macro_rules | `(tactic| walk_at "dv") => `(tactic| simp only [q_dDef, q_sh0, List.map_cons, List.map_nil, List.cons_append, List.nil_append, q_dSq, q_dNext, q_dSet, q_dSetF, q_dSetO, q_dRet, q_dRetN, q_dIfS, q_dNever, q_dWhile, q_dFor, q_dPar, q_dAsg, q_dDrop,
  q_dFrz, q_dApp, q_dAppF, q_dPut, q_dPutF, q_dAttrN, q_dAttrFN, q_dFldN,
  List.getElem?_cons_zero, List.getElem?_cons_succ, List.set_cons_zero, List.set_cons_succ, q_setS0, q_setSc, q_setSs0, q_setSsc, q_setD0, q_setDc, q_wipe0, q_wipec,
  shOf_nil, shOf_c, shO_n, shO_s, shO_o, shO_i, alOf_nil, alOf_c, alO_n, alO_s, alO_o, alO_i, dVar_0, dVar_s, q_dC, q_dBin, q_dBinL, q_dTest, q_dChain, q_dNot, q_dNotV, q_dAnd, q_dAndV, q_dOr, q_dOrV, q_dIf, q_dNeg, q_dCall, q_dCallL, q_dCons, q_dNil, q_dStar, q_dLst, q_dTup, q_dLen, q_dxCons, q_dxNil, q_dxP, q_dxO, q_dYes,
  asInt_int, asBl_bl, asSeq_l, asSeq_t, asLst_l, asTup_t, asObj_o, arg1_, arg2_, arg3_, q_gDef, q_gMake, q_gI0, q_gI, gEq_int, gNe_int, q_gLen, q_gAbs, q_gMax2, q_gMin2, q_gInt_i, q_gInt_b, q_gTuple, q_gList, gIx_0, gIx_1, gIx_0l, gIx_1l, q_gCatL, q_gRepL, q_gCatT, q_gRepT, isi_, isi_int_int, isi_bool_int, isi_tup_tup, isiT_, isiT_lst, isiT_tup, isC_, isCK_o, q_dSeqI, q_dEnumI, q_dZip2, q_dZip3, q_dRng1, q_dRng2, q_dLc, q_gIsB, q_gNotB, q_dSlL, q_dSlT, q_dNoP, q_dSoP,
  List.length_cons, List.length_nil, true_and, and_true, Bool.not_true, Bool.not_false, if_true, Bool.false_eq_true, if_false])
local macro_rules | `(tactic| walk_at "dh") => `(tactic| ((try simp only [fM_eq, fN_eq]); repeat (first | walk_at "dv" | simp only [q_dMv, q_dNv, fMoves_h, fMany_h, isCK_h, asSeq_rT])))
local macro_rules | `(tactic| walk_at "dd") => `(tactic| repeat (first | walk_at "dv" | simp only [q_dDrN, q_dDrC, q_dPop, q_dDput, q_dScrI, q_dLenS]))
open Mx (S Sub)
/-- a common multiple of all totals -/
theorem K_of {b : Nat} : ∀ (rows : List Row), (∀ r ∈ rows, 0 < r.1 ∧ r.1.natAbs < 2 ^ b) → ∃ K : Nat, 0 < K ∧ K ≤ 2 ^ (b * rows.length) ∧ ∀ r ∈ rows, r.1.toNat ∣ K
  | [], _ => ⟨1, by decide, by simp, by simp⟩
  | r :: rows, h => by
    obtain ⟨K, k0, k9, kd⟩ := K_of rows fun x hx => h x (List.mem_cons_of_mem _ hx)
    obtain ⟨r0, r9⟩ := h r (List.mem_cons_self ..)
    refine ⟨r.1.toNat * K, Nat.mul_pos (by omega) k0, ?_, fun x hx => ?_⟩
    · rw [List.length_cons, Nat.mul_succ, Nat.pow_add, Nat.mul_comm (2 ^ (b * rows.length))]
      exact Nat.mul_le_mul (by omega) k9
    · rcases List.mem_cons.mp hx with rfl | hx
      · exact Nat.dvd_mul_right _ _
      · exact Nat.dvd_trans (kd x hx) (Nat.dvd_mul_left _ _)
theorem CD.pq {n b D N K : Nat} {x : Rat} {r : Row} {j : Nat} (R : RowOk n b r) (hj : j < n) (hx : CD D N x) (k0 : 0 < K) (kd : r.1.toNat ∣ K) : CD (D * K) (N * K) (x * pq r j) := by
  refine hx.mul ?_
  obtain ⟨m, hm⟩ := kd
  have tp := R.pos
  have z := R.num (gi r.2 j) (List.mem_of_getElem? (gi_get (by rw [R.len]; exact hj)))
  have m0 : 0 < m := by
    refine Nat.pos_of_ne_zero fun e => ?_
    rw [e] at hm
    omega
  have e1 : (r.1 : Rat) = ((r.1.toNat : Nat) : Rat) := by
    rw [← Rat.intCast_natCast, Int.toNat_of_nonneg (by omega)]
  have tq : ((r.1.toNat : Nat) : Rat) ≠ 0 := by
    have : (0 : Rat) < ((r.1.toNat : Nat) : Rat) := by exact_mod_cast (show 0 < r.1.toNat by omega)
    grind
  have mq : (m : Rat) ≠ 0 := by
    have : (0 : Rat) < (m : Rat) := by exact_mod_cast m0
    grind
  refine ⟨gi r.2 j * (m : Int), ?_, ?_⟩
  · unfold Wk.pq
    rw [e1, hm, Rat.mkRat_eq_div, Rat.intCast_mul]
    have h3 : ((r.1.toNat * m : Nat) : Rat) = ((r.1.toNat : Nat) : Rat) * (m : Rat) := by exact_mod_cast rfl
    have h4 : (((m : Nat) : Int) : Rat) = (m : Rat) := Rat.intCast_natCast m
    rw [h3, h4]
    grind
  · rw [Int.natAbs_mul, hm]
    exact Nat.mul_le_mul (by omega) (by simp)
end Wk
end
section
set_option Elab.async false
set_option linter.all false
set_option maxRecDepth 100000
/-! D36: begun_by's reading. -/
namespace Wk
open PySem PySem.Spec L3
local macro_rules | `(tactic| walk_at "dv") => `(tactic| simp only [q_dDef, q_sh0, List.map_cons, List.map_nil, List.cons_append, List.nil_append, q_dSq, q_dNext, q_dSet, q_dSetF, q_dSetO, q_dRet, q_dRetN, q_dIfS, q_dNever, q_dWhile, q_dFor, q_dPar, q_dAsg, q_dDrop,
  q_dFrz, q_dApp, q_dAppF, q_dPut, q_dPutF, q_dAttrN, q_dAttrFN, q_dFldN,
  List.getElem?_cons_zero, List.getElem?_cons_succ, List.set_cons_zero, List.set_cons_succ, q_setS0, q_setSc, q_setSs0, q_setSsc, q_setD0, q_setDc, q_wipe0, q_wipec,
  shOf_nil, shOf_c, shO_n, shO_s, shO_o, shO_i, alOf_nil, alOf_c, alO_n, alO_s, alO_o, alO_i, dVar_0, dVar_s, q_dC, q_dBin, q_dBinL, q_dTest, q_dChain, q_dNot, q_dNotV, q_dAnd, q_dAndV, q_dOr, q_dOrV, q_dIf, q_dNeg, q_dCall, q_dCallL, q_dCons, q_dNil, q_dStar, q_dLst, q_dTup, q_dLen, q_dxCons, q_dxNil, q_dxP, q_dxO, q_dYes,
  asInt_int, asBl_bl, asSeq_l, asSeq_t, asLst_l, asTup_t, asObj_o, arg1_, arg2_, arg3_, q_gDef, q_gMake, q_gI0, q_gI, gEq_int, gNe_int, q_gLen, q_gAbs, q_gMax2, q_gMin2, q_gInt_i, q_gInt_b, q_gTuple, q_gList, gIx_0, gIx_1, gIx_0l, gIx_1l, q_gCatL, q_gRepL, q_gCatT, q_gRepT, isi_, isi_int_int, isi_bool_int, isi_tup_tup, isiT_, isiT_lst, isiT_tup, isC_, isCK_o, q_dSeqI, q_dEnumI, q_dZip2, q_dZip3, q_dRng1, q_dRng2, q_dLc, q_gIsB, q_gNotB, q_dSlL, q_dSlT, q_dNoP, q_dSoP,
  List.length_cons, List.length_nil, true_and, and_true, Bool.not_true, Bool.not_false, if_true, Bool.false_eq_true, if_false])
local macro_rules | `(tactic| walk_at "dh") => `(tactic| ((try simp only [fM_eq, fN_eq]); repeat (first | walk_at "dv" | simp only [q_dMv, q_dNv, fMoves_h, fMany_h, isCK_h, asSeq_rT])))
local macro_rules | `(tactic| walk_at "dd") => `(tactic| repeat (first | walk_at "dv" | simp only [q_dDrN, q_dDrC, q_dPop, q_dDput, q_dScrI, q_dLenS]))
open Mx (S Sub)
def comeQ (j : Nat) (q : List Row × List Rat) : List Rat := (q.1.zip q.2).map fun z => z.2 * pq z.1 j
def comeF (M : List (List Row)) (gs : List (List Rat)) (j : Nat) : List Rat := (M.zip gs).flatMap (comeQ j)
def begF (M : List (List Row)) (gs : List (List Rat)) (j : Nat) : Rat := sumR (gs.getD j []) - sumR (comeF M gs j)
section
variable {n : Nat} {M : List (List Row)} {gs : List (List Rat)} {Q : DK}
theorem come_len (H : HouseOk n 8 M) : ∀ {l : List (List Row × List Rat)} {j : Nat}, (∀ q ∈ l, q.1.length ≤ 3) → (l.flatMap (comeQ j)).length ≤ 3 * l.length
  | [], _, _ => by simp
  | q :: l, j, h => by
    have h1 := come_len H (l := l) (j := j) fun x hx => h x (List.mem_cons_of_mem _ hx)
    have h2 := h q (List.mem_cons_self ..)
    rw [List.flatMap_cons, List.length_append, List.length_cons]
    have : (comeQ j q).length ≤ q.1.length := by unfold comeQ; simp; omega
    omega
theorem begun_ok (H : HouseOk n 8 M) (hn4 : n ≤ 4) (P : PartsOk M gs) {D : Nat} (D0 : 0 < D) (D9 : D < 2 ^ 3500) (hc : ∀ g ∈ gs, ∀ q ∈ g, CD D (2 ^ 4400) q)
    (h : Q (.lst ((List.range n).map fun j => rt (begF M gs j)))) : p_begun_by [encHouse M, encParts gs] Q := by
  have hln := H.len
  have hgl := P.1
  have rng : ∀ m : Nat, m ≤ 1000 → Rng (m : Int) := fun m hm => by unfold Rng; omega
  obtain ⟨K, k0, k9, kd⟩ := K_of (b := 8) M.flatten (fun r hr => by
    obtain ⟨rs, h1, h2⟩ := List.mem_flatten.mp hr
    exact ⟨(H.row rs h1 r h2).pos, (H.row rs h1 r h2).sm⟩)
  have kd' : ∀ rs ∈ M, ∀ r ∈ rs, r.1.toNat ∣ K := fun rs h1 r h2 => kd r (List.mem_flatten.mpr ⟨rs, h1, h2⟩)
  have fl : ∀ {l : List (List Row)}, (∀ rs ∈ l, rs.length ≤ 3) → l.flatten.length ≤ 3 * l.length := fun {l} => by
    induction l with
    | nil => intro _; simp
    | cons x l ih =>
      intro h
      have h1 := ih fun y hy => h y (List.mem_cons_of_mem _ hy)
      have h2 := h x (List.mem_cons_self ..)
      rw [List.flatten_cons, List.length_append, List.length_cons]
      omega
  have K9 : K ≤ 2 ^ 96 := Nat.le_trans k9 (Nat.pow_le_pow_right (by decide) (by have := fl (l := M) fun rs hrs => (H.some_ rs hrs).2; omega))
  have DK0 : 0 < D * K := Nat.mul_pos D0 k0
  have DK9 : D * K < 2 ^ 4400 := by
    have h1 : D * K ≤ D * 2 ^ 96 := Nat.mul_le_mul_left _ K9
    have h2 : D * 2 ^ 96 < 2 ^ 3500 * 2 ^ 96 := Nat.mul_lt_mul_of_pos_right D9 (Nat.two_pow_pos _)
    rw [← Nat.pow_add] at h2
    exact Nat.lt_trans (Nat.lt_of_le_of_lt h1 h2) (Nat.pow_lt_pow_right (by decide) (by decide))
  have NK9 : 2 ^ 4400 * K ≤ 2 ^ 4496 := by
    rw [show 4496 = 4400 + 96 from rfl, Nat.pow_add]
    exact Nat.mul_le_mul_left _ K9
  have cz : ∀ g ∈ gs, ∀ q ∈ g, RSz q := fun g hg q hq => (hc g hg q hq).sz D0 (Nat.lt_trans D9 (Nat.pow_lt_pow_right (by decide) (by decide))) (Nat.pow_lt_pow_right (by decide) (by decide))
  -- what comes in
  have cm : ∀ j, j < n → ∀ q ∈ comeF M gs j, CD (D * K) (2 ^ 4400 * K) q := fun j hj q hq => by
    obtain ⟨z, hz, hq⟩ := List.mem_flatMap.mp hq
    unfold comeQ at hq
    obtain ⟨y, hy, rfl⟩ := List.mem_map.mp hq
    obtain ⟨e1, e2⟩ := List.of_mem_zip hz
    obtain ⟨e3, e4⟩ := List.of_mem_zip hy
    exact CD.pq (H.row _ e1 _ e3) hj (hc _ e2 _ e4) k0 (kd' _ e1 _ e3)
  have zl3 : ∀ q ∈ M.zip gs, q.1.length ≤ 3 := fun q hq => (H.some_ _ (List.of_mem_zip hq).1).2
  have cl : ∀ j, (comeF M gs j).length ≤ 12 := fun j => by
    have h1 := come_len H (l := M.zip gs) (j := j) zl3
    have h2 : (M.zip gs).length ≤ M.length := by rw [List.length_zip]; exact Nat.min_le_left _ _
    show ((M.zip gs).flatMap (comeQ j)).length ≤ 12
    omega
  have gl : ∀ j, (gs.getD j []).length ≤ 3 := fun j => by
    by_cases hj : j < gs.length
    · have e : gs[j]? = some gs[j] := List.getElem?_eq_getElem hj
      have hm : j < M.length := by omega
      have := P.2 j M[j] gs[j] (List.getElem?_eq_getElem hm) e
      rw [List.getD_eq_getElem?_getD, e]
      show gs[j].length ≤ 3
      rw [this]
      exact (H.some_ _ (List.getElem_mem hm)).2
    · rw [List.getD_eq_getElem?_getD, List.getElem?_eq_none (by omega)]
      decide
  have gm : ∀ j, ∀ q ∈ gs.getD j [], CD D (2 ^ 4400) q := fun j q hq => by
    by_cases hj : j < gs.length
    · have e : gs.getD j [] = gs[j] := by rw [List.getD_eq_getElem?_getD, List.getElem?_eq_getElem hj]; rfl
      rw [e] at hq
      exact hc _ (List.getElem_mem hj) q hq
    · rw [List.getD_eq_getElem?_getD, List.getElem?_eq_none (by omega)] at hq
      cases hq
  unfold p_begun_by t_begun_by
  walk_at "dh"
  refine ⟨by decide, ?_⟩
  rw [hln]
  refine ⟨rng n (by omega), ?_⟩
  rw [Int.toNat_natCast]
  refine for_range (fun i ρ => ∃ (o3 o4 o5 o6 o7 o8 : Option L3.S), ρ = [some (.sh (encHouse M)), some (.sh (encParts gs)), some (.ow ((List.range i).map fun j => rt (begF M gs j))), o3, o4, o5, o6, o7, o8])
    ⟨none, none, none, none, none, none, rfl⟩ ?_ ?_
  · rintro i ρ hi ⟨o3, o4, o5, o6, o7, o8, rfl⟩
    refine ⟨_, rfl, fun N hN => ?_⟩
    unfold encParts
    walk_at "dh"
    refine ⟨by decide, ?_⟩
    rw [zip_map]
    refine for_of (fun (l : List (List Row × List Rat)) ρ => ∃ (acc : List Rat) (o5 o6 o7 o8 : Option L3.S), ρ = [some (S.sh (encHouse M)), some (S.sh (L3.D.tup (List.map (fun g => L3.D.tup (List.map rt g)) gs))), some (S.ow (List.map (fun j => rt (begF M gs j)) (List.range i))), some (S.sh (L3.D.int ↑i)), some (.sh (.lst (acc.map rt))), o5, o6, o7, o8] ∧ acc ++ l.flatMap (comeQ i) = comeF M gs i ∧ ∀ q ∈ l, q ∈ M.zip gs)
      ⟨[], o5, o6, o7, o8, rfl, rfl, fun q hq => hq⟩ ?_ ?_
    · rintro ⟨rs, g⟩ l ρ ⟨acc, o5, o6, o7, o8, rfl, ea, hz⟩
      obtain ⟨e1, e2⟩ := List.of_mem_zip (hz _ (List.mem_cons_self ..))
      refine ⟨_, rfl, fun N' hN' => ?_⟩
      unfold encRsT
      walk_at "dh"
      rw [zip_map]
      have acl : acc.length + (comeQ i (rs, g)).length ≤ 12 := by
        have := cl i
        rw [← ea, List.flatMap_cons, List.length_append, List.length_append] at this
        omega
      have rl := (H.some_ _ e1).2
      refine lc_of (f := fun (z : Row × Rat) => rt (z.2 * pq z.1 i)) (fun z hz => ⟨_, rfl, fun Q h => ?_⟩) (by simp; exact line_ok (by omega)) ?_
      · obtain ⟨e3, e4⟩ := List.of_mem_zip hz
        have R := H.row _ e1 _ e3
        have tp := R.pos
        have ts := R.sm
        have tt : z.1.1 = ((z.1.1.toNat : Nat) : Int) := (Int.toNat_of_nonneg (by omega)).symm
        walk_at "dh"
        rw [encRow_1, gIx_t (by rw [R.len]; exact hi)]
        walk_at "dh"
        rw [encRow_0]
        walk_at "dh"
        refine ⟨line_ok (by decide), ?_⟩
        rw [tt]
        have zz := R.num (gi z.1.2 i) (List.mem_of_getElem? (gi_get (by rw [R.len]; exact hi)))
        refine product_ok (cz _ e2 _ e4) ⟨by omega, Nat.lt_of_lt_of_le zz.2.2 (Nat.pow_le_pow_right (by decide) (by decide)), Nat.lt_of_lt_of_le (show z.1.1.toNat < 2 ^ 8 by omega) (Nat.pow_le_pow_right (by decide) (by decide))⟩ ?_
        have ep : mkRat z.2.num z.2.den * mkRat (gi z.1.2 i) z.1.1.toNat = z.2 * pq z.1 i := by
          rw [Rat.mkRat_self]
          unfold pq
          rw [Rat.mkRat_eq_div]
          have : ((z.1.1.toNat : Nat) : Rat) = (z.1.1 : Rat) := by rw [← Rat.intCast_natCast, ← tt]
          rw [this]
        rw [ep]
        exact h
      rw [List.nil_append]
      walk_at "dh"
      have ec : (rs.zip g).map (fun (z : Row × Rat) => rt (z.2 * pq z.1 i)) = (comeQ i (rs, g)).map rt := by unfold comeQ; rw [List.map_map]; rfl
      rw [ec]
      refine ⟨by rw [List.length_map, List.length_map]; exact line_ok (by omega), ?_⟩
      refine hN' _ ⟨acc ++ comeQ i (rs, g), _, _, _, _, by rw [List.map_append], by rw [List.append_assoc, ← List.flatMap_cons]; exact ea, fun q hq => hz q (List.mem_cons_of_mem _ hq)⟩
    · rintro ρ ⟨acc, o5, o6, o7, o8, rfl, ea, _⟩
      rw [List.flatMap_nil, List.append_nil] at ea
      subst ea
      have hig : gs[i]? = some (gs.getD i []) := by
        rw [List.getD_eq_getElem?_getD, List.getElem?_eq_getElem (by omega)]; rfl
      walk_at "dh"
      rw [gIx_at (.inr rfl) (d := .tup ((gs.getD i []).map rt)) (by rw [List.getElem?_map, hig]; rfl)]
      walk_at "dh"
      refine total_ok (.inl rfl) (CD.sumSz (D := D) (M := 2 ^ 4400) D0 (Nat.lt_trans D9 (Nat.pow_lt_pow_right (by decide) (by decide))) (A := 0) CD.zero (gm i) ?_) ?_
      · rw [Nat.zero_add]
        exact Nat.lt_of_le_of_lt (Nat.mul_le_mul_right _ (Nat.le_trans (gl i) (show 3 ≤ 2 ^ 2 by decide))) (by rw [← Nat.pow_add]; exact Nat.pow_lt_pow_right (by decide) (by decide))
      walk_at "dh"
      have b2 : 12 * (2 ^ 4400 * K) < 2 ^ 30000 := by
        refine Nat.lt_of_le_of_lt (Nat.mul_le_mul (show 12 ≤ 2 ^ 4 by decide) NK9) ?_
        rw [← Nat.pow_add]
        exact Nat.pow_lt_pow_right (by decide) (by decide)
      have b3 : (comeF M gs i).length * (2 ^ 4400 * K) < 2 ^ 30000 := Nat.lt_of_le_of_lt (Nat.mul_le_mul_right _ (cl i)) b2
      refine total_ok (.inl rfl) (CD.sumSz DK0 DK9 (A := 0) CD.zero (cm i hi) (by rw [Nat.zero_add]; exact Nat.lt_trans b3 (Nat.pow_lt_pow_right (by decide) (by decide)))) ?_
      walk_at "dh"
      refine rless_ok ((CD.sum D0 (gm i)).sz D0 (Nat.lt_trans D9 (Nat.pow_lt_pow_right (by decide) (by decide))) ?_) ((CD.sum DK0 (cm i hi)).sz DK0 DK9 (Nat.lt_trans b3 (Nat.pow_lt_pow_right (by decide) (by decide)))) ?_
      · exact Nat.lt_of_le_of_lt (Nat.mul_le_mul_right _ (Nat.le_trans (gl i) (show 3 ≤ 2 ^ 2 by decide))) (by rw [← Nat.pow_add]; exact Nat.pow_lt_pow_right (by decide) (by decide))
      walk_at "dh"
      refine ⟨?_, ?_⟩
      · simp
        exact Nat.lt_of_lt_of_le (Nat.lt_succ_self i) (line_ok (by omega))
      · have e3 : (List.range i).map (fun j => rt (begF M gs j)) ++ [rt (sumR (gs.getD i []) - sumR (comeF M gs i))] = (List.range (i + 1)).map fun j => rt (begF M gs j) := by
          rw [List.range_succ, List.map_append]
          rfl
        rw [e3]
        exact hN _ ⟨_, _, _, _, _, _, rfl⟩
  · rintro ρ ⟨o3, o4, o5, o6, o7, o8, rfl⟩
    walk_at "dh"
    exact h
end
end Wk
end
section
set_option Elab.async false
set_option linter.all false
set_option maxRecDepth 100000
set_option exponentiation.threshold 100
/-! D37: is_flow; the parts of a flow. -/
namespace Wk
open PySem PySem.Spec L3
local macro_rules | `(tactic| walk_at "dv") => `(tactic| simp only [q_dDef, q_sh0, List.map_cons, List.map_nil, List.cons_append, List.nil_append, q_dSq, q_dNext, q_dSet, q_dSetF, q_dSetO, q_dRet, q_dRetN, q_dIfS, q_dNever, q_dWhile, q_dFor, q_dPar, q_dAsg, q_dDrop,
  q_dFrz, q_dApp, q_dAppF, q_dPut, q_dPutF, q_dAttrN, q_dAttrFN, q_dFldN,
  List.getElem?_cons_zero, List.getElem?_cons_succ, List.set_cons_zero, List.set_cons_succ, q_setS0, q_setSc, q_setSs0, q_setSsc, q_setD0, q_setDc, q_wipe0, q_wipec,
  shOf_nil, shOf_c, shO_n, shO_s, shO_o, shO_i, alOf_nil, alOf_c, alO_n, alO_s, alO_o, alO_i, dVar_0, dVar_s, q_dC, q_dBin, q_dBinL, q_dTest, q_dChain, q_dNot, q_dNotV, q_dAnd, q_dAndV, q_dOr, q_dOrV, q_dIf, q_dNeg, q_dCall, q_dCallL, q_dCons, q_dNil, q_dStar, q_dLst, q_dTup, q_dLen, q_dxCons, q_dxNil, q_dxP, q_dxO, q_dYes,
  asInt_int, asBl_bl, asSeq_l, asSeq_t, asLst_l, asTup_t, asObj_o, arg1_, arg2_, arg3_, q_gDef, q_gMake, q_gI0, q_gI, gEq_int, gNe_int, q_gLen, q_gAbs, q_gMax2, q_gMin2, q_gInt_i, q_gInt_b, q_gTuple, q_gList, gIx_0, gIx_1, gIx_0l, gIx_1l, q_gCatL, q_gRepL, q_gCatT, q_gRepT, isi_, isi_int_int, isi_bool_int, isi_tup_tup, isiT_, isiT_lst, isiT_tup, isC_, isCK_o, q_dSeqI, q_dEnumI, q_dZip2, q_dZip3, q_dRng1, q_dRng2, q_dLc, q_gIsB, q_gNotB, q_dSlL, q_dSlT, q_dNoP, q_dSoP,
  List.length_cons, List.length_nil, true_and, and_true, Bool.not_true, Bool.not_false, if_true, Bool.false_eq_true, if_false])
local macro_rules | `(tactic| walk_at "dh") => `(tactic| ((try simp only [fM_eq, fN_eq]); repeat (first | walk_at "dv" | simp only [q_dMv, q_dNv, fMoves_h, fMany_h, isCK_h, asSeq_rT])))
local macro_rules | `(tactic| walk_at "dd") => `(tactic| repeat (first | walk_at "dv" | simp only [q_dDrN, q_dDrC, q_dPop, q_dDput, q_dScrI, q_dLenS]))
open Mx (S Sub)
theorem gEq_lvec {ps qs : List Rat} {Q : DK} : gEq (.lst (ps.map rt)) (.lst (qs.map rt)) Q = Q (.bl (decide (ps = qs))) := by
  have e : ∀ zs : List Rat, py (.lst (zs.map rt)) = some (.list (zs.map pyR)) := fun zs => by unfold py; rw [pys_rt]; rfl
  have ee : PyData.eqv (.list (ps.map pyR)) (.list (qs.map pyR)) = decide (ps = qs) := by rw [PyData.eqv.eq_def]; exact eqvAll_rt ps qs
  unfold gEq
  refine Qiff ⟨?_, fun h => ⟨_, _, e ps, e qs, shaped_rts ps, shaped_rts qs, by rw [ee]; exact h⟩⟩
  rintro ⟨p, q, h1, h2, _, _, h⟩
  rw [e] at h1 h2
  cases h1
  cases h2
  rw [ee] at h
  exact h
section
variable {n : Nat} {M : List (List Row)} {gs : List (List Rat)} {T : Int} {ss : List Int} {Q : DK}
theorem is_flow_ok (H : HouseOk n 8 M) (hn4 : n ≤ 4) (Z : ShareOk n T ss) (P : PartsOk M gs) {D : Nat} (D0 : 0 < D) (D9 : D < 2 ^ 3500) (hc : ∀ g ∈ gs, ∀ q ∈ g, CD D (2 ^ 4400) q) (h0 : ∀ g ∈ gs, ∀ q ∈ g, 0 ≤ q)
    (hb : ∀ j, j < n → begF M gs j = (gi ss j : Rat) / (T : Rat)) (h : Q (.bl true)) : p_is_flow [encHouse M, encR T ss, encParts gs] Q := by
  have tp := Z.pos
  have ts := Z.sm
  unfold p_is_flow t_is_flow
  walk_at "dh"
  refine need_house_ok ?_
  try walk_at "dh"
  refine need_share_ok (by rw [Z.len, H.len]) (by rw [Z.len]; omega) Z.nn (by have := Z.pos; omega) Z.gcd Z.sum ?_
  try walk_at "dh"
  refine need_leaky_ok H ?_
  try walk_at "dh"
  refine are_counts_ok H P h0 ?_
  try walk_at "dh"
  refine begun_ok H hn4 P D0 D9 hc ?_
  unfold encR
  walk_at "dh"
  rw [show dis ss = ss.map L3.D.int from rfl]
  refine lc_of (f := fun z => rt (mkRat z T.toNat)) (fun z hz => ⟨_, rfl, fun Q h => ?_⟩) (by rw [Z.len]; simp; exact line_ok (by omega)) ?_
  · walk_at "dh"
    rw [show T = ((T.toNat : Nat) : Int) by omega]
    exact ratio_ok (by omega) (Nat.lt_of_lt_of_le (show T.toNat < 2 ^ 8 by omega) (Nat.pow_le_pow_right (by decide) (by decide))) h
  rw [List.nil_append]
  have e1 : (List.range n).map (fun j => rt (begF M gs j)) = ((List.range n).map fun j => (gi ss j : Rat) / (T : Rat)).map rt := by
    rw [List.map_map]
    refine List.map_congr_left fun j hj => ?_
    rw [hb j (by simpa using hj)]
    rfl
  have e2 : ss.map (fun z => rt (mkRat z T.toNat)) = ((List.range n).map fun j => (gi ss j : Rat) / (T : Rat)).map rt := by
    conv => lhs; rw [← range_gi (l := ss), List.map_map, Z.len]
    rw [List.map_map]
    refine List.map_congr_left fun j hj => ?_
    show rt (mkRat (gi ss j) T.toNat) = rt _
    rw [Rat.mkRat_eq_div]
    have : ((T.toNat : Nat) : Rat) = (T : Rat) := by rw [← Rat.intCast_natCast, Int.toNat_of_nonneg (by omega)]
    rw [this]
  rw [e1, e2, gEq_lvec, decide_eq_true rfl]
  exact h
end
end Wk
end
section
set_option Elab.async false
set_option linter.all false
set_option maxRecDepth 100000
set_option exponentiation.threshold 100
/-! D38: the parts of a flow. -/
namespace Wk
open PySem PySem.Spec L3
local macro_rules | `(tactic| walk_at "dv") => `(tactic| simp only [q_dDef, q_sh0, List.map_cons, List.map_nil, List.cons_append, List.nil_append, q_dSq, q_dNext, q_dSet, q_dSetF, q_dSetO, q_dRet, q_dRetN, q_dIfS, q_dNever, q_dWhile, q_dFor, q_dPar, q_dAsg, q_dDrop,
  q_dFrz, q_dApp, q_dAppF, q_dPut, q_dPutF, q_dAttrN, q_dAttrFN, q_dFldN,
  List.getElem?_cons_zero, List.getElem?_cons_succ, List.set_cons_zero, List.set_cons_succ, q_setS0, q_setSc, q_setSs0, q_setSsc, q_setD0, q_setDc, q_wipe0, q_wipec,
  shOf_nil, shOf_c, shO_n, shO_s, shO_o, shO_i, alOf_nil, alOf_c, alO_n, alO_s, alO_o, alO_i, dVar_0, dVar_s, q_dC, q_dBin, q_dBinL, q_dTest, q_dChain, q_dNot, q_dNotV, q_dAnd, q_dAndV, q_dOr, q_dOrV, q_dIf, q_dNeg, q_dCall, q_dCallL, q_dCons, q_dNil, q_dStar, q_dLst, q_dTup, q_dLen, q_dxCons, q_dxNil, q_dxP, q_dxO, q_dYes,
  asInt_int, asBl_bl, asSeq_l, asSeq_t, asLst_l, asTup_t, asObj_o, arg1_, arg2_, arg3_, q_gDef, q_gMake, q_gI0, q_gI, gEq_int, gNe_int, q_gLen, q_gAbs, q_gMax2, q_gMin2, q_gInt_i, q_gInt_b, q_gTuple, q_gList, gIx_0, gIx_1, gIx_0l, gIx_1l, q_gCatL, q_gRepL, q_gCatT, q_gRepT, isi_, isi_int_int, isi_bool_int, isi_tup_tup, isiT_, isiT_lst, isiT_tup, isC_, isCK_o, q_dSeqI, q_dEnumI, q_dZip2, q_dZip3, q_dRng1, q_dRng2, q_dLc, q_gIsB, q_gNotB, q_dSlL, q_dSlT, q_dNoP, q_dSoP,
  List.length_cons, List.length_nil, true_and, and_true, Bool.not_true, Bool.not_false, if_true, Bool.false_eq_true, if_false])
local macro_rules | `(tactic| walk_at "dh") => `(tactic| ((try simp only [fM_eq, fN_eq]); repeat (first | walk_at "dv" | simp only [q_dMv, q_dNv, fMoves_h, fMany_h, isCK_h, asSeq_rT])))
local macro_rules | `(tactic| walk_at "dd") => `(tactic| repeat (first | walk_at "dv" | simp only [q_dDrN, q_dDrC, q_dPop, q_dDput, q_dScrI, q_dLenS]))
open Mx (S Sub)
theorem zip_rng {β : Type} {f : Nat → β} {rs : List Row} : rs.zip ((List.range rs.length).map f) = (List.range rs.length).map fun k => (rowAt rs k, f k) := by
  apply List.ext_getElem?
  intro i
  rw [List.getElem?_map]
  by_cases h : i < rs.length
  · have e : rowAt rs i = rs[i] := by unfold rowAt; rw [List.getD_eq_getElem?_getD, List.getElem?_eq_getElem h]; rfl
    have e2 : (rs.zip ((List.range rs.length).map f))[i]? = some (rs[i], f i) := by
      rw [List.getElem?_zip_eq_some]
      exact ⟨List.getElem?_eq_getElem h, by rw [List.getElem?_map, List.getElem?_range h]; rfl⟩
    rw [List.getElem?_range h, e2, ← e]
    rfl
  · rw [List.getElem?_eq_none (by simpa using h), List.getElem?_eq_none (by simpa using h)]
    rfl
theorem list_rng {α : Type} {a : α} {l : List α} {n : Nat} (h : l.length = n) : l = (List.range n).map fun i => l.getD i a := by
  apply List.ext_getElem?
  intro i
  rw [List.getElem?_map]
  by_cases hi : i < n
  · rw [List.getElem?_range hi, List.getElem?_eq_getElem (by omega)]
    show _ = some (l.getD i a)
    rw [List.getD_eq_getElem?_getD, List.getElem?_eq_getElem (by omega)]
    rfl
  · rw [List.getElem?_eq_none (by omega), List.getElem?_eq_none (by simpa using hi)]
    rfl
theorem zip_mm {α β γ : Type} {f : α → β} {g : α → γ} {l : List α} : (l.map f).zip (l.map g) = l.map fun x => (f x, g x) := by
  induction l with
  | nil => rfl
  | cons x l ih => simp [ih]
theorem sumR_append {a b : List Rat} : sumR (a ++ b) = sumR a + sumR b := by
  induction a with
  | nil => rw [List.nil_append, sumR_nil, Rat.zero_add]
  | cons x a ih => rw [List.cons_append, sumR_cons, sumR_cons, ih, Rat.add_assoc]
theorem sumR_flat {α : Type} {f : α → List Rat} {l : List α} : sumR (l.flatMap f) = sumR (l.map fun x => sumR (f x)) := by
  induction l with
  | nil => rfl
  | cons x l ih => rw [List.flatMap_cons, sumR_append, List.map_cons, sumR_cons, ih]
/-- one place's part -/
def rowP (m k : Nat) (x : Rat) : List Rat := (List.range m).map fun i => if i = k then x else 0
theorem rowP_sum {m k : Nat} {x : Rat} (h : k < m) : sumR (rowP m k x) = x := by
  unfold rowP
  rw [sumR_S, Mx.S_one h fun i _ hne => by rw [if_neg hne], if_pos rfl]
theorem flowP_eq {n : Nat} {M : List (List Row)} {plan : List Nat} {F : Nat → Rat} : flowP n M plan F = (List.range n).map fun i => rowP (M.getD i []).length (plan.getD i 0) (F i) := rfl
theorem come_rowP {rs : List Row} {k j : Nat} {x : Rat} (h : k < rs.length) : sumR (comeQ j (rs, rowP rs.length k x)) = x * pq (rowAt rs k) j := by
  unfold comeQ rowP
  rw [zip_rng, List.map_map]
  show sumR ((List.range rs.length).map fun i => (if i = k then x else 0) * pq (rowAt rs i) j) = _
  rw [sumR_S, Mx.S_one h fun i _ hne => by rw [if_neg hne, Rat.zero_mul], if_pos rfl]
section
variable {n : Nat} {M : List (List Row)} {plan : List Nat} {F : Nat → Rat}
theorem plan_at (H : HouseOk n 8 M) (P : PlanOk M plan) {i : Nat} (hi : i < n) : plan.getD i 0 < (M.getD i []).length ∧ rowAt (rowsF M plan) i = rowAt (M.getD i []) (plan.getD i 0) := by
  have h1 : i < M.length := by rw [H.len]; exact hi
  have h2 : i < plan.length := by rw [P.1]; exact h1
  have e1 : M[i]? = some M[i] := List.getElem?_eq_getElem h1
  have e2 : plan[i]? = some plan[i] := List.getElem?_eq_getElem h2
  have hk := P.2 i _ _ e1 e2
  have ea : M.getD i [] = M[i] := by rw [List.getD_eq_getElem?_getD, e1]; rfl
  have eb : plan.getD i 0 = plan[i] := by rw [List.getD_eq_getElem?_getD, e2]; rfl
  rw [ea, eb]
  refine ⟨hk, ?_⟩
  have e3 : (rowsF M plan)[i]? = some (M[i].getD plan[i] (0, [])) := by
    have e : (M.zip plan)[i]? = some (M[i], plan[i]) := by rw [List.getElem?_zip_eq_some]; exact ⟨e1, e2⟩
    unfold rowsF
    rw [List.getElem?_map, e]
    rfl
  have e4 : M[i].getD plan[i] (0, []) = M[i][plan[i]] := by rw [List.getD_eq_getElem?_getD, List.getElem?_eq_getElem hk]; rfl
  have e5 : M[i].getD plan[i] (1, []) = M[i][plan[i]] := by rw [List.getD_eq_getElem?_getD, List.getElem?_eq_getElem hk]; rfl
  show (rowsF M plan).getD i (1, []) = M[i].getD plan[i] (1, [])
  rw [List.getD_eq_getElem?_getD, e3, e5, e4]
  rfl
theorem flowP_parts (H : HouseOk n 8 M) : PartsOk M (flowP n M plan F) := by
  refine ⟨by rw [flowP_eq, List.length_map, List.length_range, H.len], fun i rs g h1 h2 => ?_⟩
  rw [flowP_eq, List.getElem?_map] at h2
  obtain ⟨k, h3, rfl⟩ := Option.map_eq_some_iff.mp h2
  have hk : i < n := by rw [← H.len]; exact (List.getElem?_eq_some_iff.mp h1).1
  rw [List.getElem?_range hk] at h3
  cases h3
  unfold rowP
  rw [List.length_map, List.length_range, List.getD_eq_getElem?_getD, h1]
  rfl
theorem flowP_mem {g : List Rat} {q : Rat} (hg : g ∈ flowP n M plan F) (hq : q ∈ g) : q = 0 ∨ ∃ i, i < n ∧ q = F i := by
  rw [flowP_eq] at hg
  obtain ⟨i, hi, rfl⟩ := List.mem_map.mp hg
  unfold rowP at hq
  obtain ⟨k, hk, rfl⟩ := List.mem_map.mp hq
  by_cases e : k = plan.getD i 0
  · exact .inr ⟨i, by simpa using hi, by rw [if_pos e]⟩
  · exact .inl (by rw [if_neg e])
theorem flowP_beg (H : HouseOk n 8 M) (P : PlanOk M plan) {j : Nat} (hj : j < n) : begF M (flowP n M plan F) j = F j - S n fun i => pq (rowAt (rowsF M plan) i) j * F i := by
  unfold begF
  congr 1
  · rw [flowP_eq, List.getD_eq_getElem?_getD, List.getElem?_map, List.getElem?_range hj]
    exact rowP_sum (plan_at H P hj).1
  · unfold comeF
    have e : M.zip (flowP n M plan F) = (List.range n).map fun i => (M.getD i [], rowP (M.getD i []).length (plan.getD i 0) (F i)) := by
      have := zip_mm (f := fun i => M.getD i []) (g := fun i => rowP (M.getD i []).length (plan.getD i 0) (F i)) (l := List.range n)
      rw [← list_rng (a := []) H.len] at this
      exact this
    rw [e, sumR_flat, List.map_map]
    · show sumR ((List.range n).map fun i => sumR (comeQ j (M.getD i [], rowP (M.getD i []).length (plan.getD i 0) (F i)))) = _
      rw [sumR_S]
      refine Mx.S_congr fun i hi => ?_
      rw [come_rowP (plan_at H P hi).1, (plan_at H P hi).2, Rat.mul_comm]
theorem is_flow_P {T : Int} {ss : List Int} {Q : DK} (H : HouseOk n 8 M) (hn4 : n ≤ 4) (P : PlanOk M plan) (Z : ShareOk n T ss) (hF : Flw n (rowsF M plan) (fun j => (gi ss j : Rat) / (T : Rat)) F) (hV : Vz n F) (h : Q (.bl true)) : p_is_flow [encHouse M, encR T ss, encParts (flowP n M plan F)] Q := by
  obtain ⟨r1, r2⟩ := rowsF_ok H P
  obtain ⟨D, D0, D9, hc⟩ := hV
  have tq : (0 : Rat) < (T : Rat) := by exact_mod_cast Z.pos
  have nn : ∀ k, k < n → 0 ≤ F k := hF.nn H.n1 hn4 r1 r2 fun j hj => by
    have h1 := Z.nn (gi ss j) (List.mem_of_getElem? (gi_get (by rw [Z.len]; exact hj)))
    rw [Rat.div_def]
    exact Rat.mul_nonneg (by exact_mod_cast h1) (Rat.le_of_lt (Rat.inv_pos.mpr tq))
  refine is_flow_ok H hn4 Z (flowP_parts H) D0 D9 (fun g hg q hq => ?_) (fun g hg q hq => ?_) (fun j hj => ?_) h
  · rcases flowP_mem hg hq with rfl | ⟨i, hi, rfl⟩
    · exact CD.zero
    · exact hc i hi
  · rcases flowP_mem hg hq with rfl | ⟨i, hi, rfl⟩
    · exact Rat.le_refl
    · exact nn i hi
  · rw [flowP_beg H P hj]
    exact hF j hj
end
end Wk
end
section
set_option Elab.async false
set_option linter.all false
set_option maxRecDepth 100000
set_option exponentiation.threshold 100
/-! D39: the slowed flow. -/
namespace Wk
open PySem PySem.Spec L3
local macro_rules | `(tactic| walk_at "dv") => `(tactic| simp only [q_dDef, q_sh0, List.map_cons, List.map_nil, List.cons_append, List.nil_append, q_dSq, q_dNext, q_dSet, q_dSetF, q_dSetO, q_dRet, q_dRetN, q_dIfS, q_dNever, q_dWhile, q_dFor, q_dPar, q_dAsg, q_dDrop,
  q_dFrz, q_dApp, q_dAppF, q_dPut, q_dPutF, q_dAttrN, q_dAttrFN, q_dFldN,
  List.getElem?_cons_zero, List.getElem?_cons_succ, List.set_cons_zero, List.set_cons_succ, q_setS0, q_setSc, q_setSs0, q_setSsc, q_setD0, q_setDc, q_wipe0, q_wipec,
  shOf_nil, shOf_c, shO_n, shO_s, shO_o, shO_i, alOf_nil, alOf_c, alO_n, alO_s, alO_o, alO_i, dVar_0, dVar_s, q_dC, q_dBin, q_dBinL, q_dTest, q_dChain, q_dNot, q_dNotV, q_dAnd, q_dAndV, q_dOr, q_dOrV, q_dIf, q_dNeg, q_dCall, q_dCallL, q_dCons, q_dNil, q_dStar, q_dLst, q_dTup, q_dLen, q_dxCons, q_dxNil, q_dxP, q_dxO, q_dYes,
  asInt_int, asBl_bl, asSeq_l, asSeq_t, asLst_l, asTup_t, asObj_o, arg1_, arg2_, arg3_, q_gDef, q_gMake, q_gI0, q_gI, gEq_int, gNe_int, q_gLen, q_gAbs, q_gMax2, q_gMin2, q_gInt_i, q_gInt_b, q_gTuple, q_gList, gIx_0, gIx_1, gIx_0l, gIx_1l, q_gCatL, q_gRepL, q_gCatT, q_gRepT, isi_, isi_int_int, isi_bool_int, isi_tup_tup, isiT_, isiT_lst, isiT_tup, isC_, isCK_o, q_dSeqI, q_dEnumI, q_dZip2, q_dZip3, q_dRng1, q_dRng2, q_dLc, q_gIsB, q_gNotB, q_dSlL, q_dSlT, q_dNoP, q_dSoP,
  List.length_cons, List.length_nil, true_and, and_true, Bool.not_true, Bool.not_false, if_true, Bool.false_eq_true, if_false])
local macro_rules | `(tactic| walk_at "dh") => `(tactic| ((try simp only [fM_eq, fN_eq]); repeat (first | walk_at "dv" | simp only [q_dMv, q_dNv, fMoves_h, fMany_h, isCK_h, asSeq_rT])))
local macro_rules | `(tactic| walk_at "dd") => `(tactic| repeat (first | walk_at "dv" | simp only [q_dDrN, q_dDrC, q_dPop, q_dDput, q_dScrI, q_dLenS]))
open Mx (S Sub)
theorem longer_eq {p : Int × Int} (h : StayOk p) : longer p * (1 - (p.1 : Rat) / (p.2 : Rat)) = 1 := by
  obtain ⟨s0, s1, s2⟩ := h
  have dq : (p.2 : Rat) ≠ 0 := by
    have : (0 : Rat) < (p.2 : Rat) := by exact_mod_cast (show (0 : Int) < p.2 by omega)
    grind
  have nq : (p.2 : Rat) - (p.1 : Rat) ≠ 0 := by
    have : (p.1 : Rat) < (p.2 : Rat) := by exact_mod_cast s1
    grind
  unfold longer
  have : (((p.2 - p.1).toNat : Nat) : Rat) = (p.2 : Rat) - (p.1 : Rat) := by
    rw [← Rat.intCast_natCast, Int.toNat_of_nonneg (by omega), Rat.intCast_sub]
  rw [Rat.mkRat_eq_div, this]
  grind
section
variable {n : Nat} {M0 : List (List Row)} {st : List (Int × Int)} {gs : List (List Rat)} {plan : List Nat}
theorem getD_of {α : Type} {l : List α} {i : Nat} {a x : α} (h : l[i]? = some x) : l.getD i a = x := by rw [List.getD_eq_getElem?_getD, h]; rfl
theorem Drawn.planL (Y : Drawn n M0 st gs) (P : PlanOk (houseM M0) plan) : PlanOk (lateM M0 st) plan := by
  refine ⟨by rw [P.1, Y.late.h.len, Y.house.h.len], fun i rs' k h1 h2 => ?_⟩
  obtain ⟨rs, p, a, b, rfl⟩ := Y.slow_at h1
  have eh : (houseM M0)[i]? = some (rs.map lp) := by unfold houseM; rw [List.getElem?_map, a]; rfl
  have := P.2 i _ k eh h2
  rw [List.length_map] at this ⊢
  exact this
theorem Drawn.row_at (Y : Drawn n M0 st gs) (P : PlanOk (houseM M0) plan) {i : Nat} (hi : i < n) : ∃ rs r p, rs ∈ M0 ∧ r ∈ rs ∧ st[i]? = some p ∧ StayOk p ∧ rowAt (rowsF (houseM M0) plan) i = lp r ∧ rowAt (rowsF (lateM M0 st) plan) i = lp (slowRow r p i) := by
  have h1 : i < M0.length := by rw [Y.h.len]; exact hi
  obtain ⟨rs', h2⟩ : ∃ rs', (lateM M0 st)[i]? = some rs' := ⟨_, List.getElem?_eq_getElem (by rw [Y.late.h.len]; exact hi)⟩
  obtain ⟨rs, p, a, b, rfl⟩ := Y.slow_at h2
  have eh : (houseM M0)[i]? = some (rs.map lp) := by unfold houseM; rw [List.getElem?_map, a]; rfl
  obtain ⟨k1, k2⟩ := plan_at Y.house.h P hi
  rw [getD_of eh] at k1 k2
  obtain ⟨l1, l2⟩ := plan_at Y.late.h (Y.planL P) hi
  rw [getD_of h2] at l1 l2
  obtain ⟨k, hk⟩ : ∃ k, k = plan.getD i 0 := ⟨_, rfl⟩
  rw [← hk] at k1 k2 l1 l2
  have k3 : k < rs.length := by simpa using k1
  have hm := List.mem_of_getElem? a
  refine ⟨rs, rs[k], p, hm, List.getElem_mem k3, b, Y.st p (List.mem_of_getElem? b), ?_, ?_⟩
  · rw [k2]
    unfold rowAt
    exact getD_of (by rw [List.getElem?_map, List.getElem?_eq_getElem k3]; rfl)
  · rw [l2]
    unfold rowAt
    exact getD_of (by rw [List.getElem?_map, List.getElem?_eq_getElem k3]; rfl)
/-- the slowed flow is the flow times longer -/
theorem Drawn.flow (Y : Drawn n M0 st gs) (P : PlanOk (houseM M0) plan) {s F F' : Nat → Rat} (hF : Flw n (rowsF (houseM M0) plan) s F) (hF' : Flw n (rowsF (lateM M0 st) plan) s F') : ∀ i, i < n → F' i = F i * longer (st.getD i (0, 1)) := by
  obtain ⟨r1, r2⟩ := rowsF_ok Y.late.h (Y.planL P)
  refine Flw.uniq Y.h.n1 Y.n4 r1 r2 hF' fun j hj => ?_
  have e : S n (fun i => pq (rowAt (rowsF (lateM M0 st) plan) i) j * (F i * longer (st.getD i (0, 1)))) = S n fun i => pq (rowAt (rowsF (houseM M0) plan) i) j * F i + (if j = i then F j * longer (st.getD j (0, 1)) - F j else 0) := Mx.S_congr fun i hi => by
    obtain ⟨rs, r, p, hm, hr, hp, so, e1, e2⟩ := Y.row_at P hi
    obtain ⟨R', hq⟩ := slow_row (Y.h.row rs hm r hr) (Y.t rs hm r hr) so hi
    rw [e1, e2, pq_lp R', pq_lp (Y.h.row rs hm r hr), hq j hj, getD_of hp]
    have le := longer_eq so
    by_cases e : j = i
    · subst e
      rw [if_pos rfl, if_pos rfl, getD_of hp]
      grind
    · rw [if_neg e, if_neg e]
      grind
  have e1 : S n (fun i => if j = i then F j * longer (st.getD j (0, 1)) - F j else 0) = F j * longer (st.getD j (0, 1)) - F j := by
    rw [Mx.S_one (k := j) hj fun i _ hne => by rw [if_neg (Ne.symm hne)], if_pos rfl]
  rw [e, Mx.S_add, e1]
  have := hF j hj
  grind
end
end Wk
end
section
set_option Elab.async false
set_option linter.all false
set_option maxRecDepth 100000
set_option exponentiation.threshold 100
/-! D40: a thing compared with itself; scaled parts. -/
namespace Wk
open PySem PySem.Spec L3
local macro_rules | `(tactic| walk_at "dv") => `(tactic| simp only [q_dDef, q_sh0, List.map_cons, List.map_nil, List.cons_append, List.nil_append, q_dSq, q_dNext, q_dSet, q_dSetF, q_dSetO, q_dRet, q_dRetN, q_dIfS, q_dNever, q_dWhile, q_dFor, q_dPar, q_dAsg, q_dDrop,
  q_dFrz, q_dApp, q_dAppF, q_dPut, q_dPutF, q_dAttrN, q_dAttrFN, q_dFldN,
  List.getElem?_cons_zero, List.getElem?_cons_succ, List.set_cons_zero, List.set_cons_succ, q_setS0, q_setSc, q_setSs0, q_setSsc, q_setD0, q_setDc, q_wipe0, q_wipec,
  shOf_nil, shOf_c, shO_n, shO_s, shO_o, shO_i, alOf_nil, alOf_c, alO_n, alO_s, alO_o, alO_i, dVar_0, dVar_s, q_dC, q_dBin, q_dBinL, q_dTest, q_dChain, q_dNot, q_dNotV, q_dAnd, q_dAndV, q_dOr, q_dOrV, q_dIf, q_dNeg, q_dCall, q_dCallL, q_dCons, q_dNil, q_dStar, q_dLst, q_dTup, q_dLen, q_dxCons, q_dxNil, q_dxP, q_dxO, q_dYes,
  asInt_int, asBl_bl, asSeq_l, asSeq_t, asLst_l, asTup_t, asObj_o, arg1_, arg2_, arg3_, q_gDef, q_gMake, q_gI0, q_gI, gEq_int, gNe_int, q_gLen, q_gAbs, q_gMax2, q_gMin2, q_gInt_i, q_gInt_b, q_gTuple, q_gList, gIx_0, gIx_1, gIx_0l, gIx_1l, q_gCatL, q_gRepL, q_gCatT, q_gRepT, isi_, isi_int_int, isi_bool_int, isi_tup_tup, isiT_, isiT_lst, isiT_tup, isC_, isCK_o, q_dSeqI, q_dEnumI, q_dZip2, q_dZip3, q_dRng1, q_dRng2, q_dLc, q_gIsB, q_gNotB, q_dSlL, q_dSlT, q_dNoP, q_dSoP,
  List.length_cons, List.length_nil, true_and, and_true, Bool.not_true, Bool.not_false, if_true, Bool.false_eq_true, if_false])
local macro_rules | `(tactic| walk_at "dh") => `(tactic| ((try simp only [fM_eq, fN_eq]); repeat (first | walk_at "dv" | simp only [q_dMv, q_dNv, fMoves_h, fMany_h, isCK_h, asSeq_rT])))
local macro_rules | `(tactic| walk_at "dd") => `(tactic| repeat (first | walk_at "dv" | simp only [q_dDrN, q_dDrC, q_dPop, q_dDput, q_dScrI, q_dLenS]))
open Mx (S Sub)
/-- comparable, of depth at most k -/
def Cp (k : Nat) (d : L3.D) : Prop := ∃ p, py d = some p ∧ p.canLay0 = true ∧ p.depth ≤ k ∧ PyData.eqv p p = true
theorem Cp.int {k : Nat} {i : Int} : Cp k (.int i) := ⟨.int i, rfl, by rw [PyData.canLay0.eq_def], by rw [PyData.depth.eq_def]; exact Nat.zero_le _, by rw [PyData.eqv.eq_def]; simp⟩
theorem Cp.all {k : Nat} : ∀ {ds : List L3.D}, (∀ d ∈ ds, Cp k d) → ∃ ps, pys ds = some ps ∧ PyData.canLayAll0 ps = true ∧ PyData.depthAll ps ≤ k ∧ PyData.eqvAll ps ps = true
  | [], _ => ⟨[], rfl, by rw [PyData.canLayAll0.eq_def], by rw [PyData.depthAll.eq_def]; exact Nat.zero_le _, by rw [PyData.eqvAll.eq_def]⟩
  | d :: ds, h => by
    obtain ⟨p, e1, e2, e3, e4⟩ := h d (List.mem_cons_self ..)
    obtain ⟨ps, f1, f2, f3, f4⟩ := Cp.all fun x hx => h x (List.mem_cons_of_mem _ hx)
    refine ⟨p :: ps, by unfold pys; rw [e1, f1]; rfl, ?_, ?_, ?_⟩
    · rw [PyData.canLayAll0.eq_def]; dsimp only; rw [e2, f2]; rfl
    · rw [PyData.depthAll.eq_def]; dsimp only; omega
    · rw [PyData.eqvAll.eq_def]; dsimp only; rw [e4, f4]; rfl
theorem Cp.tup {k : Nat} {ds : List L3.D} (h : ∀ d ∈ ds, Cp k d) : Cp (k + 1) (.tup ds) := by
  obtain ⟨ps, f1, f2, f3, f4⟩ := Cp.all h
  refine ⟨.tuple ps, by unfold py; rw [f1]; rfl, ?_, ?_, ?_⟩
  · rw [PyData.canLay0.eq_def]; exact f2
  · rw [PyData.depth.eq_def]; dsimp only; omega
  · rw [PyData.eqv.eq_def]; exact f4
theorem Cp.lst {k : Nat} {ds : List L3.D} (h : ∀ d ∈ ds, Cp k d) : Cp (k + 1) (.lst ds) := by
  obtain ⟨ps, f1, f2, f3, f4⟩ := Cp.all h
  refine ⟨.list ps, by unfold py; rw [f1]; rfl, ?_, ?_, ?_⟩
  · rw [PyData.canLay0.eq_def]; exact f2
  · rw [PyData.depth.eq_def]; dsimp only; omega
  · rw [PyData.eqv.eq_def]; exact f4
theorem Cp.mono {k l : Nat} {d : L3.D} (h : Cp k d) (hk : k ≤ l) : Cp l d := let ⟨p, a, b, c, e⟩ := h; ⟨p, a, b, by omega, e⟩
theorem gNe_self {k : Nat} {d : L3.D} {Q : DK} (h : Cp k d) (hk : k ≤ 64) (q : Q (.bl false)) : gNe d d Q := by
  obtain ⟨p, a, b, c, e⟩ := h
  have s : SeqAt.shaped p = true := by unfold SeqAt.shaped; rw [b]; simp; omega
  exact ⟨p, p, a, a, s, s, by rw [e]; exact q⟩
theorem gEq_self {k : Nat} {d : L3.D} {Q : DK} (h : Cp k d) (hk : k ≤ 64) (q : Q (.bl true)) : gEq d d Q := by
  obtain ⟨p, a, b, c, e⟩ := h
  have s : SeqAt.shaped p = true := by unfold SeqAt.shaped; rw [b]; simp; omega
  exact ⟨p, p, a, a, s, s, by rw [e]; exact q⟩
theorem cp_rt {q : Rat} : Cp 1 (rt q) := Cp.tup fun d hd => by
  simp at hd
  rcases hd with rfl | rfl
  · exact Cp.int
  · exact Cp.int
theorem cp_vec {n : Nat} {V : Nat → Rat} : Cp 2 (vecD n V) := Cp.tup fun d hd => by
  obtain ⟨j, _, rfl⟩ := List.mem_map.mp hd
  exact cp_rt
theorem cp_rts {qs : List Rat} : Cp 2 (.tup (qs.map rt)) := Cp.tup fun d hd => by
  obtain ⟨j, _, rfl⟩ := List.mem_map.mp hd
  exact cp_rt
theorem cp_plan {plan : List Nat} : Cp 1 (encPlan plan) := Cp.tup fun d hd => by
  obtain ⟨j, _, rfl⟩ := List.mem_map.mp hd
  exact Cp.int
theorem cp_parts {gs : List (List Rat)} : Cp 3 (encParts gs) := Cp.tup fun d hd => by
  obtain ⟨j, _, rfl⟩ := List.mem_map.mp hd
  exact cp_rts
def scaleP (gs : List (List Rat)) (ls : List Rat) : List (List Rat) := (gs.zip ls).map fun q => q.1.map fun x => x * q.2
theorem rowP_scale {m k : Nat} {x y : Rat} : (rowP m k x).map (fun z => z * y) = rowP m k (x * y) := by
  unfold rowP
  rw [List.map_map]
  refine List.map_congr_left fun i _ => ?_
  show (if i = k then x else 0) * y = _
  by_cases e : i = k
  · rw [if_pos e, if_pos e]
  · rw [if_neg e, if_neg e, Rat.zero_mul]
section
variable {n : Nat} {M0 : List (List Row)} {st : List (Int × Int)} {gs : List (List Rat)} {plan : List Nat}
theorem Drawn.scaled (Y : Drawn n M0 st gs) (P : PlanOk (houseM M0) plan) {s F F' : Nat → Rat} (hF : Flw n (rowsF (houseM M0) plan) s F) (hF' : Flw n (rowsF (lateM M0 st) plan) s F') : scaleP (flowP n (houseM M0) plan F) (st.map longer) = flowP n (lateM M0 st) plan F' := by
  have e1 : st.map longer = (List.range n).map fun i => longer (st.getD i (0, 1)) := by
    conv => lhs; rw [list_rng (a := ((0 : Int), (1 : Int))) Y.sl]
    rw [List.map_map]
    rfl
  unfold scaleP
  rw [e1, flowP_eq, flowP_eq, zip_mm, List.map_map]
  refine List.map_congr_left fun i hi => ?_
  have hi' : i < n := by simpa using hi
  show (rowP _ _ _).map (fun x => x * longer (st.getD i (0, 1))) = _
  rw [rowP_scale, Y.flow P hF hF' i hi']
  congr 1
  obtain ⟨rs', h2⟩ : ∃ rs', (lateM M0 st)[i]? = some rs' := ⟨_, List.getElem?_eq_getElem (by rw [Y.late.h.len]; exact hi')⟩
  obtain ⟨rs, p, a, b, rfl⟩ := Y.slow_at h2
  have eh : (houseM M0)[i]? = some (rs.map lp) := by unfold houseM; rw [List.getElem?_map, a]; rfl
  rw [getD_of eh, getD_of h2, List.length_map, List.length_map]
end
end Wk
end
section
set_option Elab.async false
set_option linter.all false
set_option maxRecDepth 100000
set_option exponentiation.threshold 100
/-! D41: reduced rows are canonical. -/
namespace Wk
open PySem PySem.Spec L3
local macro_rules | `(tactic| walk_at "dv") => `(tactic| simp only [q_dDef, q_sh0, List.map_cons, List.map_nil, List.cons_append, List.nil_append, q_dSq, q_dNext, q_dSet, q_dSetF, q_dSetO, q_dRet, q_dRetN, q_dIfS, q_dNever, q_dWhile, q_dFor, q_dPar, q_dAsg, q_dDrop,
  q_dFrz, q_dApp, q_dAppF, q_dPut, q_dPutF, q_dAttrN, q_dAttrFN, q_dFldN,
  List.getElem?_cons_zero, List.getElem?_cons_succ, List.set_cons_zero, List.set_cons_succ, q_setS0, q_setSc, q_setSs0, q_setSsc, q_setD0, q_setDc, q_wipe0, q_wipec,
  shOf_nil, shOf_c, shO_n, shO_s, shO_o, shO_i, alOf_nil, alOf_c, alO_n, alO_s, alO_o, alO_i, dVar_0, dVar_s, q_dC, q_dBin, q_dBinL, q_dTest, q_dChain, q_dNot, q_dNotV, q_dAnd, q_dAndV, q_dOr, q_dOrV, q_dIf, q_dNeg, q_dCall, q_dCallL, q_dCons, q_dNil, q_dStar, q_dLst, q_dTup, q_dLen, q_dxCons, q_dxNil, q_dxP, q_dxO, q_dYes,
  asInt_int, asBl_bl, asSeq_l, asSeq_t, asLst_l, asTup_t, asObj_o, arg1_, arg2_, arg3_, q_gDef, q_gMake, q_gI0, q_gI, gEq_int, gNe_int, q_gLen, q_gAbs, q_gMax2, q_gMin2, q_gInt_i, q_gInt_b, q_gTuple, q_gList, gIx_0, gIx_1, gIx_0l, gIx_1l, q_gCatL, q_gRepL, q_gCatT, q_gRepT, isi_, isi_int_int, isi_bool_int, isi_tup_tup, isiT_, isiT_lst, isiT_tup, isC_, isCK_o, q_dSeqI, q_dEnumI, q_dZip2, q_dZip3, q_dRng1, q_dRng2, q_dLc, q_gIsB, q_gNotB, q_dSlL, q_dSlT, q_dNoP, q_dSoP,
  List.length_cons, List.length_nil, true_and, and_true, Bool.not_true, Bool.not_false, if_true, Bool.false_eq_true, if_false])
local macro_rules | `(tactic| walk_at "dh") => `(tactic| ((try simp only [fM_eq, fN_eq]); repeat (first | walk_at "dv" | simp only [q_dMv, q_dNv, fMoves_h, fMany_h, isCK_h, asSeq_rT])))
local macro_rules | `(tactic| walk_at "dd") => `(tactic| repeat (first | walk_at "dv" | simp only [q_dDrN, q_dDrC, q_dPop, q_dDput, q_dScrI, q_dLenS]))
open Mx (S Sub)
theorem gcdL_mul {c : Int} : ∀ {ns : List Int} {g : Nat}, gcdL (c.natAbs * g) (ns.map fun m => c * m) = c.natAbs * gcdL g ns
  | [], _ => rfl
  | n :: ns, g => by
    show gcdL (Nat.gcd (c.natAbs * g) (c * n).natAbs) (ns.map fun m => c * m) = c.natAbs * gcdL (Nat.gcd g n.natAbs) ns
    rw [Int.natAbs_mul, Nat.gcd_mul_left]
    exact gcdL_mul
theorem gcdL_great {k : Nat} : ∀ {ns : List Int} {g : Nat}, k ∣ g → (∀ n ∈ ns, (k : Int) ∣ n) → k ∣ gcdL g ns
  | [], _, h, _ => h
  | n :: ns, g, h, hn => gcdL_great (ns := ns) (g := Nat.gcd g n.natAbs) (Nat.dvd_gcd h (Int.ofNat_dvd_left.mp (hn n (List.mem_cons_self ..)))) (fun m hm => hn m (List.mem_cons_of_mem _ hm))
section
variable {n b c : Nat} {r r' : Row}
theorem lp_gcd (R : RowOk n b r) : gcdL 0 ((lp r).1 :: (lp r).2) = 1 := by
  obtain ⟨g0, _⟩ := gcdL_head (ns := r.2) R.pos
  have dv := (gcdL_dvd (r.1 :: r.2) 0).2
  obtain ⟨g, hg⟩ : ∃ g, g = gcdL 0 (r.1 :: r.2) := ⟨_, rfl⟩
  rw [← hg] at g0
  have e : ((lp r).1 :: (lp r).2).map (fun m => (g : Int) * m) = r.1 :: r.2 := by
    unfold lp
    rw [← hg, List.map_cons, List.map_map]
    congr 1
    · exact Int.mul_ediv_cancel' (hg ▸ dv _ (List.mem_cons_self ..))
    · conv => rhs; rw [← List.map_id r.2]
      exact List.map_congr_left fun m hm => Int.mul_ediv_cancel' (hg ▸ dv _ (List.mem_cons_of_mem _ hm))
  have h := gcdL_mul (c := (g : Int)) (ns := (lp r).1 :: (lp r).2) (g := 0)
  rw [e, Int.natAbs_natCast, Nat.mul_zero, ← hg] at h
  exact (Nat.eq_of_mul_eq_mul_left g0 (by rw [Nat.mul_one]; exact h.symm))
theorem tot_dvd {a a' : Row} (l : a.2.length = n) (l' : a'.2.length = n) (hg : gcdL 0 (a.1 :: a.2) = 1) (h : ∀ j, j < n → a.1 * gi a'.2 j = a'.1 * gi a.2 j) : a.1 ∣ a'.1 := by
  have h2 : a.1.natAbs ∣ gcdL 0 ((a.1 :: a.2).map fun m => a'.1 * m) := gcdL_great (Nat.dvd_zero _) fun m hm => by
    rw [Int.natAbs_dvd]
    obtain ⟨z, hz, rfl⟩ := List.mem_map.mp hm
    rcases List.mem_cons.mp hz with rfl | hz
    · exact Int.dvd_mul_left ..
    · obtain ⟨j, hj⟩ := List.getElem?_of_mem hz
      have hjn : j < n := by rw [← l]; exact (List.getElem?_eq_some_iff.mp hj).1
      have e : z = gi a.2 j := by
        have := gi_get (l := a.2) (i := j) (by rw [l]; exact hjn)
        rw [hj] at this
        exact Option.some.inj this
      rw [e, ← h j hjn]
      exact Int.dvd_mul_right ..
  have h3 := gcdL_mul (c := a'.1) (ns := a.1 :: a.2) (g := 0)
  rw [Nat.mul_zero] at h3
  rw [h3, hg, Nat.mul_one] at h2
  exact Int.natAbs_dvd_natAbs.mp h2
theorem lp_eq (R : RowOk n b r) (R' : RowOk n c r') (h : ∀ j, j < n → pq r j = pq r' j) : lp r = lp r' := by
  have L := (lp_ok R).1
  have L' := (lp_ok R').1
  have p := L.pos
  have p' := L'.pos
  have h1 : ∀ j, j < n → (lp r).1 * gi (lp r').2 j = (lp r').1 * gi (lp r).2 j := fun j hj => by
    have e : pq (lp r) j = pq (lp r') j := by rw [pq_lp R, pq_lp R', h j hj]
    have e1 := pq_mul L j
    have e2 := pq_mul L' j
    have : (((lp r).1 * gi (lp r').2 j : Int) : Rat) = (((lp r').1 * gi (lp r).2 j : Int) : Rat) := by
      rw [Rat.intCast_mul, Rat.intCast_mul, e1, e2, e]
      grind
    exact_mod_cast this
  have d1 := tot_dvd L.len L'.len (lp_gcd R) h1
  have d2 := tot_dvd L'.len L.len (lp_gcd R') fun j hj => (h1 j hj).symm
  have et : (lp r).1 = (lp r').1 := Int.dvd_antisymm (by omega) (by omega) d1 d2
  refine Prod.ext et ?_
  apply List.ext_getElem?
  intro j
  by_cases hj : j < n
  · have := h1 j hj
    rw [et] at this
    rw [gi_get (by rw [L.len]; exact hj), gi_get (by rw [L'.len]; exact hj)]
    have : gi (lp r').2 j = gi (lp r).2 j := Int.eq_of_mul_eq_mul_left (by omega) this
    rw [this]
  · rw [List.getElem?_eq_none (by rw [L.len]; omega), List.getElem?_eq_none (by rw [L'.len]; omega)]
end
end Wk
end
section
set_option Elab.async false
set_option linter.all false
set_option maxRecDepth 100000
set_option exponentiation.threshold 100
/-! D42: the law's own helpers: parts, pair, share, dot, rows of a walk. -/
namespace Wk
open PySem PySem.Spec L3
local macro_rules | `(tactic| walk_at "dv") => `(tactic| simp only [q_dDef, q_sh0, List.map_cons, List.map_nil, List.cons_append, List.nil_append, q_dSq, q_dNext, q_dSet, q_dSetF, q_dSetO, q_dRet, q_dRetN, q_dIfS, q_dNever, q_dWhile, q_dFor, q_dPar, q_dAsg, q_dDrop,
  q_dFrz, q_dApp, q_dAppF, q_dPut, q_dPutF, q_dAttrN, q_dAttrFN, q_dFldN,
  List.getElem?_cons_zero, List.getElem?_cons_succ, List.set_cons_zero, List.set_cons_succ, q_setS0, q_setSc, q_setSs0, q_setSsc, q_setD0, q_setDc, q_wipe0, q_wipec,
  shOf_nil, shOf_c, shO_n, shO_s, shO_o, shO_i, alOf_nil, alOf_c, alO_n, alO_s, alO_o, alO_i, dVar_0, dVar_s, q_dC, q_dBin, q_dBinL, q_dTest, q_dChain, q_dNot, q_dNotV, q_dAnd, q_dAndV, q_dOr, q_dOrV, q_dIf, q_dNeg, q_dCall, q_dCallL, q_dCons, q_dNil, q_dStar, q_dLst, q_dTup, q_dLen, q_dxCons, q_dxNil, q_dxP, q_dxO, q_dYes,
  asInt_int, asBl_bl, asSeq_l, asSeq_t, asLst_l, asTup_t, asObj_o, arg1_, arg2_, arg3_, q_gDef, q_gMake, q_gI0, q_gI, gEq_int, gNe_int, q_gLen, q_gAbs, q_gMax2, q_gMin2, q_gInt_i, q_gInt_b, q_gTuple, q_gList, gIx_0, gIx_1, gIx_0l, gIx_1l, q_gCatL, q_gRepL, q_gCatT, q_gRepT, isi_, isi_int_int, isi_bool_int, isi_tup_tup, isiT_, isiT_lst, isiT_tup, isC_, isCK_o, q_dSeqI, q_dEnumI, q_dZip2, q_dZip3, q_dRng1, q_dRng2, q_dLc, q_gIsB, q_gNotB, q_dSlL, q_dSlT, q_dNoP, q_dSoP,
  List.length_cons, List.length_nil, true_and, and_true, Bool.not_true, Bool.not_false, if_true, Bool.false_eq_true, if_false])
local macro_rules | `(tactic| walk_at "dh") => `(tactic| ((try simp only [fM_eq, fN_eq]); repeat (first | walk_at "dv" | simp only [q_dMv, q_dNv, fMoves_h, fMany_h, isCK_h, asSeq_rT])))
local macro_rules | `(tactic| walk_at "dd") => `(tactic| repeat (first | walk_at "dv" | simp only [q_dDrN, q_dDrC, q_dPop, q_dDput, q_dScrI, q_dLenS]))
open Mx (S Sub)
theorem lparts_ok {T : Int} {ss : List Int} {Q : DK} (hT : 0 < T) (hT8 : T.natAbs < 2 ^ 8) (hl : ss.length ≤ 1000) (h : Q (.lst ((ss.map fun z => mkRat z T.toNat).map rt))) : p__law_parts [encR T ss] Q := by
  unfold p__law_parts t__law_parts encR
  walk_at "dv"
  rw [show dis ss = ss.map L3.D.int from rfl]
  refine lc_of (f := fun z => rt (mkRat z T.toNat)) (fun z hz => ⟨_, rfl, fun Q h => ?_⟩) (by simp; exact line_ok (by omega)) ?_
  · walk_at "dv"
    rw [show T = ((T.toNat : Nat) : Int) by omega]
    exact lratio_ok (by omega) (Nat.lt_of_lt_of_le (show T.toNat < 2 ^ 8 by omega) (Nat.pow_le_pow_right (by decide) (by decide))) h
  rw [List.nil_append]
  rw [List.map_map] at h
  exact h
theorem gcdL_one {t : Int} {ns : List Int} (ht : 0 < t) : gcdL 0 ((t / (gcdL 0 (t :: ns) : Nat)) :: ns.map fun m => m / (gcdL 0 (t :: ns) : Nat)) = 1 := by
  obtain ⟨g0, _⟩ := gcdL_head (ns := ns) ht
  have dv := (gcdL_dvd (t :: ns) 0).2
  obtain ⟨g, hg⟩ : ∃ g, g = gcdL 0 (t :: ns) := ⟨_, rfl⟩
  rw [← hg] at g0 ⊢
  have e : ((t / (g : Int)) :: ns.map fun m => m / (g : Int)).map (fun m => (g : Int) * m) = t :: ns := by
    rw [List.map_cons, List.map_map]
    congr 1
    · exact Int.mul_ediv_cancel' (hg ▸ dv _ (List.mem_cons_self ..))
    · conv => rhs; rw [← List.map_id ns]
      exact List.map_congr_left fun m hm => Int.mul_ediv_cancel' (hg ▸ dv _ (List.mem_cons_of_mem _ hm))
  have h := gcdL_mul (c := (g : Int)) (ns := (t / (g : Int)) :: ns.map fun m => m / (g : Int)) (g := 0)
  rw [e, Int.natAbs_natCast, Nat.mul_zero, ← hg] at h
  exact (Nat.eq_of_mul_eq_mul_left g0 (by rw [Nat.mul_one]; exact h.symm))
theorem gcdL_append : ∀ {a b : List Int} {g : Nat}, gcdL g (a ++ b) = gcdL (gcdL g a) b
  | [], _, _ => rfl
  | x :: a, b, g => gcdL_append (a := a)
theorem gcdL_gcd : ∀ {a : List Int} {g h : Nat}, gcdL (Nat.gcd g h) a = Nat.gcd (gcdL g a) h
  | [], _, _ => rfl
  | x :: a, g, h => by
    show gcdL (Nat.gcd (Nat.gcd g h) x.natAbs) a = Nat.gcd (gcdL (Nat.gcd g x.natAbs) a) h
    rw [Nat.gcd_assoc, Nat.gcd_comm h, ← Nat.gcd_assoc]
    exact gcdL_gcd
theorem gcdL_swap {t : Int} {ns : List Int} : gcdL 0 (ns ++ [t]) = gcdL 0 (t :: ns) := by
  rw [gcdL_append]
  show Nat.gcd (gcdL 0 ns) t.natAbs = gcdL (Nat.gcd 0 t.natAbs) ns
  rw [gcdL_gcd]
theorem den_num {q : Rat} {s : Nat} (h : q.den ∣ s) (s0 : 0 < s) : ((q.num * ((s : Int) / (q.den : Int)) : Int) : Rat) = q * (s : Rat) := by
  obtain ⟨m, rfl⟩ := h
  have d0 : (0 : Int) < (q.den : Int) := by have := q.den_pos; omega
  have e : (((q.den * m : Nat) : Int) / (q.den : Int)) = (m : Int) := by
    rw [Int.natCast_mul, Int.mul_ediv_cancel_left _ (by omega)]
  rw [e, Rat.intCast_mul, Rat.intCast_natCast, Rat.natCast_mul]
  have dq : (q.den : Rat) ≠ 0 := by
    have : (0 : Rat) < (q.den : Rat) := by exact_mod_cast q.den_pos
    grind
  have h2 : q * (q.den : Rat) = (q.num : Rat) := by
    have e1 := Rat.mkRat_self q
    rw [Rat.mkRat_eq_div] at e1
    have e2 : (q.num : Rat) / (q.den : Rat) * (q.den : Rat) = (q.num : Rat) := Rat.div_mul_cancel dq
    rw [e1] at e2
    exact e2
  rw [← h2]
  grind
def pairN (s : Nat) (qs : List Rat) : List Int := qs.map fun q => q.num * ((s : Int) / (q.den : Int))
theorem pairN_sum {s : Nat} (s0 : 0 < s) : ∀ {qs : List Rat}, (∀ q ∈ qs, q.den ∣ s) → (((pairN s qs).sum : Int) : Rat) = sumR qs * (s : Rat)
  | [], _ => by
    show ((0 : Int) : Rat) = 0 * (s : Rat)
    grind
  | q :: qs, h => by
    show ((q.num * ((s : Int) / (q.den : Int)) + (pairN s qs).sum : Int) : Rat) = _
    rw [Rat.intCast_add, den_num (h q (List.mem_cons_self ..)) s0, pairN_sum s0 fun x hx => h x (List.mem_cons_of_mem _ hx), sumR_cons]
    grind
theorem lpair_ok {qs : List Rat} {N n : Nat} {Q : DK} (hn : n ≤ 8) (hl : qs.length = n) (N0 : 0 < N) (N8 : N < 2 ^ 8) (hN : ∀ q ∈ qs, q.den ∣ N) (h0 : ∀ q ∈ qs, 0 ≤ q) (h1 : sumR qs = 1)
    (h : ∀ T ss, ShareOk n T ss → Q (encR T ss)) : p__law_pair [.lst (qs.map rt)] Q := by
  have dlt : ∀ q ∈ qs, 0 < q.den ∧ q.den < 2 ^ 8 := fun q hq => ⟨q.den_pos, Nat.lt_of_le_of_lt (Nat.le_of_dvd N0 (hN q hq)) N8⟩
  unfold p__law_pair t__law_pair
  walk_at "dv"
  refine for_of (fun (l : List Rat) ρ => ∃ (s : Nat) (o3 o4 o5 o6 : Option L3.S), ρ = [some (S.sh (.lst (qs.map rt))), some (.sh (.int (s : Int))), some (.sh (.int 0)), o3, o4, o5, o6] ∧ 0 < s ∧ s ∣ N ∧ (∀ q ∈ l, q ∈ qs) ∧ ∀ q ∈ qs, q ∈ l ∨ q.den ∣ s)
    ⟨1, none, none, none, none, rfl, by decide, Nat.one_dvd _, fun q hq => hq, fun q hq => .inl hq⟩ ?_ ?_
  · rintro q l ρ ⟨s, o3, o4, o5, o6, rfl, s0, sN, hq, hd⟩
    have qm := hq q (List.mem_cons_self ..)
    obtain ⟨q0, q8⟩ := dlt q qm
    have s8 : s < 2 ^ 8 := Nat.lt_of_le_of_lt (Nat.le_of_dvd N0 sN) N8
    refine ⟨[(3, .int q.num), (4, .int (q.den : Int))], rfl, fun R hR => ?_⟩
    walk_at "dv"
    refine lcommon_ok ?_
    rw [Int.natAbs_natCast, Int.natAbs_natCast]
    walk_at "dv"
    have g0 : 0 < Nat.gcd s q.den := Nat.gcd_pos_of_pos_left _ s0
    have g8 : Nat.gcd s q.den ≤ s := Nat.le_of_dvd s0 (Nat.gcd_dvd_left ..)
    refine ⟨divB g0 (Nat.lt_of_le_of_lt g8 s8), mulC (by omega) (by omega), ?_⟩
    have e : ((s : Int) / ((Nat.gcd s q.den : Nat) : Int)) * (q.den : Int) = ((Nat.lcm s q.den : Nat) : Int) := by
      rw [← Int.natCast_ediv, ← Int.natCast_mul]
      congr 1
      unfold Nat.lcm
      rw [Nat.div_mul_right_comm (Nat.gcd_dvd_left ..)]
    rw [e]
    refine hR _ ⟨Nat.lcm s q.den, _, _, _, _, rfl, Nat.lcm_pos s0 q0, Nat.lcm_dvd sN (hN q qm), fun x hx => hq x (List.mem_cons_of_mem _ hx), fun x hx => ?_⟩
    rcases hd x hx with hx | hx
    · rcases List.mem_cons.mp hx with rfl | hx
      · exact .inr (Nat.dvd_lcm_right ..)
      · exact .inl hx
    · exact .inr (Nat.dvd_trans hx (Nat.dvd_lcm_left ..))
  · rintro ρ ⟨s, o3, o4, o5, o6, rfl, s0, sN, _, hd⟩
    have hd : ∀ q ∈ qs, q.den ∣ s := fun q hq => (hd q hq).resolve_left (by simp)
    have s8 : s < 2 ^ 8 := Nat.lt_of_le_of_lt (Nat.le_of_dvd N0 sN) N8
    walk_at "dv"
    refine lc_of (f := fun (q : Rat) => L3.D.int (q.num * ((s : Int) / (q.den : Int)))) (fun q hq => ⟨[(3, .int q.num), (4, .int (q.den : Int))], rfl, fun Q h => ?_⟩) (by simp [hl]; exact line_ok (by omega)) ?_
    · obtain ⟨q0, q8⟩ := dlt q hq
      walk_at "dv"
      have dd : (s : Int) / (q.den : Int) ≤ s ∧ 0 ≤ (s : Int) / (q.den : Int) := ⟨Int.ediv_le_self _ (by omega), Int.ediv_nonneg (by omega) (by omega)⟩
      exact ⟨divB q0 q8, mulC (by omega) (by omega), h⟩
    rw [List.nil_append]
    have nn : ∀ m ∈ pairN s qs, 0 ≤ m := fun m hm => by
      obtain ⟨q, hq, rfl⟩ := List.mem_map.mp hm
      exact Int.mul_nonneg (Rat.num_nonneg.mpr (h0 q hq)) (Int.ediv_nonneg (by omega) (by omega))
    have sm : (pairN s qs).sum = (s : Int) := by
      have := pairN_sum s0 hd
      rw [h1, Rat.one_mul] at this
      have h2 : (((pairN s qs).sum : Int) : Rat) = ((s : Int) : Rat) := by rw [this, Rat.intCast_natCast]
      exact_mod_cast h2
    have el : qs.map (fun (q : Rat) => L3.D.int (q.num * ((s : Int) / (q.den : Int)))) = dis (pairN s qs) := by unfold dis pairN; rw [List.map_map]; rfl
    have pl : (pairN s qs).length = n := by unfold pairN; rw [List.length_map, hl]
    rw [el]
    try walk_at "dv"
    refine ⟨line_ok (by decide), by rw [dis_len, pl]; exact line_ok (by show n + 1 ≤ 1000; omega), ?_⟩
    rw [show dis (pairN s qs) ++ [L3.D.int (s : Int)] = (pairN s qs ++ [(s : Int)]).map L3.D.int by rw [List.map_append]; rfl]
    refine for_of (fun (l : List Int) ρ => ∃ (g : Nat) (o3 o4 o6 : Option L3.S), ρ = [some (S.sh (.lst (qs.map rt))), some (.sh (.int (s : Int))), some (.sh (.int (g : Int))), o3, o4, some (.sh (.lst (dis (pairN s qs)))), o6] ∧ gcdL g l = gcdL 0 (pairN s qs ++ [(s : Int)]))
      ⟨0, o3, o4, o6, rfl, rfl⟩ ?_ ?_
    · rintro z l ρ ⟨g, o3, o4, o6, rfl, hg⟩
      refine ⟨_, rfl, fun R hR => ?_⟩
      walk_at "dv"
      refine lcommon_ok ?_
      try walk_at "dv"
      rw [Int.natAbs_natCast]
      exact hR _ ⟨_, _, _, _, rfl, hg⟩
    · rintro ρ ⟨g, o3, o4, o6, rfl, hg⟩
      have hg : g = gcdL 0 ((s : Int) :: pairN s qs) := by rw [← gcdL_swap, ← hg]; rfl
      have sp : (0 : Int) < (s : Int) := by omega
      obtain ⟨g0, g9⟩ := gcdL_head (ns := pairN s qs) sp
      rw [← hg] at g0 g9
      have dvs := (gcdL_dvd ((s : Int) :: pairN s qs) 0).2
      rw [← hg] at dvs
      have g8 : g < 2 ^ 8 := by omega
      walk_at "dv"
      refine ⟨divB g0 g8, ?_⟩
      rw [show dis (pairN s qs) = (pairN s qs).map L3.D.int from rfl]
      refine lc_of (f := fun (z : Int) => L3.D.int (z / (g : Int))) (fun z hz => ⟨_, rfl, fun Q h => ?_⟩) (by simp [pl]; exact line_ok (by omega)) ?_
      · walk_at "dv"
        exact ⟨divB g0 g8, h⟩
      rw [List.nil_append]
      try walk_at "dv"
      refine ⟨line_ok (by decide), ?_⟩
      have := h ((s : Int) / (g : Int)) ((pairN s qs).map fun z => z / (g : Int)) ⟨by rw [List.length_map, pl], ?_, ?_, fun m hm => ?_, ?_, ?_⟩
      · rw [dis_map]
        exact this
      · have : (g : Int) ≤ s := by omega
        exact Int.ediv_pos_of_pos_of_dvd (by omega) (by omega) (dvs _ (List.mem_cons_self ..))
      · have := Int.natAbs_ediv_le_natAbs (s : Int) (g : Int)
        omega
      · obtain ⟨z, hz, rfl⟩ := List.mem_map.mp hm
        exact Int.ediv_nonneg (nn z hz) (by omega)
      · have e := sum_div (g := (g : Int)) (by omega) (l := pairN s qs) fun m hm => dvs m (List.mem_cons_of_mem _ hm)
        rw [sm] at e
        rw [← e, Int.mul_ediv_cancel_left _ (by omega)]
      · have := gcdL_one (ns := pairN s qs) sp
        rw [← hg] at this
        exact this
theorem sumR_div {N : Nat} : ∀ {ns : List Int}, sumR (ns.map fun z => mkRat z N) = (ns.sum : Rat) / (N : Rat)
  | [] => by
    show (0 : Rat) = ((0 : Int) : Rat) / _
    rw [Rat.div_def]; grind
  | z :: ns => by
    rw [List.map_cons, sumR_cons, sumR_div (ns := ns), List.sum_cons, Rat.mkRat_eq_div, Rat.intCast_add, Rat.div_def, Rat.div_def, Rat.div_def]
    grind
theorem share_ok {n : Nat} (n1 : 1 ≤ n) (hn : n ≤ 8) {Q : DK} (h : ∀ T ss, ShareOk n T ss → Q (encR T ss)) : p__law_some_share [.drw, .int (n : Int)] Q := by
  unfold p__law_some_share t__law_some_share
  walk_at "dd"
  refine ⟨by unfold Rng; omega, ?_⟩
  rw [Int.toNat_natCast, rangeD_eq]
  refine lc_draw (out := L3.D.int) (R := fun (_ : Nat) (y : Int) => 0 ≤ y ∧ y ≤ 7) (fun k hk => ⟨_, rfl, fun Q h => ?_⟩) (by simp; exact line_ok (by omega)) fun ys hl hr => ?_
  · walk_at "dd"
    refine ⟨line_ok (by decide), ?_⟩
    refine pick_ok (by simp) (by simp) fun x hx => ?_
    simp only [List.mem_cons, List.not_mem_nil, or_false] at hx
    rcases hx with rfl | rfl | rfl | rfl | rfl | rfl
    · exact h 0 (by decide)
    · exact h 0 (by decide)
    · exact h 1 (by decide)
    · exact h 2 (by decide)
    · exact h 3 (by decide)
    · exact h 7 (by decide)
  rw [List.nil_append]
  have yl : ys.length = n := by simpa using hl
  have all : ∀ y ∈ ys, 0 ≤ y ∧ y ≤ 7 := fun y hy => by
    obtain ⟨z, hz⟩ := List.getElem?_of_mem hy
    have hzl := (List.getElem?_eq_some_iff.mp hz).1
    exact hr z z y (List.getElem?_range (by omega)) hz
  have fin : ∀ zs : List Int, zs.length = n → (∀ z ∈ zs, 0 ≤ z ∧ z ≤ 7) → 0 < zs.sum → dLcL (dNm 4) dYes (dCall (gDef 2 p__law_ratio) (dCons (dVar 4) (dCons (dCall gSumB (dCons (dVar 2) dNil)) dNil))) [some .drw, some (.int (n : Int)), some (.lst (dis zs)), none, none] (dis zs) [] (fun ds => p__law_pair [.lst ds] Q) := fun zs zl za z0 => by
    have z9 : zs.sum < 2 ^ 8 := by
      have : ∀ {l : List Int}, (∀ z ∈ l, 0 ≤ z ∧ z ≤ 7) → l.sum ≤ 7 * (l.length : Int) := fun {l} => by
        induction l with
        | nil => intro _; simp
        | cons x l ih =>
          intro h
          have h1 := h x (List.mem_cons_self ..)
          have h2 := ih fun m hm => h m (List.mem_cons_of_mem _ hm)
          rw [List.sum_cons, List.length_cons]
          omega
      have := this za
      omega
    obtain ⟨N, hN⟩ : ∃ N : Nat, zs.sum = (N : Int) := ⟨zs.sum.toNat, by omega⟩
    rw [show dis zs = zs.map L3.D.int from rfl]
    refine lc_of (f := fun z => rt (mkRat z N)) (fun z hz => ⟨_, rfl, fun Q h => ?_⟩) (by simp [zl]; exact line_ok (by omega)) ?_
    · walk_at "dd"
      rw [show zs.map L3.D.int = dis zs from rfl, gSumB_l, hN]
      walk_at "dd"
      exact lratio_ok (by omega) (Nat.lt_of_lt_of_le (show N < 2 ^ 8 by omega) (Nat.pow_le_pow_right (by decide) (by decide))) h
    rw [List.nil_append]
    rw [show zs.map (fun z => rt (mkRat z N)) = (zs.map fun z => mkRat z N).map rt by rw [List.map_map]; rfl]
    have nq : (N : Rat) ≠ 0 := by
      have : (0 : Rat) < (N : Rat) := by exact_mod_cast (show 0 < N by omega)
      grind
    refine lpair_ok (N := N) (n := n) hn (by rw [List.length_map, zl]) (by omega) (by omega) (fun q hq => ?_) (fun q hq => ?_) ?_ h
    · obtain ⟨z, hz, rfl⟩ := List.mem_map.mp hq
      have := (mkRat_nd (a := z) (b := N) (by omega)).2
      have g := Nat.gcd_dvd_right z.natAbs N
      rw [← Int.natCast_ediv] at this
      rw [show (mkRat z N).den = N / Nat.gcd z.natAbs N by exact_mod_cast this]
      exact Nat.div_dvd_of_dvd g
    · obtain ⟨z, hz, rfl⟩ := List.mem_map.mp hq
      rw [Rat.mkRat_eq_div, Rat.div_def]
      exact Rat.mul_nonneg (by exact_mod_cast (za z hz).1) (Rat.le_of_lt (Rat.inv_pos.mpr (by exact_mod_cast (show 0 < N by omega))))
    · rw [sumR_div, hN, Rat.intCast_natCast, Rat.div_def]
      exact Rat.mul_inv_cancel _ nq
  rw [show ys.map L3.D.int = dis ys from rfl, gSumB_l]
  walk_at "dd"
  by_cases e : (ys.sum == 0) = true
  · rw [if_pos e]
    refine take_ok (by omega) (by omega) fun r h1 h2 => ?_
    walk_at "dd"
    obtain ⟨k, rfl⟩ : ∃ k : Nat, r = (k : Int) := ⟨r.toNat, by omega⟩
    refine ⟨k, ixN_nat (by rw [dis_len]; omega), ?_⟩
    have e2 : (dis ys).set k (L3.D.int 1) = dis (ys.set k 1) := by unfold dis; rw [List.map_set]
    rw [e2]
    have nn : ∀ y ∈ ys.set k 1, 0 ≤ y ∧ y ≤ 7 := fun y hy => by
      rcases List.mem_or_eq_of_mem_set hy with hy | rfl
      · exact all y hy
      · decide
    refine fin (ys.set k 1) (by rw [List.length_set, yl]) nn ?_
    have := le_sum (fun m hm => (nn m hm).1) 1 (List.mem_set (l := ys) (i := k) (by omega) 1)
    omega
  · rw [if_neg e]
    refine fin ys yl all ?_
    have h1 := sum_nn fun m hm => (all m hm).1
    have : ys.sum ≠ 0 := fun h => e (beq_iff_eq.mpr h)
    omega
/-- a dot product -/
theorem ldot_ok {ps qs : List Rat} {x y : L3.D} {Q : DK} (hx : x = .lst (ps.map rt) ∨ x = .tup (ps.map rt)) (hy : y = .lst (qs.map rt) ∨ y = .tup (qs.map rt)) (hl : ps.length ≤ 100) (hp : ∀ p ∈ ps, RSz p) (hq : ∀ q ∈ qs, RSz q)
    (hs : SumSz 0 ((ps.zip qs).map fun z => z.1 * z.2)) (h : Q (rt (sumR ((ps.zip qs).map fun z => z.1 * z.2)))) : p__law_dot [x, y] Q := by
  have hx' : ∀ k, asSeq x k = k (ps.map rt) := fun k => by rcases hx with rfl | rfl <;> rfl
  have hy' : ∀ k, asSeq y k = k (qs.map rt) := fun k => by rcases hy with rfl | rfl <;> rfl
  unfold p__law_dot t__law_dot
  walk_at "dv"
  rw [hx', hy', zip_map]
  refine lc_of (f := fun (z : Rat × Rat) => rt (z.1 * z.2)) (fun z hz => ⟨_, rfl, fun Q h => ?_⟩) (by simp; exact line_ok (by omega)) ?_
  · obtain ⟨e1, e2⟩ := List.of_mem_zip hz
    walk_at "dv"
    exact rtimes_ok (hp _ e1) (hq _ e2) h
  rw [List.nil_append]
  refine ltotal_ok (qs := (ps.zip qs).map fun z => z.1 * z.2) (.inl ?_) hs h
  rw [List.map_map]
  rfl
end Wk
end
section
set_option Elab.async false
set_option linter.all false
set_option maxRecDepth 100000
set_option exponentiation.threshold 100
/-! D43: walks compared; the told value; changed gains and houses. -/
namespace Wk
open PySem PySem.Spec L3
local macro_rules | `(tactic| walk_at "dv") => `(tactic| simp only [q_dDef, q_sh0, List.map_cons, List.map_nil, List.cons_append, List.nil_append, q_dSq, q_dNext, q_dSet, q_dSetF, q_dSetO, q_dRet, q_dRetN, q_dIfS, q_dNever, q_dWhile, q_dFor, q_dPar, q_dAsg, q_dDrop,
  q_dFrz, q_dApp, q_dAppF, q_dPut, q_dPutF, q_dAttrN, q_dAttrFN, q_dFldN,
  List.getElem?_cons_zero, List.getElem?_cons_succ, List.set_cons_zero, List.set_cons_succ, q_setS0, q_setSc, q_setSs0, q_setSsc, q_setD0, q_setDc, q_wipe0, q_wipec,
  shOf_nil, shOf_c, shO_n, shO_s, shO_o, shO_i, alOf_nil, alOf_c, alO_n, alO_s, alO_o, alO_i, dVar_0, dVar_s, q_dC, q_dBin, q_dBinL, q_dTest, q_dChain, q_dNot, q_dNotV, q_dAnd, q_dAndV, q_dOr, q_dOrV, q_dIf, q_dNeg, q_dCall, q_dCallL, q_dCons, q_dNil, q_dStar, q_dLst, q_dTup, q_dLen, q_dxCons, q_dxNil, q_dxP, q_dxO, q_dYes,
  asInt_int, asBl_bl, asSeq_l, asSeq_t, asLst_l, asTup_t, asObj_o, arg1_, arg2_, arg3_, q_gDef, q_gMake, q_gI0, q_gI, gEq_int, gNe_int, q_gLen, q_gAbs, q_gMax2, q_gMin2, q_gInt_i, q_gInt_b, q_gTuple, q_gList, gIx_0, gIx_1, gIx_0l, gIx_1l, q_gCatL, q_gRepL, q_gCatT, q_gRepT, isi_, isi_int_int, isi_bool_int, isi_tup_tup, isiT_, isiT_lst, isiT_tup, isC_, isCK_o, q_dSeqI, q_dEnumI, q_dZip2, q_dZip3, q_dRng1, q_dRng2, q_dLc, q_gIsB, q_gNotB, q_dSlL, q_dSlT, q_dNoP, q_dSoP,
  List.length_cons, List.length_nil, true_and, and_true, Bool.not_true, Bool.not_false, if_true, Bool.false_eq_true, if_false])
local macro_rules | `(tactic| walk_at "dh") => `(tactic| ((try simp only [fM_eq, fN_eq]); repeat (first | walk_at "dv" | simp only [q_dMv, q_dNv, fMoves_h, fMany_h, isCK_h, asSeq_rT])))
local macro_rules | `(tactic| walk_at "dd") => `(tactic| repeat (first | walk_at "dv" | simp only [q_dDrN, q_dDrC, q_dPop, q_dDput, q_dScrI, q_dLenS]))
open Mx (S Sub)
def fRows (x : L3.D) (Q : DK) : Prop := asObj x fun c ds => ∃ (i : Nat) (d : L3.D), (fnT c)[i]? = some "rows" ∧ ds[i]? = some d ∧ Q d
def dRw (t : DE) : DE := fun δ Q => t δ fun x => fRows x Q
theorem fR_eq {t : DE} : dFldN fnT "rows" t = dRw t := rfl
theorem q_dRw {t : DE} {δ : DEnv} {Q : DK} : dRw t δ Q = t δ fun x => fRows x Q := propext Iff.rfl
theorem fRows_w {rows : List Row} {Q : DK} : fRows (encWalk rows) Q = Q (.tup (rows.map encRow)) := by
  unfold fRows encWalk
  rw [asObj_o]
  refine Qiff ⟨?_, fun h => ⟨0, _, rfl, rfl, h⟩⟩
  rintro ⟨i, d, h1, h2, h⟩
  match i with
  | 0 => cases h2; exact h
  | 1 => exact absurd h1 (by decide)
  | i + 2 => cases h1
theorem isCK_w {rows : List Row} {Q : DK} : isCK 0 (encWalk rows) Q = Q (.bl true) := isCK_o
local macro_rules | `(tactic| walk_at "dw") => `(tactic| ((try simp only [fM_eq, fN_eq, fR_eq]); repeat (first | walk_at "dv" | simp only [q_dMv, q_dNv, fMoves_h, fMany_h, isCK_h, asSeq_rT, q_dRw, fRows_w, isCK_w])))
theorem cp_row {r : Row} : Cp 2 (encRow r) := Cp.tup fun d hd => by
  simp at hd
  rcases hd with rfl | rfl
  · exact Cp.int
  · exact (Cp.tup (k := 0) fun d hd => by
      obtain ⟨j, _, rfl⟩ := List.mem_map.mp hd
      exact Cp.int)
theorem cp_rows {rows : List Row} : Cp 3 (.tup (rows.map encRow)) := Cp.tup fun d hd => by
  obtain ⟨j, _, rfl⟩ := List.mem_map.mp hd
  exact cp_row
theorem walk_ne_self {rows : List Row} {Q : DK} (q : Q (.bl false)) : gNeC 0 p_Walk_eq_ (encWalk rows) (encWalk rows) Q := by
  refine ⟨⟨_, rfl⟩, ⟨_, rfl⟩, ?_, q⟩
  unfold p_Walk_eq_ t_Walk_eq_
  walk_at "dw"
  exact gEq_self cp_rows (by decide) rfl
theorem lrows_of_ok {rows : List Row} {Q : DK} (hl : rows.length ≤ 100) (h : Q (.lst (rows.map encRow))) : p__law_rows_of [encWalk rows] Q := by
  unfold p__law_rows_of t__law_rows_of
  walk_at "dw"
  refine lc_of (f := encRow) (fun r hr => ⟨[(1, .int r.1), (2, .tup (dis r.2))], rfl, fun Q h => ?_⟩) (by simp; exact line_ok (by omega)) ?_
  · walk_at "dv"
    exact ⟨line_ok (by decide), h⟩
  · rw [List.nil_append]
    exact h
/-! ### the told value and plan -/
section
variable {n : Nat} {M M' : List (List Row)} {gs gs' : List (List Rat)} {V W : Nat → Rat} {plan plan' : List Nat} {Q : DK}
theorem vecD_congr (h : ∀ i, i < n → V i = W i) : vecD n V = vecD n W := by
  unfold vecD
  congr 1
  exact List.map_congr_left fun i hi => by rw [h i (by simpa using hi)]
theorem sumsF_congr {rs : List Row} {g : List Rat} (h : ∀ i, i < n → V i = W i) : sumsF n rs g V = sumsF n rs g W := by
  unfold sumsF
  refine List.map_congr_left fun q _ => ?_
  unfold sq
  rw [mean_congr (fun _ _ => rfl) h]
theorem BestPlan.congr (B : BestPlan n M gs V plan) (h : ∀ i, i < n → V i = W i) : BestPlan n M gs W plan := ⟨B.1, fun i k rs g h1 h2 h3 => by
  rw [← sumsF_congr h]
  exact B.2 i k rs g h1 h2 h3⟩
theorem BestPlan.uniq (Y : HG n M gs) (B : BestPlan n M gs V plan) (B' : BestPlan n M gs V plan') : plan = plan' := by
  apply List.ext_getElem?
  intro i
  by_cases hi : i < n
  · have e1 := List.getElem?_eq_getElem (show i < plan.length by rw [B.1]; exact hi)
    have e2 := List.getElem?_eq_getElem (show i < plan'.length by rw [B'.1]; exact hi)
    have e3 := List.getElem?_eq_getElem (show i < M.length by rw [Y.h.len]; exact hi)
    have e4 := List.getElem?_eq_getElem (show i < gs.length by rw [Y.p.1, Y.h.len]; exact hi)
    rw [e1, e2, (B.2 i _ _ _ e3 e4 e1).uniq (B'.2 i _ _ _ e3 e4 e2)]
  · rw [List.getElem?_eq_none (by rw [B.1]; omega), List.getElem?_eq_none (by rw [B'.1]; omega)]
theorem most_is (Y : HG n M gs) (hB : Bell n M gs V) (q : Q (vecD n V)) : p_most [encHouse M, encParts gs] Q := most_ok Y fun V' hB' _ => by
  rw [vecD_congr (hB'.uniq Y hB)]
  exact q
theorem best_is (Y : HG n M gs) (hB : Bell n M gs V) (B : BestPlan n M gs V plan) (q : Q (encPlan plan)) : p_best_plan [encHouse M, encParts gs] Q := best_plan_ok Y fun V' plan' hB' B' => by
  rw [(B'.congr (hB'.uniq Y hB)).uniq Y B]
  exact q
theorem Bell.sums (Y : HG n M gs) (Y' : HG n M' gs') (hB : Bell n M gs V) (B : BestPlan n M gs V plan)
    (hs : ∀ (i k : Nat) (rs rs' : List Row) (g g' : List Rat), M[i]? = some rs → gs[i]? = some g → M'[i]? = some rs' → gs'[i]? = some g' → Best (sumsF n rs g V) k → (sumsF n rs g V)[k]? = some (V i) → Best (sumsF n rs' g' W) k ∧ (sumsF n rs' g' W)[k]? = some (W i)) :
    BestPlan n M' gs' W plan ∧ Bell n M' gs' W := by
  have get : ∀ {i : Nat}, i < n → ∃ rs g, M[i]? = some rs ∧ gs[i]? = some g := fun {i} hi => ⟨_, _, List.getElem?_eq_getElem (by rw [Y.h.len]; exact hi), List.getElem?_eq_getElem (by rw [Y.p.1, Y.h.len]; exact hi)⟩
  have both : ∀ (i k : Nat) (rs' : List Row) (g' : List Rat), M'[i]? = some rs' → gs'[i]? = some g' → plan[i]? = some k → Best (sumsF n rs' g' W) k ∧ (sumsF n rs' g' W)[k]? = some (W i) := fun i k rs' g' h1 h2 h3 => by
    have hi : i < n := by rw [← Y'.h.len]; exact (List.getElem?_eq_some_iff.mp h1).1
    obtain ⟨rs, g, e1, e2⟩ := get hi
    have b := B.2 i k rs g e1 e2 h3
    exact hs i k rs rs' g g' e1 e2 h1 h2 b (bell_at Y hB e1 e2 b).1
  have B' : BestPlan n M' gs' W plan := ⟨B.1, fun i k rs' g' h1 h2 h3 => (both i k rs' g' h1 h2 h3).1⟩
  exact ⟨B', bell_of Y' B' fun i k rs' g' h1 h2 h3 => (both i k rs' g' h1 h2 h3).2⟩
/-! ### gains so many times -/
def manyG (gs : List (List Rat)) (c : Rat) : List (List Rat) := gs.map fun g => g.map fun q => q * c
theorem mean_mul {r : Row} {c : Rat} : mean n r (fun j => V j * c) = mean n r V * c := by
  unfold mean
  rw [Rat.mul_comm, ← Mx.S_mul]
  exact Mx.S_congr fun j _ => by grind
theorem sumsF_mul {rs : List Row} {g : List Rat} {c : Rat} : sumsF n rs (g.map fun q => q * c) (fun j => V j * c) = (sumsF n rs g V).map fun q => q * c := by
  unfold sumsF
  rw [List.zip_map_right, List.map_map, List.map_map]
  refine List.map_congr_left fun q _ => ?_
  show q.2 * c + mean n q.1 (fun j => V j * c) = (q.2 + mean n q.1 V) * c
  rw [mean_mul]
  grind
theorem many_bell (Y : HG n M gs) {c : Rat} (c0 : 0 < c) (Y' : HG n M (manyG gs c)) (hB : Bell n M gs V) (B : BestPlan n M gs V plan) : BestPlan n M (manyG gs c) (fun j => V j * c) plan ∧ Bell n M (manyG gs c) fun j => V j * c := by
  refine Bell.change Y Y' hB B (fun _ x => x * c) (fun i hi x y hxy => Rat.mul_lt_mul_of_pos_right hxy c0) (fun i rs rs' g g' h1 h2 h3 h4 => ?_) fun i hi => rfl
  rw [h1] at h3
  cases h3
  unfold manyG at h4
  rw [List.getElem?_map, h2] at h4
  have : g.map (fun q => q * c) = g' := Option.some.inj h4
  subst this
  exact sumsF_mul
/-! ### the first move copied -/
def twiceL {α : Type} (l : List α) : List α := if l.length < 3 then l ++ l.take 1 else l
theorem twiceL_map {α β : Type} {f : α → β} {l : List α} : twiceL (l.map f) = (twiceL l).map f := by
  unfold twiceL
  rw [List.length_map]
  by_cases e : l.length < 3
  · rw [if_pos e, if_pos e, List.map_append, List.map_take]
  · rw [if_neg e, if_neg e]
theorem twiceL_mem {α : Type} {l : List α} {x : α} (h : x ∈ twiceL l) : x ∈ l := by
  unfold twiceL at h
  by_cases e : l.length < 3
  · rw [if_pos e] at h
    rcases List.mem_append.mp h with h | h
    · exact h
    · exact List.mem_of_mem_take h
  · rw [if_neg e] at h
    exact h
theorem twiceL_len {α : Type} {l : List α} : l.length ≤ (twiceL l).length ∧ (l.length ≤ 3 → (twiceL l).length ≤ 3) := by
  unfold twiceL
  by_cases e : l.length < 3
  · rw [if_pos e, List.length_append, List.length_take]; omega
  · rw [if_neg e]; omega
theorem twiceL_at {α : Type} {l : List α} {k : Nat} {x : α} (h : l[k]? = some x) : (twiceL l)[k]? = some x := by
  unfold twiceL
  by_cases e : l.length < 3
  · rw [if_pos e, List.getElem?_append_left (List.getElem?_eq_some_iff.mp h).1]; exact h
  · rw [if_neg e]; exact h
theorem twiceL_same {α β : Type} {a : List α} {b : List β} (h : a.length = b.length) : (twiceL a).length = (twiceL b).length := by
  unfold twiceL
  by_cases e : a.length < 3
  · rw [if_pos e, if_pos (by omega), List.length_append, List.length_append, List.length_take, List.length_take, h]
  · rw [if_neg e, if_neg (by omega), h]
theorem twiceL_zip {α β : Type} {a : List α} {b : List β} (h : a.length = b.length) : (twiceL a).zip (twiceL b) = twiceL (a.zip b) := by
  unfold twiceL
  have hz : (a.zip b).length = a.length := by rw [List.length_zip]; omega
  rw [hz]
  by_cases e : a.length < 3
  · rw [if_pos e, if_pos e, if_pos (by omega), List.zip_append h]
    congr 1
    match a, b, h with
    | [], [], _ => rfl
    | x :: a, y :: b, _ => rfl
  · rw [if_neg e, if_neg e, if_neg (by omega)]
theorem Best.twice {qs : List Rat} {k : Nat} (h : Best qs k) : Best (twiceL qs) k := by
  obtain ⟨m, h1, h2, h3⟩ := h
  refine ⟨m, twiceL_at h1, fun p hp => h2 p (twiceL_mem hp), fun j z hj hz => ?_⟩
  have hjl : j < qs.length := Nat.lt_trans hj (List.getElem?_eq_some_iff.mp h1).1
  have e := twiceL_at (List.getElem?_eq_getElem hjl)
  rw [hz] at e
  exact h3 j z hj (by rw [List.getElem?_eq_getElem hjl]; exact e.symm)
theorem sumsF_twice {rs : List Row} {g : List Rat} (h : g.length = rs.length) : sumsF n (twiceL rs) (twiceL g) V = twiceL (sumsF n rs g V) := by
  unfold sumsF
  rw [twiceL_zip h.symm, twiceL_map]
theorem twice_hg (Y : HG n M gs) : HG n (M.map twiceL) (gs.map twiceL) := by
  refine ⟨⟨by rw [List.length_map, Y.h.len], Y.h.n1, Y.h.n8, fun rs hrs => ?_, fun rs hrs r hr => ?_⟩, Y.n4, ⟨by rw [List.length_map, List.length_map]; exact Y.p.1, fun i rs g h1 h2 => ?_⟩, fun g hg q hq => ?_⟩
  · obtain ⟨rs0, h0, rfl⟩ := List.mem_map.mp hrs
    obtain ⟨a, b⟩ := Y.h.some_ rs0 h0
    obtain ⟨c, d⟩ := twiceL_len (l := rs0)
    exact ⟨by omega, d b⟩
  · obtain ⟨rs0, h0, rfl⟩ := List.mem_map.mp hrs
    exact Y.h.row rs0 h0 r (twiceL_mem hr)
  · rw [List.getElem?_map] at h1 h2
    obtain ⟨rs0, a, rfl⟩ := Option.map_eq_some_iff.mp h1
    obtain ⟨g0, b, rfl⟩ := Option.map_eq_some_iff.mp h2
    exact twiceL_same (Y.p.2 i rs0 g0 a b)
  · obtain ⟨g0, h0, rfl⟩ := List.mem_map.mp hg
    exact Y.g g0 h0 q (twiceL_mem hq)
theorem twice_bell (Y : HG n M gs) (hB : Bell n M gs V) (B : BestPlan n M gs V plan) : BestPlan n (M.map twiceL) (gs.map twiceL) V plan ∧ Bell n (M.map twiceL) (gs.map twiceL) V := by
  refine Bell.sums Y (twice_hg Y) hB B fun i k rs rs' g g' h1 h2 h3 h4 b v => ?_
  rw [List.getElem?_map, h1] at h3
  rw [List.getElem?_map, h2] at h4
  have e1 : twiceL rs = rs' := Option.some.inj h3
  have e2 : twiceL g = g' := Option.some.inj h4
  subst e1 e2
  rw [sumsF_twice (Y.p.2 i rs g h1 h2)]
  exact ⟨b.twice, twiceL_at v⟩
/-! ### what a flow brings -/
theorem flow_gain (Y : HG n M gs) (P : PlanOk M plan) {s F : Nat → Rat} (hV : Val n (rowsF M plan) (gainsF gs plan) V) (hF : Flw n (rowsF M plan) s F) : S n (fun i => F i * (gainsF gs plan).getD i 0) = S n fun j => V j * s j := by
  have e1 : S n (fun i => F i * (gainsF gs plan).getD i 0) = S n fun i => F i * (V i - S n fun j => pq (rowAt (rowsF M plan) i) j * V j) := Mx.S_congr fun i hi => by
    have := hV i hi
    grind
  rw [e1, dual]
  exact Mx.S_congr fun j hj => by rw [hF j hj]
theorem dot_rowP {m k : Nat} {x : Rat} {g : List Rat} (hg : g.length = m) (hk : k < m) : sumR (((rowP m k x).zip g).map fun z => z.1 * z.2) = x * g.getD k 0 := by
  have e : g = (List.range m).map fun i => g.getD i 0 := list_rng hg
  have e2 : ((rowP m k x).zip g).map (fun z => z.1 * z.2) = (List.range m).map fun i => (if i = k then x else 0) * g.getD i 0 := by
    conv => lhs; rw [e]
    unfold rowP
    rw [zip_mm, List.map_map]
    rfl
  rw [e2, sumR_S, Mx.S_one hk fun i _ hne => by rw [if_neg hne, Rat.zero_mul], if_pos rfl]
theorem flow_dots (Y : HG n M gs) (P : PlanOk M plan) {s F : Nat → Rat} (hV : Val n (rowsF M plan) (gainsF gs plan) V) (hF : Flw n (rowsF M plan) s F) :
    sumR (((flowP n M plan F).zip gs).map fun q => sumR ((q.1.zip q.2).map fun z => z.1 * z.2)) = S n fun j => V j * s j := by
  rw [← flow_gain Y P hV hF]
  have e : gs = (List.range n).map fun i => gs.getD i [] := list_rng (by rw [Y.p.1, Y.h.len])
  have e2 : ((flowP n M plan F).zip gs).map (fun q => sumR ((q.1.zip q.2).map fun z => z.1 * z.2)) = (List.range n).map fun i => F i * (gainsF gs plan).getD i 0 := by
    conv => lhs; rw [e]
    rw [flowP_eq, zip_mm, List.map_map]
    refine List.map_congr_left fun i hi => ?_
    have hi : i < n := by simpa using hi
    have ma : i < M.length := by rw [Y.h.len]; exact hi
    have h1 : M[i]? = some M[i] := List.getElem?_eq_getElem ma
    have ga : i < gs.length := by rw [Y.p.1, Y.h.len]; exact hi
    have pa : i < plan.length := by rw [P.1, Y.h.len]; exact hi
    have h2 : gs[i]? = some gs[i] := List.getElem?_eq_getElem ga
    have h3 : plan[i]? = some plan[i] := List.getElem?_eq_getElem pa
    have hk := P.2 i _ _ h1 h3
    show sumR (((rowP (M.getD i []).length (plan.getD i 0) (F i)).zip (gs.getD i [])).map fun z => z.1 * z.2) = _
    rw [getD_of h1, getD_of h2, getD_of h3, dot_rowP (Y.p.2 i _ _ h1 h2) hk]
    congr 1
    unfold gainsF
    have e : (gs.zip plan)[i]? = some (gs[i], plan[i]) := by rw [List.getElem?_zip_eq_some]; exact ⟨h2, h3⟩
    exact (getD_of (by rw [List.getElem?_map, e]; rfl)).symm
  rw [e2, sumR_S]
end
end Wk
end
section
set_option Elab.async false
set_option linter.all false
set_option maxRecDepth 100000
set_option exponentiation.threshold 100
/-! D44: _law_right, cut into parts (the parts' readings printed by mksplit.py). -/
namespace Wk
open PySem PySem.Spec L3
local macro_rules | `(tactic| walk_at "dv") => `(tactic| simp only [q_dDef, q_sh0, List.map_cons, List.map_nil, List.cons_append, List.nil_append, q_dSq, q_dNext, q_dSet, q_dSetF, q_dSetO, q_dRet, q_dRetN, q_dIfS, q_dNever, q_dWhile, q_dFor, q_dPar, q_dAsg, q_dDrop,
  q_dFrz, q_dApp, q_dAppF, q_dPut, q_dPutF, q_dAttrN, q_dAttrFN, q_dFldN,
  List.getElem?_cons_zero, List.getElem?_cons_succ, List.set_cons_zero, List.set_cons_succ, q_setS0, q_setSc, q_setSs0, q_setSsc, q_setD0, q_setDc, q_wipe0, q_wipec,
  shOf_nil, shOf_c, shO_n, shO_s, shO_o, shO_i, alOf_nil, alOf_c, alO_n, alO_s, alO_o, alO_i, dVar_0, dVar_s, q_dC, q_dBin, q_dBinL, q_dTest, q_dChain, q_dNot, q_dNotV, q_dAnd, q_dAndV, q_dOr, q_dOrV, q_dIf, q_dNeg, q_dCall, q_dCallL, q_dCons, q_dNil, q_dStar, q_dLst, q_dTup, q_dLen, q_dxCons, q_dxNil, q_dxP, q_dxO, q_dYes,
  asInt_int, asBl_bl, asSeq_l, asSeq_t, asLst_l, asTup_t, asObj_o, arg1_, arg2_, arg3_, q_gDef, q_gMake, q_gI0, q_gI, gEq_int, gNe_int, q_gLen, q_gAbs, q_gMax2, q_gMin2, q_gInt_i, q_gInt_b, q_gTuple, q_gList, gIx_0, gIx_1, gIx_0l, gIx_1l, q_gCatL, q_gRepL, q_gCatT, q_gRepT, isi_, isi_int_int, isi_bool_int, isi_tup_tup, isiT_, isiT_lst, isiT_tup, isC_, isCK_o, q_dSeqI, q_dEnumI, q_dZip2, q_dZip3, q_dRng1, q_dRng2, q_dLc, q_gIsB, q_gNotB, q_dSlL, q_dSlT, q_dNoP, q_dSoP,
  List.length_cons, List.length_nil, true_and, and_true, Bool.not_true, Bool.not_false, if_true, Bool.false_eq_true, if_false])
local macro_rules | `(tactic| walk_at "dh") => `(tactic| ((try simp only [fM_eq, fN_eq]); repeat (first | walk_at "dv" | simp only [q_dMv, q_dNv, fMoves_h, fMany_h, isCK_h, asSeq_rT])))
local macro_rules | `(tactic| walk_at "dd") => `(tactic| repeat (first | walk_at "dv" | simp only [q_dDrN, q_dDrC, q_dPop, q_dDput, q_dScrI, q_dLenS]))
local macro_rules | `(tactic| walk_at "dw") => `(tactic| ((try simp only [fM_eq, fN_eq, fR_eq]); repeat (first | walk_at "dv" | simp only [q_dMv, q_dNv, fMoves_h, fMany_h, isCK_h, asSeq_rT, q_dRw, fRows_w, isCK_w])))
open Mx (S Sub)
def tr5 : DS := dRet (dBin gEq (dCall (gDef 1 p__law_total) (dCons (dLst (dLc (dZip2 (dCons (dCall (gDef 3 p_flow_of) (dCons (dVar 5) (dCons (dVar 9) (dCons (dBin gIx (dVar 8) (dC (.int 1))) (dNil))))) (dCons (dVar 4) (dNil)))) (dTp (dsCons (dNm 17) (dsCons (dNm 19) (dsNil)))) (dYes) (dCall (gDef 2 p__law_dot) (dCons (dVar 17) (dCons (dVar 19) (dNil)))) [17, 19])) (dNil))) (dCall (gDef 2 p__law_dot) (dCons (dCall (gDef 1 p__law_parts) (dCons (dVar 9) (dNil))) (dCons (dBin gIx (dVar 8) (dC (.int 0))) (dNil)))))
def tr4 : DS := dSq (dSet 15 (dCall (gMake 1 1 p_House_init_) (dCons (dLst (dLc (dSeqI (dVar 1)) (dNm 18) (dYes) (dIf (dTest (dBin gLt (dCall gLen (dCons (dVar 18) (dNil))) (dC (.int 3)))) (dLst (dBinL gCatL (dVar 18) (dLst (dSlL (dVar 18) (dNoP) (dSoP (dC (.int 1))))))) (dVar 18)) [18])) (dNil)))) (dSq (dSet 16 (dCall gTuple (dCons (dLst (dLc (dSeqI (dVar 4)) (dNm 17) (dYes) (dIf (dTest (dBin gLt (dCall gLen (dCons (dVar 17) (dNil))) (dC (.int 3)))) (dBin gCatT (dVar 17) (dSlT (dVar 17) (dNoP) (dSoP (dC (.int 1))))) (dVar 17)) [17])) (dNil)))) (dSq (dIfS (dOr (dTest (dBin gNe (dCall (gDef 2 p_most) (dCons (dVar 15) (dCons (dVar 16) (dNil)))) (dBin gIx (dVar 8) (dC (.int 0))))) (dTest (dBin gNe (dCall (gDef 2 p_best_plan) (dCons (dVar 15) (dCons (dVar 16) (dNil)))) (dBin gIx (dVar 8) (dC (.int 1)))))) (dRet (dC (.bl false))) (dNext)) (tr5)))
def tr3 : DS := dSq (dSet 13 (dCall (gDef 2 p__law_pick) (dCons (dVar 0) (dCons (dLst (dLen (dCons (dTup (dCons (dC (.int 1)) (dCons (dC (.int 2)) (dNil)))) (dCons (dTup (dCons (dC (.int 3)) (dCons (dC (.int 1)) (dNil)))) (dCons (dTup (dCons (dC (.int 7)) (dCons (dC (.int 5)) (dNil)))) (dNil)))))) (dNil))))) (dSq (dSet 14 (dCall gTuple (dCons (dLst (dLc (dSeqI (dVar 4)) (dNm 17) (dYes) (dCall gTuple (dCons (dLst (dLc (dSeqI (dVar 17)) (dNm 19) (dYes) (dCall (gDef 2 p__law_times) (dCons (dVar 19) (dCons (dVar 13) (dNil)))) [19])) (dNil))) [17])) (dNil)))) (dSq (dIfS (dOr (dTest (dBin gNe (dCall (gDef 2 p_most) (dCons (dVar 5) (dCons (dVar 14) (dNil)))) (dCall gTuple (dCons (dLst (dLc (dSeqI (dBin gIx (dVar 8) (dC (.int 0)))) (dNm 20) (dYes) (dCall (gDef 2 p__law_times) (dCons (dVar 20) (dCons (dVar 13) (dNil)))) [20])) (dNil))))) (dTest (dBin gNe (dCall (gDef 2 p_best_plan) (dCons (dVar 5) (dCons (dVar 14) (dNil)))) (dBin gIx (dVar 8) (dC (.int 1)))))) (dRet (dC (.bl false))) (dNext)) (tr4)))
def tr2 : DS := dSq (dSet 11 (dCall (gDef 3 p_flow_of) (dCons (dVar 5) (dCons (dVar 9) (dCons (dVar 10) (dNil)))))) (dSq (dSet 12 (dCall gTuple (dCons (dLst (dLc (dZip2 (dCons (dVar 11) (dCons (dCall (gDef 1 p__law_longer) (dCons (dVar 3) (dNil))) (dNil)))) (dTp (dsCons (dNm 17) (dsCons (dNm 13) (dsNil)))) (dYes) (dCall gTuple (dCons (dLst (dLc (dSeqI (dVar 17)) (dNm 20) (dYes) (dCall (gDef 2 p__law_times) (dCons (dVar 20) (dCons (dVar 13) (dNil)))) [20])) (dNil))) [17, 13])) (dNil)))) (dSq (dIfS (dOr (dTest (dBin gNe (dCall (gDef 3 p_flow_of) (dCons (dVar 6) (dCons (dVar 9) (dCons (dVar 10) (dNil))))) (dVar 12))) (dTest (dBin gNotB (dCall (gDef 3 p_is_flow) (dCons (dVar 6) (dCons (dVar 9) (dCons (dVar 12) (dNil))))) (dC (.bl true))))) (dRet (dC (.bl false))) (dNext)) (tr3)))
def tr1 : DS := dSq (dPar [9, 10] (dxCons (dxP (dCall (gDef 2 p__law_some_share) (dCons (dVar 0) (dCons (dVar 2) (dNil))))) (dxCons (dxP (dCall gTuple (dCons (dLst (dLc (dSeqI (dVar 1)) (dNm 18) (dYes) (dCall (gDef 2 p__law_take) (dCons (dVar 0) (dCons (dCall gLen (dCons (dVar 18) (dNil))) (dNil)))) [18])) (dNil)))) (dxNil)))) (dSq (dIfS (dTest (dBin (gNeC 0 p_Walk_eq_) (dCall (gDef 2 p_walk_of) (dCons (dVar 6) (dCons (dVar 10) (dNil)))) (dCall (gMake 0 1 p_Walk_init_) (dCons (dCall (gDef 2 p__law_slow) (dCons (dCall (gDef 1 p__law_rows_of) (dCons (dCall (gDef 2 p_walk_of) (dCons (dVar 5) (dCons (dVar 10) (dNil)))) (dNil))) (dCons (dVar 3) (dNil)))) (dNil))))) (dRet (dC (.bl false))) (dNext)) (tr2))
theorem tr_eq : t__law_right = dSq (dSet 1 (dCall (gDef 1 p__law_house) (dCons (dVar 0) (dNil)))) (dSq (dSet 2 (dCall gLen (dCons (dVar 1) (dNil)))) (dSq (dPar [3, 4] (dxCons (dxP (dCall (gDef 2 p__law_stays) (dCons (dVar 0) (dCons (dVar 2) (dNil))))) (dxCons (dxP (dCall (gDef 2 p__law_gain) (dCons (dVar 0) (dCons (dVar 1) (dNil))))) (dxNil)))) (dSq (dPar [5, 6] (dxCons (dxP (dCall (gMake 1 1 p_House_init_) (dCons (dVar 1) (dNil)))) (dxCons (dxP (dCall (gMake 1 1 p_House_init_) (dCons (dCall (gDef 2 p__law_slow_moves) (dCons (dVar 1) (dCons (dVar 3) (dNil)))) (dNil)))) (dxNil)))) (dSq (dSet 7 (dCall gTuple (dCons (dLst (dLc (dZip2 (dCons (dVar 4) (dCons (dCall (gDef 1 p__law_shorter) (dCons (dVar 3) (dNil))) (dNil)))) (dTp (dsCons (dNm 17) (dsCons (dNm 13) (dsNil)))) (dYes) (dCall gTuple (dCons (dLst (dLc (dSeqI (dVar 17)) (dNm 19) (dYes) (dCall (gDef 2 p__law_times) (dCons (dVar 19) (dCons (dVar 13) (dNil)))) [19])) (dNil))) [17, 13])) (dNil)))) (dSq (dSet 8 (dLst (dLen (dCons (dCall (gDef 2 p_most) (dCons (dVar 5) (dCons (dVar 4) (dNil)))) (dCons (dCall (gDef 2 p_best_plan) (dCons (dVar 5) (dCons (dVar 4) (dNil)))) (dNil)))))) (dSq (dIfS (dOr (dTest (dBin gNe (dLst (dLen (dCons (dCall (gDef 2 p_most) (dCons (dVar 6) (dCons (dVar 7) (dNil)))) (dCons (dCall (gDef 2 p_best_plan) (dCons (dVar 6) (dCons (dVar 7) (dNil)))) (dNil))))) (dVar 8))) (dTest (dBin gNotB (dCall (gDef 3 p_is_most_paper) (dCons (dVar 6) (dCons (dVar 7) (dCons (dTup (dCons (dBin gIx (dVar 8) (dC (.int 0))) (dCons (dBin gIx (dVar 8) (dC (.int 1))) (dNil)))) (dNil))))) (dC (.bl true))))) (dRet (dC (.bl false))) (dNext)) (tr1))))))) := rfl
theorem asSeq_mv {M : List (List Row)} {k : List L3.D → Prop} : asSeq (encMoves M) k = k (M.map encRsL) := propext Iff.rfl
theorem asSeq_rL {rs : List Row} {k : List L3.D → Prop} : asSeq (encRsL rs) k = k (rs.map encRow) := propext Iff.rfl
theorem asLst_rL {rs : List Row} {k : List L3.D → Prop} : asLst (encRsL rs) k = k (rs.map encRow) := propext Iff.rfl
theorem asSeq_pt {gs : List (List Rat)} {k : List L3.D → Prop} : asSeq (encParts gs) k = k (gs.map fun g => .tup (g.map rt)) := propext Iff.rfl
def fieldsH (M : List (List Row)) : List L3.D := [.tup (M.map encRsT), .int (M.length : Int)]
theorem objH {M : List (List Row)} : L3.D.obj 1 (fieldsH M) = encHouse M := rfl
theorem House_in {n b : Nat} {M M' : List (List Row)} (H : HouseOk n b M) (hb : b ≤ 4000) (e : M' = M.map fun rs => rs.map lp) {R : List L3.D → Prop} (q : R (fieldsH M')) : p_House_init_ [encMoves M] R := by
  subst e
  have := House_ok H hb (Q := fun d => asObj d fun _ fs => R fs) q
  rw [q_gMake] at this
  exact this.2
def fieldsW (rows : List Row) : List L3.D := [.tup (rows.map encRow), .int (rows.length : Int)]
theorem objW {rows : List Row} : L3.D.obj 0 (fieldsW rows) = encWalk rows := rfl
theorem Walk_in {n b : Nat} {rows rows' : List Row} (hn : 1 ≤ n) (hn8 : n ≤ 8) (hl : rows.length = n) (hr : ∀ r ∈ rows, RowOk n b r) (hb : b ≤ 4000) (e : rows' = rows.map lp) {R : List L3.D → Prop} (q : R (fieldsW rows')) : p_Walk_init_ [.lst (rows.map encRow)] R := by
  subst e
  have := Walk_ok (Q := fun d => asObj d fun _ fs => R fs) (.inl rfl) hn hn8 hl hr hb q
  rw [q_gMake] at this
  exact this.2
local macro_rules | `(tactic| walk_at "dz") => `(tactic| ((try simp only [fM_eq, fN_eq, fR_eq]); repeat (first | walk_at "dv" | simp only [q_dMv, q_dNv, fMoves_h, fMany_h, isCK_h, asSeq_rT, q_dRw, fRows_w, isCK_w, asSeq_mv, asSeq_rL, asLst_rL, asSeq_pt, objH, objW])))
theorem lateG_eq {gs : List (List Rat)} {st : List (Int × Int)} : lateG gs st = scaleP gs (st.map shorter) := by
  unfold lateG scaleP
  rw [List.zip_map_right, List.map_map]
  rfl
section
variable {n : Nat} {M0 : List (List Row)} {st : List (Int × Int)} {gs : List (List Rat)}
theorem Drawn.slowH (Y : Drawn n M0 st gs) : HouseOk n 8 (slowM M0 st) := by
  have at_ : ∀ {rs'}, rs' ∈ slowM M0 st → ∃ i, i < n ∧ ∃ rs ∈ M0, ∃ p ∈ st, rs' = rs.map fun r => slowRow r p i := fun {rs'} h => by
    unfold slowM at h
    obtain ⟨i, hi, rfl⟩ := List.mem_map.mp h
    have hk : i < M0.length := by simpa using hi
    have hs : i < st.length := by rw [Y.sl, ← Y.h.len]; exact hk
    exact ⟨i, by rw [← Y.h.len]; exact hk, M0[i], List.getElem_mem hk, st[i], List.getElem_mem hs, by rw [getD_of (List.getElem?_eq_getElem hk), getD_of (List.getElem?_eq_getElem hs)]⟩
  refine ⟨by unfold slowM; simp [Y.h.len], Y.h.n1, Y.h.n8, fun rs' hrs => ?_, fun rs' hrs r' hr => ?_⟩
  · obtain ⟨i, hi, rs, a, p, b, rfl⟩ := at_ hrs
    rw [List.length_map]
    exact Y.h.some_ rs a
  · obtain ⟨i, hi, rs, a, p, b, rfl⟩ := at_ hrs
    obtain ⟨r, hr', rfl⟩ := List.mem_map.mp hr
    exact (slow_row (Y.h.row rs a r hr') (Y.t rs a r hr') (Y.st p b) hi).1
theorem lp_le {r : Row} {b : Nat} (R : RowOk n b r) : (lp r).1 ≤ r.1 := by
  obtain ⟨R', g, g0, e1, e2⟩ := lp_ok R
  have := R'.pos
  rw [e1]
  have : 1 * (lp r).1 ≤ g * (lp r).1 := Int.mul_le_mul_of_nonneg_right (by omega) (by omega)
  omega
/-- the walk of a plan, slowed, is that of the slowed house -/
theorem Drawn.walk (Y : Drawn n M0 st gs) {plan : List Nat} (P : PlanOk (houseM M0) plan) :
    (rowsF (lateM M0 st) plan).map lp = ((List.range n).map fun i => slowRow (rowAt ((rowsF (houseM M0) plan).map lp) i) (st.getD i (0, 1)) i).map lp ∧
    ∀ i, i < n → RowOk n 5 (rowAt ((rowsF (houseM M0) plan).map lp) i) ∧ (rowAt ((rowsF (houseM M0) plan).map lp) i).1 ≤ 23 := by
  obtain ⟨h1, h2⟩ := rowsF_ok Y.house.h P
  obtain ⟨l1, l2⟩ := rowsF_ok Y.late.h (Y.planL P)
  have key : ∀ i, i < n → ∃ r p, RowOk n 5 r ∧ r.1 ≤ 23 ∧ StayOk p ∧ st.getD i (0, 1) = p ∧ rowAt ((rowsF (houseM M0) plan).map lp) i = lp (lp r) ∧ (rowsF (lateM M0 st) plan)[i]? = some (lp (slowRow r p i)) := fun i hi => by
    obtain ⟨rs, r, p, hm, hr, hp, so, e1, e2⟩ := Y.row_at P hi
    refine ⟨r, p, Y.h.row rs hm r hr, Y.t rs hm r hr, so, getD_of hp, ?_, ?_⟩
    · have : (rowsF (houseM M0) plan)[i]? = some (lp r) := by
        rw [List.getElem?_eq_getElem (by rw [h1]; exact hi)]
        rw [← e1]
        unfold rowAt
        rw [getD_of (List.getElem?_eq_getElem (by rw [h1]; exact hi))]
      unfold rowAt
      exact getD_of (by rw [List.getElem?_map, this]; rfl)
    · rw [List.getElem?_eq_getElem (by rw [l1]; exact hi), ← e2]
      unfold rowAt
      rw [getD_of (List.getElem?_eq_getElem (by rw [l1]; exact hi))]
  have ok : ∀ i, i < n → RowOk n 5 (rowAt ((rowsF (houseM M0) plan).map lp) i) ∧ (rowAt ((rowsF (houseM M0) plan).map lp) i).1 ≤ 23 := fun i hi => by
    obtain ⟨r, p, R, t23, so, ep, e1, e2⟩ := key i hi
    rw [e1]
    have A := (lp_ok R).1
    have B := (lp_ok A).1
    exact ⟨B, Int.le_trans (lp_le A) (Int.le_trans (lp_le R) t23)⟩
  refine ⟨?_, ok⟩
  apply List.ext_getElem?
  intro i
  by_cases hi : i < n
  · obtain ⟨r, p, R, t23, so, ep, e1, e2⟩ := key i hi
    obtain ⟨B, b23⟩ := ok i hi
    rw [e1] at B b23
    rw [List.getElem?_map, e2, List.getElem?_map, List.getElem?_map, List.getElem?_range hi]
    show some (lp (lp (slowRow r p i))) = some (lp (slowRow _ _ i))
    rw [e1, ep]
    obtain ⟨S1, q1⟩ := slow_row R t23 so hi
    obtain ⟨S2, q2⟩ := slow_row B b23 so hi
    congr 1
    refine lp_eq (lp_ok S1).1 S2 fun j hj => ?_
    rw [pq_lp S1, q1 j hj, q2 j hj, pq_lp (lp_ok R).1, pq_lp R]
  · rw [List.getElem?_eq_none (by rw [List.length_map, l1]; omega), List.getElem?_eq_none (by simp; omega)]
end
end Wk
end
section
set_option Elab.async false
set_option linter.all false
set_option maxRecDepth 100000
set_option exponentiation.threshold 100
/-! D45: _law_right's last part: what a flow brings is the start's worth. -/
namespace Wk
open PySem PySem.Spec L3
local macro_rules | `(tactic| walk_at "dv") => `(tactic| simp only [q_dDef, q_sh0, List.map_cons, List.map_nil, List.cons_append, List.nil_append, q_dSq, q_dNext, q_dSet, q_dSetF, q_dSetO, q_dRet, q_dRetN, q_dIfS, q_dNever, q_dWhile, q_dFor, q_dPar, q_dAsg, q_dDrop,
  q_dFrz, q_dApp, q_dAppF, q_dPut, q_dPutF, q_dAttrN, q_dAttrFN, q_dFldN,
  List.getElem?_cons_zero, List.getElem?_cons_succ, List.set_cons_zero, List.set_cons_succ, q_setS0, q_setSc, q_setSs0, q_setSsc, q_setD0, q_setDc, q_wipe0, q_wipec,
  shOf_nil, shOf_c, shO_n, shO_s, shO_o, shO_i, alOf_nil, alOf_c, alO_n, alO_s, alO_o, alO_i, dVar_0, dVar_s, q_dC, q_dBin, q_dBinL, q_dTest, q_dChain, q_dNot, q_dNotV, q_dAnd, q_dAndV, q_dOr, q_dOrV, q_dIf, q_dNeg, q_dCall, q_dCallL, q_dCons, q_dNil, q_dStar, q_dLst, q_dTup, q_dLen, q_dxCons, q_dxNil, q_dxP, q_dxO, q_dYes,
  asInt_int, asBl_bl, asSeq_l, asSeq_t, asLst_l, asTup_t, asObj_o, arg1_, arg2_, arg3_, q_gDef, q_gMake, q_gI0, q_gI, gEq_int, gNe_int, q_gLen, q_gAbs, q_gMax2, q_gMin2, q_gInt_i, q_gInt_b, q_gTuple, q_gList, gIx_0, gIx_1, gIx_0l, gIx_1l, q_gCatL, q_gRepL, q_gCatT, q_gRepT, isi_, isi_int_int, isi_bool_int, isi_tup_tup, isiT_, isiT_lst, isiT_tup, isC_, isCK_o, q_dSeqI, q_dEnumI, q_dZip2, q_dZip3, q_dRng1, q_dRng2, q_dLc, q_gIsB, q_gNotB, q_dSlL, q_dSlT, q_dNoP, q_dSoP,
  List.length_cons, List.length_nil, true_and, and_true, Bool.not_true, Bool.not_false, if_true, Bool.false_eq_true, if_false])
local macro_rules | `(tactic| walk_at "dh") => `(tactic| ((try simp only [fM_eq, fN_eq]); repeat (first | walk_at "dv" | simp only [q_dMv, q_dNv, fMoves_h, fMany_h, isCK_h, asSeq_rT])))
local macro_rules | `(tactic| walk_at "dd") => `(tactic| repeat (first | walk_at "dv" | simp only [q_dDrN, q_dDrC, q_dPop, q_dDput, q_dScrI, q_dLenS]))
local macro_rules | `(tactic| walk_at "dw") => `(tactic| ((try simp only [fM_eq, fN_eq, fR_eq]); repeat (first | walk_at "dv" | simp only [q_dMv, q_dNv, fMoves_h, fMany_h, isCK_h, asSeq_rT, q_dRw, fRows_w, isCK_w])))
local macro_rules | `(tactic| walk_at "dz") => `(tactic| ((try simp only [fM_eq, fN_eq, fR_eq]); repeat (first | walk_at "dv" | simp only [q_dMv, q_dNv, fMoves_h, fMany_h, isCK_h, asSeq_rT, q_dRw, fRows_w, isCK_w, asSeq_mv, asSeq_rL, asLst_rL, asSeq_pt, objH, objW])))
open Mx (S Sub)
theorem G1.cd {q : Rat} (h : G1 q) : CD 6 60 q := by
  obtain ⟨a, b⟩ := h
  have d0 := q.den_pos
  have e := Rat.mkRat_self q
  have fin : ∀ m : Nat, 0 < m → m ≤ 6 → q.den * m = 6 → CD 6 60 q := fun m m0 m6 hm => by
    refine ⟨q.num * (m : Int), ?_, ?_⟩
    · conv => lhs; rw [← e]
      rw [← hm, Rat.mkRat_mul_right (by omega)]
    · rw [Int.natAbs_mul, Int.natAbs_natCast]
      exact Nat.mul_le_mul a m6
  rcases (show q.den = 1 ∨ q.den = 2 ∨ q.den = 3 by omega) with h | h | h
  · exact fin 6 (by decide) (by decide) (by rw [h])
  · exact fin 3 (by decide) (by decide) (by rw [h])
  · exact fin 2 (by decide) (by decide) (by rw [h])
theorem dot_cd {D E A B : Nat} {ps qs : List Rat} (hp : ∀ p ∈ ps, CD D A p) (hq : ∀ q ∈ qs, CD E B q) : ∀ z ∈ (ps.zip qs).map (fun z => z.1 * z.2), CD (D * E) (A * B) z := fun z hz => by
  obtain ⟨y, hy, rfl⟩ := List.mem_map.mp hz
  obtain ⟨e1, e2⟩ := List.of_mem_zip hy
  exact (hp _ e1).mul (hq _ e2)
theorem dot_len {ps qs : List Rat} : ((ps.zip qs).map fun z => z.1 * z.2).length ≤ ps.length := by simp; omega
section
variable {n : Nat} {M : List (List Row)} {gs : List (List Rat)} {V F : Nat → Rat} {plan : List Nat} {T : Int} {ss : List Int}
theorem flowP_cd {D : Nat} (hc : ∀ j, j < n → CD D (2 ^ 4400) (F j)) : ∀ g ∈ flowP n M plan F, ∀ q ∈ g, CD D (2 ^ 4400) q := fun g hg q hq => by
  rcases flowP_mem hg hq with rfl | ⟨i, hi, rfl⟩
  · exact CD.zero
  · exact hc i hi
theorem flowP_len (H : HouseOk n 8 M) : ∀ g ∈ flowP n M plan F, g.length ≤ 3 := fun g hg => by
  rw [flowP_eq] at hg
  obtain ⟨i, hi, rfl⟩ := List.mem_map.mp hg
  have hi : i < M.length := by rw [H.len]; simpa using hi
  unfold rowP
  rw [List.length_map, List.length_range, getD_of (List.getElem?_eq_getElem hi)]
  exact (H.some_ _ (List.getElem_mem hi)).2
/-- the worth of the start -/
theorem start_worth (hT : 0 < T) (hl : ss.length = n) : sumR (((ss.map fun z => mkRat z T.toNat).zip ((List.range n).map V)).map fun z => z.1 * z.2) = S n fun j => V j * ((gi ss j : Rat) / (T : Rat)) := by
  have e : ss = (List.range n).map fun i => gi ss i := list_rng hl
  have e2 : ((ss.map fun z => mkRat z T.toNat).zip ((List.range n).map V)).map (fun z => z.1 * z.2) = (List.range n).map fun j => V j * ((gi ss j : Rat) / (T : Rat)) := by
    conv => lhs; rw [e]
    rw [List.map_map, zip_mm, List.map_map]
    refine List.map_congr_left fun j _ => ?_
    show mkRat (gi ss j) T.toNat * V j = _
    have : ((T.toNat : Nat) : Rat) = (T : Rat) := by rw [← Rat.intCast_natCast, Int.toNat_of_nonneg (by omega)]
    rw [Rat.mkRat_eq_div, this, Rat.mul_comm]
  rw [e2, sumR_S]
theorem tr5_ok (Y : HG n M gs) (hG : ∀ g ∈ gs, ∀ q ∈ g, G1 q) (hB : Bell n M gs V) (hz : Vz n V) (B : BestPlan n M gs V plan) (hV : Val n (rowsF M plan) (gainsF gs plan) V) (Z : ShareOk n T ss)
    {Q : DK} {o0 o1 o2 o3 o6 o7 o10 o11 o12 o13 o14 o15 o16 o17 o18 o19 o20 : Option L3.S} (q : Q (.bl true)) :
    tr5 { nx := fun _ => Q .non, rt := Q } [o0, o1, o2, o3, some (.sh (encParts gs)), some (.sh (encHouse M)), o6, o7, some (.sh (.lst [vecD n V, encPlan plan])), some (.sh (encR T ss)), o10, o11, o12, o13, o14, o15, o16, o17, o18, o19, o20] := by
  have P := B.ok Y
  have hn8 := Y.h.n8
  have hn4 := Y.n4
  have tp := Z.pos
  have ts := Z.sm
  unfold tr5
  walk_at "dz"
  refine flow_of_ok Y.h Y.n4 P Z fun F hF ⟨D, D0, D9, hc⟩ => ?_
  walk_at "dz"
  rw [zip_map]
  have hp := flowP_cd (M := M) (plan := plan) hc
  have D9' : D < 2 ^ 4400 := Nat.lt_trans D9 (by decide +kernel)
  have D6 : D * 6 < 2 ^ 4400 := Nat.lt_of_lt_of_le (Nat.mul_lt_mul_of_pos_right D9 (by decide)) (by decide +kernel)
  have fl : (flowP n M plan F).length = n := by rw [flowP_eq, List.length_map, List.length_range]
  have dc : ∀ y ∈ (flowP n M plan F).zip gs, ∀ z ∈ (y.1.zip y.2).map (fun z => z.1 * z.2), CD (D * 6) (2 ^ 4400 * 60) z := fun y hy => by
    obtain ⟨e1, e2⟩ := List.of_mem_zip hy
    exact dot_cd (hp _ e1) fun q hq => (hG _ e2 q hq).cd
  have dl : ∀ y ∈ (flowP n M plan F).zip gs, ((y.1.zip y.2).map fun z => z.1 * z.2).length ≤ 3 := fun y hy => Nat.le_trans dot_len (flowP_len Y.h _ (List.of_mem_zip hy).1)
  have big3 : ∀ k : Nat, k ≤ 3 → 0 + k * (2 ^ 4400 * 60) < 2 ^ 40000 := fun k hk => by
    rw [Nat.zero_add]
    exact Nat.lt_of_le_of_lt (Nat.mul_le_mul_right _ hk) (by decide +kernel)
  refine lc_of (f := fun y => rt (sumR ((y.1.zip y.2).map fun z => z.1 * z.2))) (fun y hy => ⟨_, rfl, fun Q h => ?_⟩) (by simp [fl]; exact line_ok (by omega)) ?_
  · obtain ⟨e1, e2⟩ := List.of_mem_zip hy
    walk_at "dz"
    refine ldot_ok (.inr rfl) (.inr rfl) (Nat.le_trans (flowP_len Y.h _ e1) (by decide)) (fun p hp' => (hp _ e1 p hp').sz D0 D9' (by decide +kernel)) (fun p hp' => (hG _ e2 p hp').cd.sz (by decide) (by decide +kernel) (by decide +kernel)) ?_ h
    exact CD.sumSz (by omega) D6 CD.zero (dc y hy) (big3 _ (dl y hy))
  rw [List.nil_append]
  have zl : ((flowP n M plan F).zip gs).length ≤ 4 := by rw [List.length_zip]; omega
  refine ltotal_ok (qs := ((flowP n M plan F).zip gs).map fun y => sumR ((y.1.zip y.2).map fun z => z.1 * z.2)) (.inl (by rw [List.map_map]; rfl)) ?_ ?_
  · refine CD.sumSz (D := D * 6) (M := 3 * (2 ^ 4400 * 60)) (by omega) D6 (A := 0) CD.zero (fun x hx => ?_) ?_
    · obtain ⟨y, hy, rfl⟩ := List.mem_map.mp hx
      exact (CD.sum (by omega) (dc y hy)).mono (Nat.mul_le_mul_right _ (dl y hy))
    · rw [Nat.zero_add, List.length_map]
      exact Nat.lt_of_le_of_lt (Nat.mul_le_mul_right _ zl) (by decide +kernel)
  walk_at "dz"
  refine lparts_ok Z.pos Z.sm (by rw [Z.len]; omega) ?_
  obtain ⟨DV, V0, V9, hv⟩ := hz
  have pc : ∀ p ∈ ss.map (fun z => mkRat z T.toNat), CD T.toNat (2 ^ 8) p := fun p hp => by
    obtain ⟨z, hz, rfl⟩ := List.mem_map.mp hp
    have := Z.s8 z hz
    exact CD.of (by omega)
  have vc : ∀ p ∈ (List.range n).map V, CD DV (2 ^ 4400) p := fun p hp => by
    obtain ⟨j, hj, rfl⟩ := List.mem_map.mp hp
    exact hv j (by simpa using hj)
  have TD : T.toNat * DV < 2 ^ 4400 := by
    refine Nat.lt_of_lt_of_le (Nat.mul_lt_mul'' (show T.toNat < 2 ^ 8 by omega) V9) (by decide +kernel)
  refine ldot_ok (ps := ss.map fun z => mkRat z T.toNat) (qs := (List.range n).map V) (.inl rfl) (.inr vecD_eq) (by rw [List.length_map, Z.len]; omega) (fun p hp => (pc p hp).sz (by omega) (Nat.lt_of_lt_of_le (show T.toNat < 2 ^ 8 by omega) (by decide +kernel)) (by decide +kernel)) (fun p hp => (vc p hp).sz V0 (Nat.lt_trans V9 (by decide +kernel)) (by decide +kernel)) ?_ ?_
  · refine CD.sumSz (D := T.toNat * DV) (M := 2 ^ 8 * 2 ^ 4400) (Nat.mul_pos (by omega) V0) TD (A := 0) CD.zero (dot_cd pc vc) ?_
    rw [Nat.zero_add]
    refine Nat.lt_of_le_of_lt (Nat.mul_le_mul_right _ (Nat.le_trans dot_len (show (ss.map fun z => mkRat z T.toNat).length ≤ 8 by rw [List.length_map, Z.len]; omega))) (by decide +kernel)
  rw [flow_dots Y P hV hF, start_worth Z.pos Z.len]
  exact gEq_self cp_rt (by decide) q
end
end Wk
end
section
set_option Elab.async false
set_option linter.all false
set_option maxRecDepth 100000
set_option exponentiation.threshold 100
/-! D46: _law_right: the parts with the doubled and the multiplied gains. -/
namespace Wk
open PySem PySem.Spec L3
local macro_rules | `(tactic| walk_at "dv") => `(tactic| simp only [q_dDef, q_sh0, List.map_cons, List.map_nil, List.cons_append, List.nil_append, q_dSq, q_dNext, q_dSet, q_dSetF, q_dSetO, q_dRet, q_dRetN, q_dIfS, q_dNever, q_dWhile, q_dFor, q_dPar, q_dAsg, q_dDrop,
  q_dFrz, q_dApp, q_dAppF, q_dPut, q_dPutF, q_dAttrN, q_dAttrFN, q_dFldN,
  List.getElem?_cons_zero, List.getElem?_cons_succ, List.set_cons_zero, List.set_cons_succ, q_setS0, q_setSc, q_setSs0, q_setSsc, q_setD0, q_setDc, q_wipe0, q_wipec,
  shOf_nil, shOf_c, shO_n, shO_s, shO_o, shO_i, alOf_nil, alOf_c, alO_n, alO_s, alO_o, alO_i, dVar_0, dVar_s, q_dC, q_dBin, q_dBinL, q_dTest, q_dChain, q_dNot, q_dNotV, q_dAnd, q_dAndV, q_dOr, q_dOrV, q_dIf, q_dNeg, q_dCall, q_dCallL, q_dCons, q_dNil, q_dStar, q_dLst, q_dTup, q_dLen, q_dxCons, q_dxNil, q_dxP, q_dxO, q_dYes,
  asInt_int, asBl_bl, asSeq_l, asSeq_t, asLst_l, asTup_t, asObj_o, arg1_, arg2_, arg3_, q_gDef, q_gMake, q_gI0, q_gI, gEq_int, gNe_int, q_gLen, q_gAbs, q_gMax2, q_gMin2, q_gInt_i, q_gInt_b, q_gTuple, q_gList, gIx_0, gIx_1, gIx_0l, gIx_1l, q_gCatL, q_gRepL, q_gCatT, q_gRepT, isi_, isi_int_int, isi_bool_int, isi_tup_tup, isiT_, isiT_lst, isiT_tup, isC_, isCK_o, q_dSeqI, q_dEnumI, q_dZip2, q_dZip3, q_dRng1, q_dRng2, q_dLc, q_gIsB, q_gNotB, q_dSlL, q_dSlT, q_dNoP, q_dSoP,
  List.length_cons, List.length_nil, true_and, and_true, Bool.not_true, Bool.not_false, if_true, Bool.false_eq_true, if_false])
local macro_rules | `(tactic| walk_at "dh") => `(tactic| ((try simp only [fM_eq, fN_eq]); repeat (first | walk_at "dv" | simp only [q_dMv, q_dNv, fMoves_h, fMany_h, isCK_h, asSeq_rT])))
local macro_rules | `(tactic| walk_at "dd") => `(tactic| repeat (first | walk_at "dv" | simp only [q_dDrN, q_dDrC, q_dPop, q_dDput, q_dScrI, q_dLenS]))
local macro_rules | `(tactic| walk_at "dw") => `(tactic| ((try simp only [fM_eq, fN_eq, fR_eq]); repeat (first | walk_at "dv" | simp only [q_dMv, q_dNv, fMoves_h, fMany_h, isCK_h, asSeq_rT, q_dRw, fRows_w, isCK_w])))
local macro_rules | `(tactic| walk_at "dz") => `(tactic| ((try simp only [fM_eq, fN_eq, fR_eq]); repeat (first | walk_at "dv" | simp only [q_dMv, q_dNv, fMoves_h, fMany_h, isCK_h, asSeq_rT, q_dRw, fRows_w, isCK_w, asSeq_mv, asSeq_rL, asLst_rL, asSeq_pt, objH, objW])))
open Mx (S Sub)
theorem cut1 {xs : List L3.D} : cutD xs none (some 1) = xs.take 1 := by
  unfold cutD
  rw [HT.sIx_none, show (1 : Int) = ((1 : Nat) : Int) from rfl, HT.sIx_nat]
  show (xs.drop 0).take (min 1 xs.length - 0) = xs.take 1
  rw [List.drop_zero]
  match xs with
  | [] => rfl
  | x :: xs => rw [Nat.min_eq_left (by simp)]
theorem twiceH {n b : Nat} {M : List (List Row)} (H : HouseOk n b M) : HouseOk n b (M.map twiceL) := by
  refine ⟨by rw [List.length_map, H.len], H.n1, H.n8, fun rs hrs => ?_, fun rs hrs r hr => ?_⟩
  · obtain ⟨rs0, h0, rfl⟩ := List.mem_map.mp hrs
    obtain ⟨a, b⟩ := H.some_ rs0 h0
    obtain ⟨c, d⟩ := twiceL_len (l := rs0)
    exact ⟨by omega, d b⟩
  · obtain ⟨rs0, h0, rfl⟩ := List.mem_map.mp hrs
    exact H.row rs0 h0 r (twiceL_mem hr)
theorem cp_told {n : Nat} {V : Nat → Rat} {plan : List Nat} : Cp 3 (.lst [vecD n V, encPlan plan]) := Cp.lst fun d hd => by
  simp at hd
  rcases hd with rfl | rfl
  · exact cp_vec
  · exact cp_plan.mono (by decide)
section
variable {n : Nat} {M0 : List (List Row)} {gs : List (List Rat)} {V F : Nat → Rat} {plan : List Nat} {T : Int} {ss : List Int}
theorem tr4_ok (H0 : HouseOk n 5 M0) (Y : HG n (houseM M0) gs) (hG : ∀ g ∈ gs, ∀ q ∈ g, G1 q) (hB : Bell n (houseM M0) gs V) (hz : Vz n V) (B : BestPlan n (houseM M0) gs V plan) (hV : Val n (rowsF (houseM M0) plan) (gainsF gs plan) V) (Z : ShareOk n T ss)
    {Q : DK} {o0 o2 o3 o6 o7 o10 o11 o12 o13 o14 o15 o16 o17 o18 o19 o20 : Option L3.S} (q : Q (.bl true)) :
    tr4 { nx := fun _ => Q .non, rt := Q } [o0, some (.sh (encMoves M0)), o2, o3, some (.sh (encParts gs)), some (.sh (encHouse (houseM M0))), o6, o7, some (.sh (.lst [vecD n V, encPlan plan])), some (.sh (encR T ss)), o10, o11, o12, o13, o14, o15, o16, o17, o18, o19, o20] := by
  have hn4 := Y.n4
  have gl : gs.length = n := by rw [Y.p.1, Y.h.len]
  have g3 : ∀ g ∈ gs, g.length ≤ 3 := fun g hg => by
    obtain ⟨i, hi⟩ := List.getElem?_of_mem hg
    have him : i < (houseM M0).length := by rw [← Y.p.1]; exact (List.getElem?_eq_some_iff.mp hi).1
    rw [Y.p.2 i _ g (List.getElem?_eq_getElem him) hi]
    exact (Y.h.some_ _ (List.getElem_mem him)).2
  unfold tr4
  walk_at "dz"
  refine lc_of (f := fun rs => encRsL (twiceL rs)) (fun rs hrs => ⟨_, rfl, fun Q h => ?_⟩) (by simp [H0.len]; exact line_ok (by omega)) ?_
  · have h3 := (H0.some_ rs hrs).2
    walk_at "dz"
    rw [List.length_map]
    by_cases e : rs.length < 3
    · rw [if_pos (decide_eq_true (by omega))]
      walk_at "dz"
      rw [cut1, ← List.map_take, ← List.map_append, List.length_map, List.length_take]
      refine ⟨line_ok (by omega), ?_⟩
      unfold twiceL encRsL at h
      rw [if_pos e] at h
      exact h
    · rw [if_neg (by rw [decide_eq_true_iff]; omega)]
      unfold twiceL at h
      rw [if_neg e] at h
      walk_at "dz"
      exact h
  rw [List.nil_append]
  rw [show (L3.D.lst (M0.map fun rs => encRsL (twiceL rs))) = encMoves (M0.map twiceL) by unfold encMoves; rw [List.map_map]; rfl]
  refine House_in (M' := (houseM M0).map twiceL) (twiceH H0) (by decide) ?_ ?_
  · unfold houseM
    rw [List.map_map, List.map_map]
    exact List.map_congr_left fun rs _ => twiceL_map
  walk_at "dz"
  refine lc_of (f := fun g => L3.D.tup ((twiceL g).map rt)) (fun g hg => ⟨_, rfl, fun Q h => ?_⟩) (by simp [gl]; exact line_ok (by omega)) ?_
  · have h3 := g3 g hg
    walk_at "dz"
    rw [List.length_map]
    by_cases e : g.length < 3
    · rw [if_pos (decide_eq_true (by omega))]
      walk_at "dz"
      rw [cut1, ← List.map_take, ← List.map_append, List.length_map, List.length_take]
      refine ⟨line_ok (by omega), ?_⟩
      unfold twiceL at h
      rw [if_pos e] at h
      exact h
    · rw [if_neg (by rw [decide_eq_true_iff]; omega)]
      unfold twiceL at h
      rw [if_neg e] at h
      walk_at "dz"
      exact h
  rw [List.nil_append]
  walk_at "dz"
  rw [show (L3.D.tup (gs.map fun g => L3.D.tup ((twiceL g).map rt))) = encParts (gs.map twiceL) by unfold encParts; rw [List.map_map]; rfl]
  obtain ⟨B2, hB2⟩ := twice_bell Y hB B
  refine most_is (twice_hg Y) hB2 ?_
  walk_at "dz"
  refine gNe_self cp_vec (by decide) ?_
  walk_at "dz"
  refine best_is (twice_hg Y) hB2 B2 ?_
  walk_at "dz"
  refine gNe_self cp_plan (by decide) ?_
  walk_at "dz"
  exact tr5_ok Y hG hB hz B hV Z q
theorem many_hg (Y : HG n (houseM M0) gs) (hG : ∀ g ∈ gs, ∀ q ∈ g, G1 q) {c : Rat} (c1 : c.num.natAbs ≤ 7 ∧ c.den ≤ 5) : HG n (houseM M0) (manyG gs c) := by
  refine ⟨Y.h, Y.n4, ⟨by unfold manyG; rw [List.length_map]; exact Y.p.1, fun i rs g h1 h2 => ?_⟩, fun g hg q hq => ?_⟩
  · unfold manyG at h2
    rw [List.getElem?_map] at h2
    obtain ⟨g0, e, rfl⟩ := Option.map_eq_some_iff.mp h2
    rw [List.length_map]
    exact Y.p.2 i rs g0 h1 e
  · unfold manyG at hg
    obtain ⟨g0, h0, rfl⟩ := List.mem_map.mp hg
    obtain ⟨x, hx, rfl⟩ := List.mem_map.mp hq
    have := mul_small (hG g0 h0 x hx) c1
    exact ⟨Nat.lt_of_le_of_lt this.1 (by decide), Nat.lt_of_le_of_lt this.2 (by decide)⟩
theorem small_rsz {A B : Nat} {c : Rat} (h : c.num.natAbs ≤ A ∧ c.den ≤ B) (ha : A < 2 ^ 100) (hb : B < 2 ^ 100) : RSz c := ⟨c.den_pos, Nat.lt_of_le_of_lt h.1 (Nat.lt_of_lt_of_le ha (Nat.pow_le_pow_right (by decide) (by decide))), Nat.lt_of_le_of_lt h.2 (Nat.lt_of_lt_of_le hb (Nat.pow_le_pow_right (by decide) (by decide)))⟩
theorem tr3_ok (H0 : HouseOk n 5 M0) (Y : HG n (houseM M0) gs) (hG : ∀ g ∈ gs, ∀ q ∈ g, G1 q) (hB : Bell n (houseM M0) gs V) (hz : Vz n V) (B : BestPlan n (houseM M0) gs V plan) (hV : Val n (rowsF (houseM M0) plan) (gainsF gs plan) V) (Z : ShareOk n T ss)
    {Q : DK} {o2 o3 o6 o7 o10 o11 o12 o13 o14 o15 o16 o17 o18 o19 o20 : Option L3.S} (q : Q (.bl true)) :
    tr3 { nx := fun _ => Q .non, rt := Q } [some (.sh .drw), some (.sh (encMoves M0)), o2, o3, some (.sh (encParts gs)), some (.sh (encHouse (houseM M0))), o6, o7, some (.sh (.lst [vecD n V, encPlan plan])), some (.sh (encR T ss)), o10, o11, o12, o13, o14, o15, o16, o17, o18, o19, o20] := by
  have hn4 := Y.n4
  have gl : gs.length = n := by rw [Y.p.1, Y.h.len]
  have g3 : ∀ g ∈ gs, g.length ≤ 3 := fun g hg => by
    obtain ⟨i, hi⟩ := List.getElem?_of_mem hg
    have him : i < (houseM M0).length := by rw [← Y.p.1]; exact (List.getElem?_eq_some_iff.mp hi).1
    rw [Y.p.2 i _ g (List.getElem?_eq_getElem him) hi]
    exact (Y.h.some_ _ (List.getElem_mem him)).2
  unfold tr3
  walk_at "dz"
  refine ⟨line_ok (by decide), line_ok (by decide), line_ok (by decide), line_ok (by decide), ?_⟩
  refine pick_ok (by simp) (by simp) fun x hx => ?_
  have hc : ∃ c : Rat, x = rt c ∧ 0 < c ∧ c.num.natAbs ≤ 7 ∧ c.den ≤ 5 := by
    simp only [List.mem_cons, List.not_mem_nil, or_false] at hx
    rcases hx with rfl | rfl | rfl
    · exact ⟨mkRat 1 2, rfl, by decide +kernel, by decide +kernel, by decide +kernel⟩
    · exact ⟨mkRat 3 1, rfl, by decide +kernel, by decide +kernel, by decide +kernel⟩
    · exact ⟨mkRat 7 5, rfl, by decide +kernel, by decide +kernel, by decide +kernel⟩
  obtain ⟨c, rfl, c0, c1⟩ := hc
  have cz := small_rsz c1 (by decide) (by decide)
  walk_at "dz"
  refine lc_of (f := fun g => L3.D.tup ((g.map fun x => x * c).map rt)) (fun g hg => ⟨_, rfl, fun Q h => ?_⟩) (by simp [gl]; exact line_ok (by omega)) ?_
  · have h3 := g3 g hg
    walk_at "dz"
    refine lc_of (f := fun x => rt (x * c)) (fun x hx => ⟨_, rfl, fun Q h => ?_⟩) (by simp; exact line_ok (by omega)) ?_
    · walk_at "dz"
      exact rtimes_ok (small_rsz (hG g hg x hx) (by decide) (by decide)) cz h
    rw [List.nil_append]
    walk_at "dz"
    rw [List.map_map] at h
    exact h
  rw [List.nil_append]
  walk_at "dz"
  rw [show (L3.D.tup (gs.map fun g => L3.D.tup ((g.map fun x => x * c).map rt))) = encParts (manyG gs c) by unfold encParts manyG; rw [List.map_map]; rfl]
  have Y2 := many_hg Y hG c1
  obtain ⟨B2, hB2⟩ := many_bell Y c0 Y2 hB B
  refine most_is Y2 hB2 ?_
  rw [vecD_eq (V := V)]
  walk_at "dz"
  refine lc_of (f := fun x => rt (x * c)) (fun x hx => ⟨_, rfl, fun Q h => ?_⟩) (by simp; exact line_ok (by omega)) ?_
  · obtain ⟨j, hj, rfl⟩ := List.mem_map.mp hx
    walk_at "dz"
    exact rtimes_ok (hz.rsz (by simpa using hj)) cz h
  rw [List.nil_append]
  walk_at "dz"
  rw [show (L3.D.tup (((List.range n).map V).map fun x => rt (x * c))) = vecD n (fun j => V j * c) by unfold vecD; rw [List.map_map]; rfl]
  refine gNe_self cp_vec (by decide) ?_
  walk_at "dz"
  refine best_is Y2 hB2 B2 ?_
  walk_at "dz"
  refine gNe_self cp_plan (by decide) ?_
  walk_at "dz"
  rw [← vecD_eq]
  exact tr4_ok H0 Y hG hB hz B hV Z q
end
end Wk
end
section
set_option Elab.async false
set_option linter.all false
set_option maxRecDepth 100000
set_option exponentiation.threshold 100
/-! D47: _law_right, the law. -/
namespace Wk
open PySem PySem.Spec L3
local macro_rules | `(tactic| walk_at "dv") => `(tactic| simp only [q_dDef, q_sh0, List.map_cons, List.map_nil, List.cons_append, List.nil_append, q_dSq, q_dNext, q_dSet, q_dSetF, q_dSetO, q_dRet, q_dRetN, q_dIfS, q_dNever, q_dWhile, q_dFor, q_dPar, q_dAsg, q_dDrop,
  q_dFrz, q_dApp, q_dAppF, q_dPut, q_dPutF, q_dAttrN, q_dAttrFN, q_dFldN,
  List.getElem?_cons_zero, List.getElem?_cons_succ, List.set_cons_zero, List.set_cons_succ, q_setS0, q_setSc, q_setSs0, q_setSsc, q_setD0, q_setDc, q_wipe0, q_wipec,
  shOf_nil, shOf_c, shO_n, shO_s, shO_o, shO_i, alOf_nil, alOf_c, alO_n, alO_s, alO_o, alO_i, dVar_0, dVar_s, q_dC, q_dBin, q_dBinL, q_dTest, q_dChain, q_dNot, q_dNotV, q_dAnd, q_dAndV, q_dOr, q_dOrV, q_dIf, q_dNeg, q_dCall, q_dCallL, q_dCons, q_dNil, q_dStar, q_dLst, q_dTup, q_dLen, q_dxCons, q_dxNil, q_dxP, q_dxO, q_dYes,
  asInt_int, asBl_bl, asSeq_l, asSeq_t, asLst_l, asTup_t, asObj_o, arg1_, arg2_, arg3_, q_gDef, q_gMake, q_gI0, q_gI, gEq_int, gNe_int, q_gLen, q_gAbs, q_gMax2, q_gMin2, q_gInt_i, q_gInt_b, q_gTuple, q_gList, gIx_0, gIx_1, gIx_0l, gIx_1l, q_gCatL, q_gRepL, q_gCatT, q_gRepT, isi_, isi_int_int, isi_bool_int, isi_tup_tup, isiT_, isiT_lst, isiT_tup, isC_, isCK_o, q_dSeqI, q_dEnumI, q_dZip2, q_dZip3, q_dRng1, q_dRng2, q_dLc, q_gIsB, q_gNotB, q_dSlL, q_dSlT, q_dNoP, q_dSoP,
  List.length_cons, List.length_nil, true_and, and_true, Bool.not_true, Bool.not_false, if_true, Bool.false_eq_true, if_false])
local macro_rules | `(tactic| walk_at "dh") => `(tactic| ((try simp only [fM_eq, fN_eq]); repeat (first | walk_at "dv" | simp only [q_dMv, q_dNv, fMoves_h, fMany_h, isCK_h, asSeq_rT])))
local macro_rules | `(tactic| walk_at "dd") => `(tactic| repeat (first | walk_at "dv" | simp only [q_dDrN, q_dDrC, q_dPop, q_dDput, q_dScrI, q_dLenS]))
local macro_rules | `(tactic| walk_at "dw") => `(tactic| ((try simp only [fM_eq, fN_eq, fR_eq]); repeat (first | walk_at "dv" | simp only [q_dMv, q_dNv, fMoves_h, fMany_h, isCK_h, asSeq_rT, q_dRw, fRows_w, isCK_w])))
local macro_rules | `(tactic| walk_at "dz") => `(tactic| ((try simp only [fM_eq, fN_eq, fR_eq]); repeat (first | walk_at "dv" | simp only [q_dMv, q_dNv, fMoves_h, fMany_h, isCK_h, asSeq_rT, q_dRw, fRows_w, isCK_w, asSeq_mv, asSeq_rL, asLst_rL, asSeq_pt, objH, objW])))
open Mx (S Sub)
theorem longer_small {p : Int × Int} (h : StayOk p) : (longer p).num.natAbs ≤ 10 ∧ (longer p).den ≤ 10 := by
  obtain ⟨s0, s1, s2⟩ := h
  exact mkRat_small (by omega) (by omega) (by omega)
section
variable {n : Nat} {M0 : List (List Row)} {st : List (Int × Int)} {gs : List (List Rat)} {V F : Nat → Rat} {plan : List Nat} {T : Int} {ss : List Int}
theorem encParts_scale {gs : List (List Rat)} {ls : List Rat} : L3.D.tup ((gs.zip ls).map fun z => L3.D.tup ((z.1.map fun x => x * z.2).map rt)) = encParts (scaleP gs ls) := by
  unfold encParts scaleP
  rw [List.map_map]
  rfl
theorem tr2_ok (Y : Drawn n M0 st gs) {pl : List Nat} (P : PlanOk (houseM M0) pl) (hB : Bell n (houseM M0) gs V) (hz : Vz n V) (B : BestPlan n (houseM M0) gs V plan) (hV : Val n (rowsF (houseM M0) plan) (gainsF gs plan) V) (Z : ShareOk n T ss)
    {Q : DK} {o2 o7 o11 o12 o13 o14 o15 o16 o17 o18 o19 o20 : Option L3.S} (q : Q (.bl true)) :
    tr2 { nx := fun _ => Q .non, rt := Q } [some (.sh .drw), some (.sh (encMoves M0)), o2, some (.sh (.lst (st.map encP))), some (.sh (encParts gs)), some (.sh (encHouse (houseM M0))), some (.sh (encHouse (lateM M0 st))), o7, some (.sh (.lst [vecD n V, encPlan plan])), some (.sh (encR T ss)), some (.sh (encPlan pl)), o11, o12, o13, o14, o15, o16, o17, o18, o19, o20] := by
  have hn4 := Y.n4
  unfold tr2
  walk_at "dz"
  refine flow_of_ok Y.house.h hn4 P Z fun F hF hFz => ?_
  walk_at "dz"
  refine longer_ok Y.st (by rw [Y.sl]; omega) ?_
  walk_at "dz"
  rw [zip_map]
  obtain ⟨D, D0, D9, hc⟩ := hFz
  have fl : (flowP n (houseM M0) pl F).length = n := by rw [flowP_eq, List.length_map, List.length_range]
  refine lc_of (f := fun z => L3.D.tup ((z.1.map fun x => x * z.2).map rt)) (fun z hz => ⟨_, rfl, fun Q h => ?_⟩) (by simp [fl]; exact line_ok (by omega)) ?_
  · obtain ⟨e1, e2⟩ := List.of_mem_zip hz
    obtain ⟨p, hp, e3⟩ := List.mem_map.mp e2
    have h3 := flowP_len Y.house.h _ e1
    walk_at "dz"
    refine lc_of (f := fun x => rt (x * z.2)) (fun x hx => ⟨_, rfl, fun Q h => ?_⟩) (by simp; exact line_ok (by omega)) ?_
    · walk_at "dz"
      exact rtimes_ok ((flowP_cd hc _ e1 x hx).sz D0 (Nat.lt_trans D9 (by decide +kernel)) (by decide +kernel)) (by rw [← e3]; exact small_rsz (longer_small (Y.st p hp)) (by decide) (by decide)) h
    rw [List.nil_append]
    walk_at "dz"
    rw [List.map_map] at h
    exact h
  rw [List.nil_append]
  walk_at "dz"
  rw [encParts_scale]
  refine flow_of_ok Y.late.h hn4 (Y.planL P) Z fun F' hF' hFz' => ?_
  rw [Y.scaled P hF hF']
  walk_at "dz"
  refine gNe_self cp_parts (by decide) ?_
  walk_at "dz"
  refine is_flow_P Y.late.h hn4 (Y.planL P) Z hF' hFz' ?_
  walk_at "dz"
  rw [decide_eq_true trivial]
  walk_at "dz"
  exact tr3_ok Y.h Y.house Y.g hB hz B hV Z q
theorem tr1_ok (Y : Drawn n M0 st gs) (hB : Bell n (houseM M0) gs V) (hz : Vz n V) (B : BestPlan n (houseM M0) gs V plan) (hV : Val n (rowsF (houseM M0) plan) (gainsF gs plan) V)
    {Q : DK} {o7 o9 o10 o11 o12 o13 o14 o15 o16 o17 o18 o19 o20 : Option L3.S} (q : Q (.bl true)) :
    tr1 { nx := fun _ => Q .non, rt := Q } [some (.sh .drw), some (.sh (encMoves M0)), some (.sh (.int (n : Int))), some (.sh (.lst (st.map encP))), some (.sh (encParts gs)), some (.sh (encHouse (houseM M0))), some (.sh (encHouse (lateM M0 st))), o7, some (.sh (.lst [vecD n V, encPlan plan])), o9, o10, o11, o12, o13, o14, o15, o16, o17, o18, o19, o20] := by
  have hn4 := Y.n4
  have n1 := Y.h.n1
  unfold tr1
  walk_at "dz"
  refine share_ok n1 (by omega) fun T ss Z => ?_
  walk_at "dz"
  refine lc_draw (out := fun (k : Nat) => L3.D.int (k : Int)) (R := fun (rs : List Row) (k : Nat) => k < rs.length) (fun rs hrs => ⟨_, rfl, fun Q h => ?_⟩) (by simp [Y.h.len]; exact line_ok (by omega)) fun pl hl hr => ?_
  · obtain ⟨r1, r3⟩ := Y.h.some_ rs hrs
    walk_at "dz"
    rw [List.length_map]
    refine take_ok (by omega) (by omega) fun r h1 h2 => ?_
    obtain ⟨k, rfl⟩ : ∃ k : Nat, r = (k : Int) := ⟨r.toNat, by omega⟩
    exact h k (by omega)
  rw [List.nil_append]
  have P : PlanOk (houseM M0) pl := ⟨by rw [hl]; unfold houseM; rw [List.length_map], fun i rs k h1 h2 => by
    unfold houseM at h1
    rw [List.getElem?_map] at h1
    obtain ⟨rs0, e, rfl⟩ := Option.map_eq_some_iff.mp h1
    rw [List.length_map]
    exact hr i rs0 k e h2⟩
  rw [show pl.map (fun (k : Nat) => L3.D.int (k : Int)) = pl.map fun (k : Nat) => L3.D.int (k : Int) from rfl]
  walk_at "dz"
  rw [show (L3.D.tup (pl.map fun (k : Nat) => L3.D.int (k : Int))) = encPlan pl from rfl]
  obtain ⟨w1, w2⟩ := Y.walk P
  refine walk_of_ok Y.late.h (Y.planL P) (by decide) ?_
  rw [w1]
  refine walk_of_ok Y.house.h P (by decide) ?_
  obtain ⟨h1, h2⟩ := rowsF_ok Y.house.h P
  refine lrows_of_ok (by rw [List.length_map, h1]; omega) ?_
  refine slow_ok (n := n) (b := 5) (by omega) (by rw [List.length_map, h1]) Y.sl (fun r hr => ?_) (by decide) Y.st ?_
  · obtain ⟨i, hi⟩ := List.getElem?_of_mem hr
    have hin : i < n := by
      have := (List.getElem?_eq_some_iff.mp hi).1
      rw [List.length_map, h1] at this
      exact this
    have := (w2 i hin).1
    unfold rowAt at this
    rw [getD_of hi] at this
    exact this
  rw [show (List.range n).map (fun i => encRow (slowRow (rowAt ((rowsF (houseM M0) pl).map lp) i) (st.getD i (0, 1)) i)) = ((List.range n).map fun i => slowRow (rowAt ((rowsF (houseM M0) pl).map lp) i) (st.getD i (0, 1)) i).map encRow by rw [List.map_map]; rfl]
  refine Walk_in (n := n) (b := 8) n1 (by omega) (by simp) (fun r hr => ?_) (by decide) rfl ?_
  · obtain ⟨i, hi, rfl⟩ := List.mem_map.mp hr
    have hin : i < n := by simpa using hi
    obtain ⟨R, r23⟩ := w2 i hin
    have : i < st.length := by rw [Y.sl]; exact hin
    exact (slow_row R r23 (by rw [getD_of (List.getElem?_eq_getElem this)]; exact Y.st _ (List.getElem_mem this)) hin).1
  walk_at "dz"
  refine walk_ne_self ?_
  walk_at "dz"
  exact tr2_ok Y P hB hz B hV Z q
theorem right_ok {Q : DK} (q : Q (.bl true)) : p__law_right [.drw] Q := by
  unfold p__law_right
  rw [tr_eq]
  walk_at "dz"
  refine house_ok fun n M0 n4 H0 h23 => ?_
  walk_at "dz"
  rw [List.length_map, H0.len]
  refine stays_ok' (by omega) fun st sl hst => ?_
  refine gain_ok H0 fun gs hp hg => ?_
  have Y : Drawn n M0 st gs := ⟨n4, H0, h23, sl, hst, hp, hg⟩
  walk_at "dz"
  refine House_in (M' := houseM M0) H0 (by decide) rfl ?_
  walk_at "dz"
  refine slow_moves_ok H0 (by decide) sl hst ?_
  refine House_in (M' := lateM M0 st) Y.slowH (by decide) rfl ?_
  walk_at "dz"
  refine shorter_ok hst (by omega) ?_
  walk_at "dz"
  rw [zip_map]
  have gl : gs.length = n := by rw [hp.1, H0.len]
  refine lc_of (f := fun z => L3.D.tup ((z.1.map fun x => x * z.2).map rt)) (fun z hz => ⟨_, rfl, fun Q h => ?_⟩) (by simp [gl]; exact line_ok (by omega)) ?_
  · obtain ⟨e1, e2⟩ := List.of_mem_zip hz
    obtain ⟨p, hp', e3⟩ := List.mem_map.mp e2
    have h3 : z.1.length ≤ 3 := by
      obtain ⟨i, hi⟩ := List.getElem?_of_mem e1
      have him : i < M0.length := by rw [← hp.1]; exact (List.getElem?_eq_some_iff.mp hi).1
      rw [hp.2 i _ z.1 (List.getElem?_eq_getElem him) hi]
      exact (H0.some_ _ (List.getElem_mem him)).2
    walk_at "dz"
    refine lc_of (f := fun x => rt (x * z.2)) (fun x hx => ⟨_, rfl, fun Q h => ?_⟩) (by simp; exact line_ok (by omega)) ?_
    · walk_at "dz"
      exact rtimes_ok (small_rsz (hg _ e1 x hx) (by decide) (by decide)) (by rw [← e3]; exact small_rsz (shorter_small (hst p hp')) (by decide) (by decide)) h
    rw [List.nil_append]
    walk_at "dz"
    rw [List.map_map] at h
    exact h
  rw [List.nil_append]
  walk_at "dz"
  rw [encParts_scale, ← lateG_eq]
  refine most_ok Y.house fun V hB hz => ?_
  obtain ⟨plan, B, hV⟩ := id hB
  refine best_is Y.house hB B ?_
  obtain ⟨B2, hB2⟩ := Y.same hB B
  walk_at "dz"
  refine ⟨line_ok (by decide), ?_⟩
  refine most_is Y.late hB2 ?_
  walk_at "dz"
  refine best_is Y.late hB2 B2 ?_
  walk_at "dz"
  refine ⟨line_ok (by decide), ?_⟩
  refine gNe_self cp_told (by decide) ?_
  walk_at "dz"
  refine ⟨line_ok (by decide), ?_⟩
  refine paper_ok Y.late hB2 hz B2 ?_
  walk_at "dz"
  rw [decide_eq_true trivial]
  walk_at "dz"
  exact tr1_ok Y hB hz B hV q
theorem q_law : p_law := by
  unfold p_law t_law
  walk_at "dd"
  intro m hm
  obtain ⟨k, hk, k9⟩ : ∃ k : Nat, (5 + if (12 : Int) < (m : Int) then 12 else (m : Int)) = (k : Int) ∧ k ≤ 100 := by
    by_cases h : (12 : Int) < (m : Int)
    · exact ⟨17, by rw [if_pos h]; rfl, by decide⟩
    · exact ⟨5 + m, by rw [if_neg h]; omega, by omega⟩
  rw [hk]
  refine ⟨by unfold Rng; omega, ?_⟩
  rw [Int.toNat_natCast]
  refine for_range (fun i ρ => ∃ o2 : Option L3.S, ρ = [some (.sh .scr), some (.sh .drw), o2]) ⟨none, rfl⟩ ?_ ?_
  · rintro i ρ hi ⟨o2, rfl⟩
    refine ⟨_, rfl, fun N hN => ?_⟩
    walk_at "dd"
    refine right_ok ?_
    walk_at "dd"
    exact hN _ ⟨_, rfl⟩
  · rintro ρ ⟨o2, rfl⟩
    walk_at "dd"
    try rfl
end
end Wk
end
section
set_option Elab.async false
set_option linter.all false
set_option maxRecDepth 100000
set_option maxHeartbeats 0
/-! every def keeps its promise (printed by mkwalk.py) -/
namespace Wk
open PySem PySem.Spec PyProof.Rows L2 L3
local macro_rules | `(tactic| walk_at "dv") => `(tactic| simp only [q_dDef, q_sh0, List.map_cons, List.map_nil, List.cons_append, List.nil_append, q_dSq, q_dNext, q_dSet, q_dSetF, q_dSetO, q_dRet, q_dRetN, q_dIfS, q_dNever, q_dWhile, q_dFor, q_dPar, q_dAsg, q_dDrop,
  q_dFrz, q_dApp, q_dAppF, q_dPut, q_dPutF, q_dAttrN, q_dAttrFN, q_dFldN,
  List.getElem?_cons_zero, List.getElem?_cons_succ, List.set_cons_zero, List.set_cons_succ, q_setS0, q_setSc, q_setSs0, q_setSsc, q_setD0, q_setDc, q_wipe0, q_wipec,
  shOf_nil, shOf_c, shO_n, shO_s, shO_o, shO_i, alOf_nil, alOf_c, alO_n, alO_s, alO_o, alO_i, dVar_0, dVar_s, q_dC, q_dBin, q_dBinL, q_dTest, q_dChain, q_dNot, q_dNotV, q_dAnd, q_dAndV, q_dOr, q_dOrV, q_dIf, q_dNeg, q_dCall, q_dCallL, q_dCons, q_dNil, q_dStar, q_dLst, q_dTup, q_dLen, q_dxCons, q_dxNil, q_dxP, q_dxO, q_dYes,
  asInt_int, asBl_bl, asSeq_l, asSeq_t, asLst_l, asTup_t, asObj_o, arg1_, arg2_, arg3_, q_gDef, q_gMake, q_gI0, q_gI, gEq_int, gNe_int, q_gLen, q_gAbs, q_gMax2, q_gMin2, q_gInt_i, q_gInt_b, q_gTuple, q_gList, gIx_0, gIx_1, gIx_0l, gIx_1l, q_gCatL, q_gRepL, q_gCatT, q_gRepT, isi_, isi_int_int, isi_bool_int, isi_tup_tup, isiT_, isiT_lst, isiT_tup, isC_, isCK_o, q_dSeqI, q_dEnumI, q_dZip2, q_dZip3, q_dRng1, q_dRng2, q_dLc, q_gIsB, q_gNotB, q_dSlL, q_dSlT, q_dNoP, q_dSoP,
  List.length_cons, List.length_nil, true_and, and_true, Bool.not_true, Bool.not_false, if_true, Bool.false_eq_true, if_false])
local macro_rules | `(tactic| walk_at "dh") => `(tactic| ((try simp only [fM_eq, fN_eq]); repeat (first | walk_at "dv" | simp only [q_dMv, q_dNv, fMoves_h, fMany_h, isCK_h, asSeq_rT])))
local macro_rules | `(tactic| walk_at "dd") => `(tactic| repeat (first | walk_at "dv" | simp only [q_dDrN, q_dDrC, q_dPop, q_dDput, q_dScrI, q_dLenS]))
local macro_rules | `(tactic| walk_at "dw") => `(tactic| ((try simp only [fM_eq, fN_eq, fR_eq]); repeat (first | walk_at "dv" | simp only [q_dMv, q_dNv, fMoves_h, fMany_h, isCK_h, asSeq_rT, q_dRw, fRows_w, isCK_w])))
local macro_rules | `(tactic| walk_at "dz") => `(tactic| ((try simp only [fM_eq, fN_eq, fR_eq]); repeat (first | walk_at "dv" | simp only [q_dMv, q_dNv, fMoves_h, fMany_h, isCK_h, asSeq_rT, q_dRw, fRows_w, isCK_w, asSeq_mv, asSeq_rL, asLst_rL, asSeq_pt, objH, objW])))
abbrev FnP (K : PySem.W.Frag) (x q : Str) (st : Stmt) (f : Addr) (fd : FuncData) : Prop := FunD K x q (defArgs st) (defBody st) (defScope st) [] [] f fd
structure Wd (K : PySem.W.Frag) (mg : Str → Option Value) where
  ca : Nat → Addr
  f_is_number : Addr
  d_is_number : FuncData
  F_is_number : FnP K "is_number" "is_number" (top 10) f_is_number d_is_number
  g_is_number : mg "is_number" = some (.ref f_is_number)
  f_is_between : Addr
  d_is_between : FuncData
  F_is_between : FnP K "is_between" "is_between" (top 11) f_is_between d_is_between
  g_is_between : mg "is_between" = some (.ref f_is_between)
  f_is_list : Addr
  d_is_list : FuncData
  F_is_list : FnP K "is_list" "is_list" (top 12) f_is_list d_is_list
  g_is_list : mg "is_list" = some (.ref f_is_list)
  f_is_row : Addr
  d_is_row : FuncData
  F_is_row : FnP K "is_row" "is_row" (top 13) f_is_row d_is_row
  g_is_row : mg "is_row" = some (.ref f_is_row)
  f_is_count_row : Addr
  d_is_count_row : FuncData
  F_is_count_row : FnP K "is_count_row" "is_count_row" (top 14) f_is_count_row d_is_count_row
  g_is_count_row : mg "is_count_row" = some (.ref f_is_count_row)
  f_divisor_of : Addr
  d_divisor_of : FuncData
  F_divisor_of : FnP K "divisor_of" "divisor_of" (top 15) f_divisor_of d_divisor_of
  g_divisor_of : mg "divisor_of" = some (.ref f_divisor_of)
  f_multiple_of : Addr
  d_multiple_of : FuncData
  F_multiple_of : FnP K "multiple_of" "multiple_of" (top 16) f_multiple_of d_multiple_of
  g_multiple_of : mg "multiple_of" = some (.ref f_multiple_of)
  f_least_pair : Addr
  d_least_pair : FuncData
  F_least_pair : FnP K "least_pair" "least_pair" (top 17) f_least_pair d_least_pair
  g_least_pair : mg "least_pair" = some (.ref f_least_pair)
  f_plain_row : Addr
  d_plain_row : FuncData
  F_plain_row : FnP K "plain_row" "plain_row" (top 18) f_plain_row d_plain_row
  g_plain_row : mg "plain_row" = some (.ref f_plain_row)
  f_is_index : Addr
  d_is_index : FuncData
  F_is_index : FnP K "is_index" "is_index" (top 19) f_is_index d_is_index
  g_is_index : mg "is_index" = some (.ref f_is_index)
  f_ratio_of : Addr
  d_ratio_of : FuncData
  F_ratio_of : FnP K "ratio_of" "ratio_of" (top 21) f_ratio_of d_ratio_of
  g_ratio_of : mg "ratio_of" = some (.ref f_ratio_of)
  f_is_ratio : Addr
  d_is_ratio : FuncData
  F_is_ratio : FnP K "is_ratio" "is_ratio" (top 22) f_is_ratio d_is_ratio
  g_is_ratio : mg "is_ratio" = some (.ref f_is_ratio)
  f_sum_of : Addr
  d_sum_of : FuncData
  F_sum_of : FnP K "sum_of" "sum_of" (top 23) f_sum_of d_sum_of
  g_sum_of : mg "sum_of" = some (.ref f_sum_of)
  f_less_of : Addr
  d_less_of : FuncData
  F_less_of : FnP K "less_of" "less_of" (top 24) f_less_of d_less_of
  g_less_of : mg "less_of" = some (.ref f_less_of)
  f_product_of : Addr
  d_product_of : FuncData
  F_product_of : FnP K "product_of" "product_of" (top 25) f_product_of d_product_of
  g_product_of : mg "product_of" = some (.ref f_product_of)
  f_is_below : Addr
  d_is_below : FuncData
  F_is_below : FnP K "is_below" "is_below" (top 26) f_is_below d_is_below
  g_is_below : mg "is_below" = some (.ref f_is_below)
  f_greatest_of : Addr
  d_greatest_of : FuncData
  F_greatest_of : FnP K "greatest_of" "greatest_of" (top 27) f_greatest_of d_greatest_of
  g_greatest_of : mg "greatest_of" = some (.ref f_greatest_of)
  f_total_of : Addr
  d_total_of : FuncData
  F_total_of : FnP K "total_of" "total_of" (top 28) f_total_of d_total_of
  g_total_of : mg "total_of" = some (.ref f_total_of)
  f_is_pair_of : Addr
  d_is_pair_of : FuncData
  F_is_pair_of : FnP K "is_pair_of" "is_pair_of" (top 30) f_is_pair_of d_is_pair_of
  g_is_pair_of : mg "is_pair_of" = some (.ref f_is_pair_of)
  f_is_share_of : Addr
  d_is_share_of : FuncData
  F_is_share_of : FnP K "is_share_of" "is_share_of" (top 31) f_is_share_of d_is_share_of
  g_is_share_of : mg "is_share_of" = some (.ref f_is_share_of)
  f_need_share : Addr
  d_need_share : FuncData
  F_need_share : FnP K "need_share" "need_share" (top 32) f_need_share d_need_share
  g_need_share : mg "need_share" = some (.ref f_need_share)
  f_divided : Addr
  d_divided : FuncData
  F_divided : FnP K "divided" "divided" (top 34) f_divided d_divided
  g_divided : mg "divided" = some (.ref f_divided)
  f_cleared : Addr
  d_cleared : FuncData
  F_cleared : FnP K "cleared" "cleared" (top 35) f_cleared d_cleared
  g_cleared : mg "cleared" = some (.ref f_cleared)
  f_stepped_lines : Addr
  d_stepped_lines : FuncData
  F_stepped_lines : FnP K "stepped_lines" "stepped_lines" (top 36) f_stepped_lines d_stepped_lines
  g_stepped_lines : mg "stepped_lines" = some (.ref f_stepped_lines)
  f_bar_from : Addr
  d_bar_from : FuncData
  F_bar_from : FnP K "bar_from" "bar_from" (top 37) f_bar_from d_bar_from
  g_bar_from : mg "bar_from" = some (.ref f_bar_from)
  f_answer_from : Addr
  d_answer_from : FuncData
  F_answer_from : FnP K "answer_from" "answer_from" (top 38) f_answer_from d_answer_from
  g_answer_from : mg "answer_from" = some (.ref f_answer_from)
  f_answer_of : Addr
  d_answer_of : FuncData
  F_answer_of : FnP K "answer_of" "answer_of" (top 39) f_answer_of d_answer_of
  g_answer_of : mg "answer_of" = some (.ref f_answer_of)
  f_is_chance_row : Addr
  d_is_chance_row : FuncData
  F_is_chance_row : FnP K "is_chance_row" "is_chance_row" (top 42) f_is_chance_row d_is_chance_row
  g_is_chance_row : mg "is_chance_row" = some (.ref f_is_chance_row)
  f_Walk_init_ : Addr
  d_Walk_init_ : FuncData
  F_Walk_init_ : FnP K "__init__" "Walk.__init__" (inClass (top 43) 0) f_Walk_init_ d_Walk_init_
  f_Walk_eq_ : Addr
  d_Walk_eq_ : FuncData
  F_Walk_eq_ : FnP K "__eq__" "Walk.__eq__" (inClass (top 43) 1) f_Walk_eq_ d_Walk_eq_
  f_are_ratios : Addr
  d_are_ratios : FuncData
  F_are_ratios : FnP K "are_ratios" "are_ratios" (top 45) f_are_ratios d_are_ratios
  g_are_ratios : mg "are_ratios" = some (.ref f_are_ratios)
  f_mean_by : Addr
  d_mean_by : FuncData
  F_mean_by : FnP K "mean_by" "mean_by" (top 46) f_mean_by d_mean_by
  g_mean_by : mg "mean_by" = some (.ref f_mean_by)
  f_are_moves : Addr
  d_are_moves : FuncData
  F_are_moves : FnP K "are_moves" "are_moves" (top 48) f_are_moves d_are_moves
  g_are_moves : mg "are_moves" = some (.ref f_are_moves)
  f_House_init_ : Addr
  d_House_init_ : FuncData
  F_House_init_ : FnP K "__init__" "House.__init__" (inClass (top 49) 0) f_House_init_ d_House_init_
  f_House_eq_ : Addr
  d_House_eq_ : FuncData
  F_House_eq_ : FnP K "__eq__" "House.__eq__" (inClass (top 49) 1) f_House_eq_ d_House_eq_
  f_need_house : Addr
  d_need_house : FuncData
  F_need_house : FnP K "need_house" "need_house" (top 50) f_need_house d_need_house
  g_need_house : mg "need_house" = some (.ref f_need_house)
  f_is_plan : Addr
  d_is_plan : FuncData
  F_is_plan : FnP K "is_plan" "is_plan" (top 51) f_is_plan d_is_plan
  g_is_plan : mg "is_plan" = some (.ref f_is_plan)
  f_need_plan : Addr
  d_need_plan : FuncData
  F_need_plan : FnP K "need_plan" "need_plan" (top 52) f_need_plan d_need_plan
  g_need_plan : mg "need_plan" = some (.ref f_need_plan)
  f_rows_of : Addr
  d_rows_of : FuncData
  F_rows_of : FnP K "rows_of" "rows_of" (top 53) f_rows_of d_rows_of
  g_rows_of : mg "rows_of" = some (.ref f_rows_of)
  f_stays_in : Addr
  d_stays_in : FuncData
  F_stays_in : FnP K "stays_in" "stays_in" (top 54) f_stays_in d_stays_in
  g_stays_in : mg "stays_in" = some (.ref f_stays_in)
  f_staying_lot : Addr
  d_staying_lot : FuncData
  F_staying_lot : FnP K "staying_lot" "staying_lot" (top 55) f_staying_lot d_staying_lot
  g_staying_lot : mg "staying_lot" = some (.ref f_staying_lot)
  f_need_leaky : Addr
  d_need_leaky : FuncData
  F_need_leaky : FnP K "need_leaky" "need_leaky" (top 56) f_need_leaky d_need_leaky
  g_need_leaky : mg "need_leaky" = some (.ref f_need_leaky)
  f_are_parts : Addr
  d_are_parts : FuncData
  F_are_parts : FnP K "are_parts" "are_parts" (top 57) f_are_parts d_are_parts
  g_are_parts : mg "are_parts" = some (.ref f_are_parts)
  f_need_gains : Addr
  d_need_gains : FuncData
  F_need_gains : FnP K "need_gains" "need_gains" (top 58) f_need_gains d_need_gains
  g_need_gains : mg "need_gains" = some (.ref f_need_gains)
  f_gained_by : Addr
  d_gained_by : FuncData
  F_gained_by : FnP K "gained_by" "gained_by" (top 59) f_gained_by d_gained_by
  g_gained_by : mg "gained_by" = some (.ref f_gained_by)
  f_sums_of_moves : Addr
  d_sums_of_moves : FuncData
  F_sums_of_moves : FnP K "sums_of_moves" "sums_of_moves" (top 60) f_sums_of_moves d_sums_of_moves
  g_sums_of_moves : mg "sums_of_moves" = some (.ref f_sums_of_moves)
  f_first_best : Addr
  d_first_best : FuncData
  F_first_best : FnP K "first_best" "first_best" (top 61) f_first_best d_first_best
  g_first_best : mg "first_best" = some (.ref f_first_best)
  f_gains_of : Addr
  d_gains_of : FuncData
  F_gains_of : FnP K "gains_of" "gains_of" (top 62) f_gains_of d_gains_of
  g_gains_of : mg "gains_of" = some (.ref f_gains_of)
  f_most_of : Addr
  d_most_of : FuncData
  F_most_of : FnP K "most_of" "most_of" (top 63) f_most_of d_most_of
  g_most_of : mg "most_of" = some (.ref f_most_of)
  f_flow_by : Addr
  d_flow_by : FuncData
  F_flow_by : FnP K "flow_by" "flow_by" (top 64) f_flow_by d_flow_by
  g_flow_by : mg "flow_by" = some (.ref f_flow_by)
  f_begun_by : Addr
  d_begun_by : FuncData
  F_begun_by : FnP K "begun_by" "begun_by" (top 65) f_begun_by d_begun_by
  g_begun_by : mg "begun_by" = some (.ref f_begun_by)
  f_are_counts : Addr
  d_are_counts : FuncData
  F_are_counts : FnP K "are_counts" "are_counts" (top 66) f_are_counts d_are_counts
  g_are_counts : mg "are_counts" = some (.ref f_are_counts)
  f_walk_of : Addr
  d_walk_of : FuncData
  F_walk_of : FnP K "walk_of" "walk_of" (top 67) f_walk_of d_walk_of
  g_walk_of : mg "walk_of" = some (.ref f_walk_of)
  f_most : Addr
  d_most : FuncData
  F_most : FnP K "most" "most" (top 68) f_most d_most
  g_most : mg "most" = some (.ref f_most)
  f_best_plan : Addr
  d_best_plan : FuncData
  F_best_plan : FnP K "best_plan" "best_plan" (top 69) f_best_plan d_best_plan
  g_best_plan : mg "best_plan" = some (.ref f_best_plan)
  f_is_most_paper : Addr
  d_is_most_paper : FuncData
  F_is_most_paper : FnP K "is_most_paper" "is_most_paper" (top 70) f_is_most_paper d_is_most_paper
  g_is_most_paper : mg "is_most_paper" = some (.ref f_is_most_paper)
  f_flow_of : Addr
  d_flow_of : FuncData
  F_flow_of : FnP K "flow_of" "flow_of" (top 71) f_flow_of d_flow_of
  g_flow_of : mg "flow_of" = some (.ref f_flow_of)
  f_is_flow : Addr
  d_is_flow : FuncData
  F_is_flow : FnP K "is_flow" "is_flow" (top 72) f_is_flow d_is_flow
  g_is_flow : mg "is_flow" = some (.ref f_is_flow)
  f__law_mixed : Addr
  d__law_mixed : FuncData
  F__law_mixed : FnP K "_law_mixed" "_law_mixed" (top 75) f__law_mixed d__law_mixed
  g__law_mixed : mg "_law_mixed" = some (.ref f__law_mixed)
  f__law_take : Addr
  d__law_take : FuncData
  F__law_take : FnP K "_law_take" "_law_take" (top 76) f__law_take d__law_take
  g__law_take : mg "_law_take" = some (.ref f__law_take)
  f__law_pick : Addr
  d__law_pick : FuncData
  F__law_pick : FnP K "_law_pick" "_law_pick" (top 77) f__law_pick d__law_pick
  g__law_pick : mg "_law_pick" = some (.ref f__law_pick)
  f__law_common : Addr
  d__law_common : FuncData
  F__law_common : FnP K "_law_common" "_law_common" (top 78) f__law_common d__law_common
  g__law_common : mg "_law_common" = some (.ref f__law_common)
  f__law_ratio : Addr
  d__law_ratio : FuncData
  F__law_ratio : FnP K "_law_ratio" "_law_ratio" (top 79) f__law_ratio d__law_ratio
  g__law_ratio : mg "_law_ratio" = some (.ref f__law_ratio)
  f__law_plus : Addr
  d__law_plus : FuncData
  F__law_plus : FnP K "_law_plus" "_law_plus" (top 80) f__law_plus d__law_plus
  g__law_plus : mg "_law_plus" = some (.ref f__law_plus)
  f__law_times : Addr
  d__law_times : FuncData
  F__law_times : FnP K "_law_times" "_law_times" (top 81) f__law_times d__law_times
  g__law_times : mg "_law_times" = some (.ref f__law_times)
  f__law_total : Addr
  d__law_total : FuncData
  F__law_total : FnP K "_law_total" "_law_total" (top 82) f__law_total d__law_total
  g__law_total : mg "_law_total" = some (.ref f__law_total)
  f__law_parts : Addr
  d__law_parts : FuncData
  F__law_parts : FnP K "_law_parts" "_law_parts" (top 83) f__law_parts d__law_parts
  g__law_parts : mg "_law_parts" = some (.ref f__law_parts)
  f__law_pair : Addr
  d__law_pair : FuncData
  F__law_pair : FnP K "_law_pair" "_law_pair" (top 84) f__law_pair d__law_pair
  g__law_pair : mg "_law_pair" = some (.ref f__law_pair)
  f__law_some_share : Addr
  d__law_some_share : FuncData
  F__law_some_share : FnP K "_law_some_share" "_law_some_share" (top 85) f__law_some_share d__law_some_share
  g__law_some_share : mg "_law_some_share" = some (.ref f__law_some_share)
  f__law_dot : Addr
  d__law_dot : FuncData
  F__law_dot : FnP K "_law_dot" "_law_dot" (top 86) f__law_dot d__law_dot
  g__law_dot : mg "_law_dot" = some (.ref f__law_dot)
  f__law_stays : Addr
  d__law_stays : FuncData
  F__law_stays : FnP K "_law_stays" "_law_stays" (top 87) f__law_stays d__law_stays
  g__law_stays : mg "_law_stays" = some (.ref f__law_stays)
  f__law_slow : Addr
  d__law_slow : FuncData
  F__law_slow : FnP K "_law_slow" "_law_slow" (top 88) f__law_slow d__law_slow
  g__law_slow : mg "_law_slow" = some (.ref f__law_slow)
  f__law_longer : Addr
  d__law_longer : FuncData
  F__law_longer : FnP K "_law_longer" "_law_longer" (top 89) f__law_longer d__law_longer
  g__law_longer : mg "_law_longer" = some (.ref f__law_longer)
  f__law_shorter : Addr
  d__law_shorter : FuncData
  F__law_shorter : FnP K "_law_shorter" "_law_shorter" (top 90) f__law_shorter d__law_shorter
  g__law_shorter : mg "_law_shorter" = some (.ref f__law_shorter)
  f__law_rows_of : Addr
  d__law_rows_of : FuncData
  F__law_rows_of : FnP K "_law_rows_of" "_law_rows_of" (top 91) f__law_rows_of d__law_rows_of
  g__law_rows_of : mg "_law_rows_of" = some (.ref f__law_rows_of)
  f__law_house : Addr
  d__law_house : FuncData
  F__law_house : FnP K "_law_house" "_law_house" (top 92) f__law_house d__law_house
  g__law_house : mg "_law_house" = some (.ref f__law_house)
  f__law_slow_moves : Addr
  d__law_slow_moves : FuncData
  F__law_slow_moves : FnP K "_law_slow_moves" "_law_slow_moves" (top 93) f__law_slow_moves d__law_slow_moves
  g__law_slow_moves : mg "_law_slow_moves" = some (.ref f__law_slow_moves)
  f__law_gain : Addr
  d__law_gain : FuncData
  F__law_gain : FnP K "_law_gain" "_law_gain" (top 94) f__law_gain d__law_gain
  g__law_gain : mg "_law_gain" = some (.ref f__law_gain)
  f__law_right : Addr
  d__law_right : FuncData
  F__law_right : FnP K "_law_right" "_law_right" (top 95) f__law_right d__law_right
  g__law_right : mg "_law_right" = some (.ref f__law_right)
  f__law_begun : Addr
  d__law_begun : FuncData
  F__law_begun : FnP K "_law_begun" "_law_begun" (top 74) f__law_begun d__law_begun
  g__law_begun : mg "_law_begun" = some (.ref f__law_begun)
  g_Walk : mg "Walk" = some (.ref (ca 0))
  M_Walk : Mk K (ca 0) f_Walk_init_
  I_Walk : InsOk K (ca 0)
  q_Walk : NeOk K (ca 0) f_Walk_eq_
  g_House : mg "House" = some (.ref (ca 1))
  M_House : Mk K (ca 1) f_House_init_
  I_House : InsOk K (ca 1)
  q_House : NeOk K (ca 1) f_House_eq_
  i_MOST_PLACES : ∃ t, mg "MOST_PLACES" = some (.int 8 t)
  tab : TabOk K ⟨ca, fnT, K⟩
  m_abs : mg "abs" = none
  m_all : mg "all" = none
  m_any : mg "any" = none
  m_bool : mg "bool" = none
  m_enumerate : mg "enumerate" = none
  m_int : mg "int" = none
  m_isinstance : mg "isinstance" = none
  m_len : mg "len" = none
  m_list : mg "list" = none
  m_min : mg "min" = none
  m_range : mg "range" = none
  m_sum : mg "sum" = none
  m_tuple : mg "tuple" = none
  m_zip : mg "zip" = none
abbrev Wd.T {K : PySem.W.Frag} {mg : Str → Option Value} (Y : Wd K mg) : Tabs := ⟨Y.ca, fnT, K⟩
section
variable {P : Program} {w : World} {K : PySem.W.Frag} {mg : Str → Option Value} {base : Heap} (Y : Wd K mg)
theorem sc_is_number : FnScope ["thing"] ["thing"] (defScope (top 10)) := ⟨rfl, rfl, rfl, by decide +kernel, rfl, by decide +kernel, by decide +kernel⟩
theorem ok_is_number : FnOk P w K mg base CX0 1 Y.f_is_number Y.d_is_number ["thing"] (spF Y.T 1 p_is_number) := by
  refine fnF Y.F_is_number sc_is_number (by simp) rfl rfl fun dr cdv A outer s H E hr => ?_
  have S := sc_is_number
  exact fss_one (fs_ret (fe_and (fe_isi rfl Y.m_isinstance (fe_var (pv 0)) (pe_bltn rfl Y.m_int (by decide +kernel) rfl)) (fe_one (fe_not (fe_isi rfl Y.m_isinstance (fe_var (pv 0)) (pe_bltn rfl Y.m_bool (by decide +kernel) rfl))))))
theorem sc_is_between : FnScope ["thing", "low", "high"] ["thing", "low", "high"] (defScope (top 11)) := ⟨rfl, rfl, rfl, by decide +kernel, rfl, by decide +kernel, by decide +kernel⟩
theorem ok_is_between : FnOk P w K mg base CX0 2 Y.f_is_between Y.d_is_between ["thing", "low", "high"] (spF Y.T 3 p_is_between) := by
  refine fnF Y.F_is_between sc_is_between (by simp) rfl rfl fun dr cdv A outer s H E hr => ?_
  have S := sc_is_between
  exact fss_one (fs_ret (fe_and (fe_call (ok_is_number Y) (hr.mono (by decide)) rfl Y.g_is_number Y.F_is_number.kp (Y.F_is_number.bindsN fun _ _ _ _ _ _ us hl => match us, hl with | [_], _ => rfl) (fa_cons (fe_var (pv 0)) (fa_nil))) (fe_one (fe_chain op_le od_B0 op_le od_B0 (fe_var (pv 1)) (fe_var (pv 0)) (fe_var (pv 2))))))
theorem sc_is_list : FnScope ["thing"] ["thing"] (defScope (top 12)) := ⟨rfl, rfl, rfl, by decide +kernel, rfl, by decide +kernel, by decide +kernel⟩
theorem ok_is_list : FnOk P w K mg base CX0 1 Y.f_is_list Y.d_is_list ["thing"] (spF Y.T 1 p_is_list) := by
  refine fnF Y.F_is_list sc_is_list (by simp) rfl rfl fun dr cdv A outer s H E hr => ?_
  have S := sc_is_list
  exact fss_one (fs_ret (fe_isiT2 rfl Y.m_isinstance (fe_var (pv 0)) (pe_bltn rfl Y.m_list (by decide +kernel) rfl) (pe_bltn rfl Y.m_tuple (by decide +kernel) rfl)))
theorem sc_is_row : FnScope ["thing", "many", "item"] ["thing", "many"] (defScope (top 13)) := ⟨rfl, rfl, rfl, by decide +kernel, rfl, by decide +kernel, by decide +kernel⟩
theorem ok_is_row : FnOk P w K mg base CX0 2 Y.f_is_row Y.d_is_row ["thing", "many"] (spF Y.T 2 p_is_row) := by
  refine fnF Y.F_is_row sc_is_row (by simp) rfl rfl fun dr cdv A outer s H E hr => ?_
  have S := sc_is_row
  exact fss_one (fs_ret (fe_and (fe_isi rfl Y.m_isinstance (fe_var (pv 0)) (pe_bltn rfl Y.m_tuple (by decide +kernel) rfl)) (fe_and (fe_cmp (op_eqD hr.units) od_eq (fe_callB call_len_seq cd_len rfl Y.m_len (by decide +kernel) (fa_cons (fe_var (pv 0)) (fa_nil))) (fe_var (pv 1))) (fe_one (fe_callB (cr_all rfl) cd_all rfl Y.m_all (by decide +kernel) (fa_cons (FO.fe (fo_lc (own := [("item", 2)]) rfl S.nd (fi_seq (fe_var (pv 0))) (blkOk_by (by rfl)) (fun _ _ _ _ _ => fg_name S.nd rfl (by first | exact Or.inl rfl | exact Or.inr rfl)) (fun _ _ _ _ _ => fts_nil) (fun _ _ _ _ _ => fe_call (ok_is_number Y) (hr.mono (by decide)) rfl Y.g_is_number Y.F_is_number.kp (Y.F_is_number.bindsN fun _ _ _ _ _ _ us hl => match us, hl with | [_], _ => rfl) (fa_cons (fe_var (pv 2)) (fa_nil))) (by decide))) (fa_nil)))))))
theorem sc_is_count_row : FnScope ["thing", "many", "item"] ["thing", "many"] (defScope (top 14)) := ⟨rfl, rfl, rfl, by decide +kernel, rfl, by decide +kernel, by decide +kernel⟩
theorem ok_is_count_row : FnOk P w K mg base CX0 3 Y.f_is_count_row Y.d_is_count_row ["thing", "many"] (spF Y.T 2 p_is_count_row) := by
  refine fnF Y.F_is_count_row sc_is_count_row (by simp) rfl rfl fun dr cdv A outer s H E hr => ?_
  have S := sc_is_count_row
  exact fss_one (fs_ret (fe_and (fe_call (ok_is_row Y) (hr.mono (by decide)) rfl Y.g_is_row Y.F_is_row.kp (Y.F_is_row.bindsN fun _ _ _ _ _ _ us hl => match us, hl with | [_, _], _ => rfl) (fa_cons (fe_var (pv 0)) (fa_cons (fe_var (pv 1)) (fa_nil)))) (fe_one (fe_callB (cr_all rfl) cd_all rfl Y.m_all (by decide +kernel) (fa_cons (FO.fe (fo_lc (own := [("item", 2)]) rfl S.nd (fi_seq (fe_var (pv 0))) (blkOk_by (by rfl)) (fun _ _ _ _ _ => fg_name S.nd rfl (by first | exact Or.inl rfl | exact Or.inr rfl)) (fun _ _ _ _ _ => fts_nil) (fun _ _ _ _ _ => fe_cmp op_ge od_B0 (fe_var (pv 2)) (fe_int)) (by decide))) (fa_nil))))))
theorem sc_divisor_of : FnScope ["numbers", "found", "number", "here", "there"] ["numbers"] (defScope (top 15)) := ⟨rfl, rfl, rfl, by decide +kernel, rfl, by decide +kernel, by decide +kernel⟩
theorem ok_divisor_of : FnOk P w K mg base CX0 1 Y.f_divisor_of Y.d_divisor_of ["numbers"] (spF Y.T 1 p_divisor_of) := by
  refine fnF Y.F_divisor_of sc_divisor_of (by simp) rfl rfl fun dr cdv A outer s H E hr => ?_
  have S := sc_divisor_of
  exact fss_cons (fs_set S.nd rfl (by first | exact Or.inl rfl | exact Or.inr rfl) (fe_int)) (fss_cons (fs_for (passes_of rfl) rfl (fi_seq (fe_var (pv 0))) (fg_name S.nd rfl (by first | exact Or.inl rfl | exact Or.inr rfl)) (fss_cons ((by first | exact fs_par2 rfl S.nd rfl rfl (by decide) rfl rfl (fxs_cons (fx_P (fe_var (pv 1))) (fxs_cons (fx_P (fe_callB call_abs cd_abs rfl Y.m_abs (by decide +kernel) (fa_cons (fe_var (pv 2)) (fa_nil)))) (fxs_nil))) | exact fs_parT rfl rfl (fns_cons S.nd rfl (by first | exact Or.inl rfl | exact Or.inr rfl) (fns_cons S.nd rfl (by first | exact Or.inl rfl | exact Or.inr rfl) (fns_nil))) (fxs_cons (fx_P (fe_var (pv 1))) (fxs_cons (fx_P (fe_callB call_abs cd_abs rfl Y.m_abs (by decide +kernel) (fa_cons (fe_var (pv 2)) (fa_nil)))) (fxs_nil))))) (fss_cons (fs_while (passes_of rfl) (ft_cmp (op_neD hr.units) od_ne (fe_var (pv 4)) (fe_int)) (fss_one ((by first | exact fs_par2 rfl S.nd rfl rfl (by decide) rfl rfl (fxs_cons (fx_P (fe_var (pv 4))) (fxs_cons (fx_P (fe_op op_mod od_I (fe_var (pv 3)) (fe_var (pv 4)))) (fxs_nil))) | exact fs_parT rfl rfl (fns_cons S.nd rfl (by first | exact Or.inl rfl | exact Or.inr rfl) (fns_cons S.nd rfl (by first | exact Or.inl rfl | exact Or.inr rfl) (fns_nil))) (fxs_cons (fx_P (fe_var (pv 4))) (fxs_cons (fx_P (fe_op op_mod od_I (fe_var (pv 3)) (fe_var (pv 4)))) (fxs_nil))))))) (fss_one (fs_set S.nd rfl (by first | exact Or.inl rfl | exact Or.inr rfl) (fe_var (pv 3))))))) (fss_one (fs_ret (fe_var (pv 1)))))
theorem sc_multiple_of : FnScope ["numbers", "found", "number"] ["numbers"] (defScope (top 16)) := ⟨rfl, rfl, rfl, by decide +kernel, rfl, by decide +kernel, by decide +kernel⟩
theorem ok_multiple_of : FnOk P w K mg base CX0 2 Y.f_multiple_of Y.d_multiple_of ["numbers"] (spF Y.T 1 p_multiple_of) := by
  refine fnF Y.F_multiple_of sc_multiple_of (by simp) rfl rfl fun dr cdv A outer s H E hr => ?_
  have S := sc_multiple_of
  exact fss_cons (fs_set S.nd rfl (by first | exact Or.inl rfl | exact Or.inr rfl) (fe_int)) (fss_cons (fs_for (passes_of rfl) rfl (fi_seq (fe_var (pv 0))) (fg_name S.nd rfl (by first | exact Or.inl rfl | exact Or.inr rfl)) (fss_one (fs_set S.nd rfl (by first | exact Or.inl rfl | exact Or.inr rfl) (fe_op op_mulB od_I (fe_op op_fdivW od_I (fe_var (pv 1)) (fe_call (ok_divisor_of Y) (hr.mono (by decide)) rfl Y.g_divisor_of Y.F_divisor_of.kp (Y.F_divisor_of.bindsN fun _ _ _ _ _ _ us hl => match us, hl with | [_], _ => rfl) (fa_cons (fe_tup (fa_cons (fe_var (pv 1)) (fa_cons (fe_var (pv 2)) (fa_nil)))) (fa_nil)))) (fe_var (pv 2)))))) (fss_one (fs_ret (fe_var (pv 1)))))
theorem sc_least_pair : FnScope ["scale", "numbers", "found", "item"] ["scale", "numbers"] (defScope (top 17)) := ⟨rfl, rfl, rfl, by decide +kernel, rfl, by decide +kernel, by decide +kernel⟩
theorem ok_least_pair : FnOk P w K mg base CX0 2 Y.f_least_pair Y.d_least_pair ["scale", "numbers"] (spF Y.T 2 p_least_pair) := by
  refine fnF Y.F_least_pair sc_least_pair (by simp) rfl rfl fun dr cdv A outer s H E hr => ?_
  have S := sc_least_pair
  exact fss_cons (fs_set S.nd rfl (by first | exact Or.inl rfl | exact Or.inr rfl) (fe_call (ok_divisor_of Y) (hr.mono (by decide)) rfl Y.g_divisor_of Y.F_divisor_of.kp (Y.F_divisor_of.bindsN fun _ _ _ _ _ _ us hl => match us, hl with | [_], _ => rfl) (fa_cons (fe_tup (fa_cons (fe_var (pv 0)) (fa_star (fe_var (pv 1)) (fa_nil)))) (fa_nil)))) (fss_one (fs_ret (fe_tup (fa_cons (fe_op op_fdivW od_I (fe_var (pv 0)) (fe_var (pv 2))) (fa_cons (fe_callTy call_tuple_of cd_tuple rfl Y.m_tuple (by decide +kernel) (fa_cons (FO.fe (fo_lc (own := [("item", 3)]) rfl S.nd (fi_seq (fe_var (pv 1))) (blkOk_by (by rfl)) (fun _ _ _ _ _ => fg_name S.nd rfl (by first | exact Or.inl rfl | exact Or.inr rfl)) (fun _ _ _ _ _ => fts_nil) (fun _ _ _ _ _ => fe_op op_fdivW od_I (fe_var (pv 3)) (fe_var (pv 2))) (by decide))) (fa_nil))) (fa_nil))))))
theorem sc_plain_row : FnScope ["row", "found", "item"] ["row"] (defScope (top 18)) := ⟨rfl, rfl, rfl, by decide +kernel, rfl, by decide +kernel, by decide +kernel⟩
theorem ok_plain_row : FnOk P w K mg base CX0 2 Y.f_plain_row Y.d_plain_row ["row"] (spF Y.T 1 p_plain_row) := by
  refine fnF Y.F_plain_row sc_plain_row (by simp) rfl rfl fun dr cdv A outer s H E hr => ?_
  have S := sc_plain_row
  exact fss_cons (fs_set S.nd rfl (by first | exact Or.inl rfl | exact Or.inr rfl) (fe_call (ok_divisor_of Y) (hr.mono (by decide)) rfl Y.g_divisor_of Y.F_divisor_of.kp (Y.F_divisor_of.bindsN fun _ _ _ _ _ _ us hl => match us, hl with | [_], _ => rfl) (fa_cons (fe_var (pv 0)) (fa_nil)))) (fss_one (fs_ret (fe_if (ft_cmp (op_eqD hr.units) od_eq (fe_var (pv 1)) (fe_int)) (fe_callTy call_tuple_of cd_tuple rfl Y.m_tuple (by decide +kernel) (fa_cons (fe_var (pv 0)) (fa_nil))) (fe_callTy call_tuple_of cd_tuple rfl Y.m_tuple (by decide +kernel) (fa_cons (FO.fe (fo_lc (own := [("item", 2)]) rfl S.nd (fi_seq (fe_var (pv 0))) (blkOk_by (by rfl)) (fun _ _ _ _ _ => fg_name S.nd rfl (by first | exact Or.inl rfl | exact Or.inr rfl)) (fun _ _ _ _ _ => fts_nil) (fun _ _ _ _ _ => fe_op op_fdivW od_I (fe_var (pv 2)) (fe_var (pv 1))) (by decide))) (fa_nil))))))
theorem sc_is_index : FnScope ["thing", "many"] ["thing", "many"] (defScope (top 19)) := ⟨rfl, rfl, rfl, by decide +kernel, rfl, by decide +kernel, by decide +kernel⟩
theorem ok_is_index : FnOk P w K mg base CX0 3 Y.f_is_index Y.d_is_index ["thing", "many"] (spF Y.T 2 p_is_index) := by
  refine fnF Y.F_is_index sc_is_index (by simp) rfl rfl fun dr cdv A outer s H E hr => ?_
  have S := sc_is_index
  exact fss_one (fs_ret (fe_call (ok_is_between Y) (hr.mono (by decide)) rfl Y.g_is_between Y.F_is_between.kp (Y.F_is_between.bindsN fun _ _ _ _ _ _ us hl => match us, hl with | [_, _, _], _ => rfl) (fa_cons (fe_var (pv 0)) (fa_cons (fe_int) (fa_cons (fe_op op_sub od_I0 (fe_var (pv 1)) (fe_int)) (fa_nil))))))
theorem sc_ratio_of : FnScope ["above", "below", "found"] ["above", "below"] (defScope (top 21)) := ⟨rfl, rfl, rfl, by decide +kernel, rfl, by decide +kernel, by decide +kernel⟩
theorem ok_ratio_of : FnOk P w K mg base CX0 2 Y.f_ratio_of Y.d_ratio_of ["above", "below"] (spF Y.T 2 p_ratio_of) := by
  refine fnF Y.F_ratio_of sc_ratio_of (by simp) rfl rfl fun dr cdv A outer s H E hr => ?_
  have S := sc_ratio_of
  exact fss_cons (fs_set S.nd rfl (by first | exact Or.inl rfl | exact Or.inr rfl) (fe_if (ft_cmp op_gt od_B0 (fe_var (pv 1)) (fe_int)) (fe_call (ok_divisor_of Y) (hr.mono (by decide)) rfl Y.g_divisor_of Y.F_divisor_of.kp (Y.F_divisor_of.bindsN fun _ _ _ _ _ _ us hl => match us, hl with | [_], _ => rfl) (fa_cons (fe_tup (fa_cons (fe_var (pv 0)) (fa_cons (fe_var (pv 1)) (fa_nil)))) (fa_nil))) (fe_op op_sub od_I0 (fe_int) (fe_call (ok_divisor_of Y) (hr.mono (by decide)) rfl Y.g_divisor_of Y.F_divisor_of.kp (Y.F_divisor_of.bindsN fun _ _ _ _ _ _ us hl => match us, hl with | [_], _ => rfl) (fa_cons (fe_tup (fa_cons (fe_var (pv 0)) (fa_cons (fe_var (pv 1)) (fa_nil)))) (fa_nil)))))) (fss_one (fs_ret (fe_tup (fa_cons (fe_op op_fdivW od_I (fe_var (pv 0)) (fe_var (pv 2))) (fa_cons (fe_op op_fdivW od_I (fe_var (pv 1)) (fe_var (pv 2))) (fa_nil))))))
theorem sc_is_ratio : FnScope ["thing"] ["thing"] (defScope (top 22)) := ⟨rfl, rfl, rfl, by decide +kernel, rfl, by decide +kernel, by decide +kernel⟩
theorem ok_is_ratio : FnOk P w K mg base CX0 2 Y.f_is_ratio Y.d_is_ratio ["thing"] (spF Y.T 1 p_is_ratio) := by
  refine fnF Y.F_is_ratio sc_is_ratio (by simp) rfl rfl fun dr cdv A outer s H E hr => ?_
  have S := sc_is_ratio
  exact fss_cons (fs_if (FW.ft (fw_or (ft_not (ft_val (fe_isi rfl Y.m_isinstance (fe_var (pv 0)) (pe_bltn rfl Y.m_tuple (by decide +kernel) rfl)))) (fw_or (ft_cmp (op_neD hr.units) od_ne (fe_callB call_len_seq cd_len rfl Y.m_len (by decide +kernel) (fa_cons (fe_var (pv 0)) (fa_nil))) (fe_int)) (fw_or (ft_not (ft_val (fe_call (ok_is_number Y) (hr.mono (by decide)) rfl Y.g_is_number Y.F_is_number.kp (Y.F_is_number.bindsN fun _ _ _ _ _ _ us hl => match us, hl with | [_], _ => rfl) (fa_cons (fe_ix (fe_var (pv 0)) (fe_int)) (fa_nil))))) (fw_or1 (ft_not (ft_val (fe_call (ok_is_number Y) (hr.mono (by decide)) rfl Y.g_is_number Y.F_is_number.kp (Y.F_is_number.bindsN fun _ _ _ _ _ _ us hl => match us, hl with | [_], _ => rfl) (fa_cons (fe_ix (fe_var (pv 0)) (fe_int)) (fa_nil)))))))))) (fss_one (fs_ret (fe_bl))) (fss_nil)) (fss_one (fs_ret (fe_and (fe_cmp op_ge od_B0 (fe_ix (fe_var (pv 0)) (fe_int)) (fe_int)) (fe_one (fe_cmp (op_eqD hr.units) od_eq (fe_call (ok_divisor_of Y) (hr.mono (by decide)) rfl Y.g_divisor_of Y.F_divisor_of.kp (Y.F_divisor_of.bindsN fun _ _ _ _ _ _ us hl => match us, hl with | [_], _ => rfl) (fa_cons (fe_var (pv 0)) (fa_nil))) (fe_int))))))
theorem sc_sum_of : FnScope ["one", "other"] ["one", "other"] (defScope (top 23)) := ⟨rfl, rfl, rfl, by decide +kernel, rfl, by decide +kernel, by decide +kernel⟩
theorem ok_sum_of : FnOk P w K mg base CX0 3 Y.f_sum_of Y.d_sum_of ["one", "other"] (spF Y.T 2 p_sum_of) := by
  refine fnF Y.F_sum_of sc_sum_of (by simp) rfl rfl fun dr cdv A outer s H E hr => ?_
  have S := sc_sum_of
  exact fss_one (fs_ret (fe_call (ok_ratio_of Y) (hr.mono (by decide)) rfl Y.g_ratio_of Y.F_ratio_of.kp (Y.F_ratio_of.bindsN fun _ _ _ _ _ _ us hl => match us, hl with | [_, _], _ => rfl) (fa_cons (fe_op op_add od_I0 (fe_op op_mulB od_I (fe_ix (fe_var (pv 0)) (fe_int)) (fe_ix (fe_var (pv 1)) (fe_int))) (fe_op op_mulB od_I (fe_ix (fe_var (pv 1)) (fe_int)) (fe_ix (fe_var (pv 0)) (fe_int)))) (fa_cons (fe_op op_mulB od_I (fe_ix (fe_var (pv 0)) (fe_int)) (fe_ix (fe_var (pv 1)) (fe_int))) (fa_nil)))))
theorem sc_less_of : FnScope ["one", "other"] ["one", "other"] (defScope (top 24)) := ⟨rfl, rfl, rfl, by decide +kernel, rfl, by decide +kernel, by decide +kernel⟩
theorem ok_less_of : FnOk P w K mg base CX0 3 Y.f_less_of Y.d_less_of ["one", "other"] (spF Y.T 2 p_less_of) := by
  refine fnF Y.F_less_of sc_less_of (by simp) rfl rfl fun dr cdv A outer s H E hr => ?_
  have S := sc_less_of
  exact fss_one (fs_ret (fe_call (ok_ratio_of Y) (hr.mono (by decide)) rfl Y.g_ratio_of Y.F_ratio_of.kp (Y.F_ratio_of.bindsN fun _ _ _ _ _ _ us hl => match us, hl with | [_, _], _ => rfl) (fa_cons (fe_op op_sub od_I0 (fe_op op_mulB od_I (fe_ix (fe_var (pv 0)) (fe_int)) (fe_ix (fe_var (pv 1)) (fe_int))) (fe_op op_mulB od_I (fe_ix (fe_var (pv 1)) (fe_int)) (fe_ix (fe_var (pv 0)) (fe_int)))) (fa_cons (fe_op op_mulB od_I (fe_ix (fe_var (pv 0)) (fe_int)) (fe_ix (fe_var (pv 1)) (fe_int))) (fa_nil)))))
theorem sc_product_of : FnScope ["one", "other"] ["one", "other"] (defScope (top 25)) := ⟨rfl, rfl, rfl, by decide +kernel, rfl, by decide +kernel, by decide +kernel⟩
theorem ok_product_of : FnOk P w K mg base CX0 3 Y.f_product_of Y.d_product_of ["one", "other"] (spF Y.T 2 p_product_of) := by
  refine fnF Y.F_product_of sc_product_of (by simp) rfl rfl fun dr cdv A outer s H E hr => ?_
  have S := sc_product_of
  exact fss_one (fs_ret (fe_call (ok_ratio_of Y) (hr.mono (by decide)) rfl Y.g_ratio_of Y.F_ratio_of.kp (Y.F_ratio_of.bindsN fun _ _ _ _ _ _ us hl => match us, hl with | [_, _], _ => rfl) (fa_cons (fe_op op_mulB od_I (fe_ix (fe_var (pv 0)) (fe_int)) (fe_ix (fe_var (pv 1)) (fe_int))) (fa_cons (fe_op op_mulB od_I (fe_ix (fe_var (pv 0)) (fe_int)) (fe_ix (fe_var (pv 1)) (fe_int))) (fa_nil)))))
theorem sc_is_below : FnScope ["one", "other"] ["one", "other"] (defScope (top 26)) := ⟨rfl, rfl, rfl, by decide +kernel, rfl, by decide +kernel, by decide +kernel⟩
theorem ok_is_below : FnOk P w K mg base CX0 1 Y.f_is_below Y.d_is_below ["one", "other"] (spF Y.T 2 p_is_below) := by
  refine fnF Y.F_is_below sc_is_below (by simp) rfl rfl fun dr cdv A outer s H E hr => ?_
  have S := sc_is_below
  exact fss_one (fs_ret (fe_cmp op_lt od_B0 (fe_op op_mulB od_I (fe_ix (fe_var (pv 0)) (fe_int)) (fe_ix (fe_var (pv 1)) (fe_int))) (fe_op op_mulB od_I (fe_ix (fe_var (pv 1)) (fe_int)) (fe_ix (fe_var (pv 0)) (fe_int)))))
theorem sc_greatest_of : FnScope ["ratios", "found", "ratio_here"] ["ratios"] (defScope (top 27)) := ⟨rfl, rfl, rfl, by decide +kernel, rfl, by decide +kernel, by decide +kernel⟩
theorem ok_greatest_of : FnOk P w K mg base CX0 2 Y.f_greatest_of Y.d_greatest_of ["ratios"] (spF Y.T 1 p_greatest_of) := by
  refine fnF Y.F_greatest_of sc_greatest_of (by simp) rfl rfl fun dr cdv A outer s H E hr => ?_
  have S := sc_greatest_of
  exact fss_cons (fs_set S.nd rfl (by first | exact Or.inl rfl | exact Or.inr rfl) (fe_ix (fe_var (pv 0)) (fe_int))) (fss_cons (fs_for (passes_of rfl) rfl (fi_seq (fe_var (pv 0))) (fg_name S.nd rfl (by first | exact Or.inl rfl | exact Or.inr rfl)) (fss_one (fs_if (ft_val (fe_call (ok_is_below Y) (hr.mono (by decide)) rfl Y.g_is_below Y.F_is_below.kp (Y.F_is_below.bindsN fun _ _ _ _ _ _ us hl => match us, hl with | [_, _], _ => rfl) (fa_cons (fe_var (pv 1)) (fa_cons (fe_var (pv 2)) (fa_nil))))) (fss_one (fs_set S.nd rfl (by first | exact Or.inl rfl | exact Or.inr rfl) (fe_var (pv 2)))) (fss_nil)))) (fss_one (fs_ret (fe_var (pv 1)))))
theorem sc_total_of : FnScope ["ratios", "found", "ratio_here"] ["ratios"] (defScope (top 28)) := ⟨rfl, rfl, rfl, by decide +kernel, rfl, by decide +kernel, by decide +kernel⟩
theorem ok_total_of : FnOk P w K mg base CX0 4 Y.f_total_of Y.d_total_of ["ratios"] (spF Y.T 1 p_total_of) := by
  refine fnF Y.F_total_of sc_total_of (by simp) rfl rfl fun dr cdv A outer s H E hr => ?_
  have S := sc_total_of
  exact fss_cons (fs_set S.nd rfl (by first | exact Or.inl rfl | exact Or.inr rfl) (fe_tup (fa_cons (fe_int) (fa_cons (fe_int) (fa_nil))))) (fss_cons (fs_for (passes_of rfl) rfl (fi_seq (fe_var (pv 0))) (fg_name S.nd rfl (by first | exact Or.inl rfl | exact Or.inr rfl)) (fss_one (fs_set S.nd rfl (by first | exact Or.inl rfl | exact Or.inr rfl) (fe_call (ok_sum_of Y) (hr.mono (by decide)) rfl Y.g_sum_of Y.F_sum_of.kp (Y.F_sum_of.bindsN fun _ _ _ _ _ _ us hl => match us, hl with | [_, _], _ => rfl) (fa_cons (fe_var (pv 1)) (fa_cons (fe_var (pv 2)) (fa_nil))))))) (fss_one (fs_ret (fe_var (pv 1)))))
theorem sc_is_pair_of : FnScope ["many", "thing"] ["many", "thing"] (defScope (top 30)) := ⟨rfl, rfl, rfl, by decide +kernel, rfl, by decide +kernel, by decide +kernel⟩
theorem ok_is_pair_of : FnOk P w K mg base CX0 4 Y.f_is_pair_of Y.d_is_pair_of ["many", "thing"] (spF Y.T 2 p_is_pair_of) := by
  refine fnF Y.F_is_pair_of sc_is_pair_of (by simp) rfl rfl fun dr cdv A outer s H E hr => ?_
  have S := sc_is_pair_of
  exact fss_cons (fs_if (FW.ft (fw_or (ft_not (ft_val (fe_isi rfl Y.m_isinstance (fe_var (pv 1)) (pe_bltn rfl Y.m_tuple (by decide +kernel) rfl)))) (fw_or (ft_cmp (op_neD hr.units) od_ne (fe_callB call_len_seq cd_len rfl Y.m_len (by decide +kernel) (fa_cons (fe_var (pv 1)) (fa_nil))) (fe_int)) (fw_or (ft_not (ft_val (fe_call (ok_is_number Y) (hr.mono (by decide)) rfl Y.g_is_number Y.F_is_number.kp (Y.F_is_number.bindsN fun _ _ _ _ _ _ us hl => match us, hl with | [_], _ => rfl) (fa_cons (fe_ix (fe_var (pv 1)) (fe_int)) (fa_nil))))) (fw_or1 (ft_cmp op_lt od_B0 (fe_ix (fe_var (pv 1)) (fe_int)) (fe_int))))))) (fss_one (fs_ret (fe_bl))) (fss_nil)) (fss_one (fs_ret (fe_and (fe_call (ok_is_count_row Y) (hr.mono (by decide)) rfl Y.g_is_count_row Y.F_is_count_row.kp (Y.F_is_count_row.bindsN fun _ _ _ _ _ _ us hl => match us, hl with | [_, _], _ => rfl) (fa_cons (fe_ix (fe_var (pv 1)) (fe_int)) (fa_cons (fe_var (pv 0)) (fa_nil)))) (fe_one (fe_cmp (op_eqD hr.units) od_eq (fe_call (ok_divisor_of Y) (hr.mono (by decide)) rfl Y.g_divisor_of Y.F_divisor_of.kp (Y.F_divisor_of.bindsN fun _ _ _ _ _ _ us hl => match us, hl with | [_], _ => rfl) (fa_cons (fe_tup (fa_cons (fe_ix (fe_var (pv 1)) (fe_int)) (fa_star (fe_ix (fe_var (pv 1)) (fe_int)) (fa_nil)))) (fa_nil))) (fe_int))))))
theorem sc_is_share_of : FnScope ["many", "thing"] ["many", "thing"] (defScope (top 31)) := ⟨rfl, rfl, rfl, by decide +kernel, rfl, by decide +kernel, by decide +kernel⟩
theorem ok_is_share_of : FnOk P w K mg base CX0 5 Y.f_is_share_of Y.d_is_share_of ["many", "thing"] (spF Y.T 2 p_is_share_of) := by
  refine fnF Y.F_is_share_of sc_is_share_of (by simp) rfl rfl fun dr cdv A outer s H E hr => ?_
  have S := sc_is_share_of
  exact fss_one (fs_ret (fe_and (fe_call (ok_is_pair_of Y) (hr.mono (by decide)) rfl Y.g_is_pair_of Y.F_is_pair_of.kp (Y.F_is_pair_of.bindsN fun _ _ _ _ _ _ us hl => match us, hl with | [_, _], _ => rfl) (fa_cons (fe_var (pv 0)) (fa_cons (fe_var (pv 1)) (fa_nil)))) (fe_one (fe_cmp (op_eqD hr.units) od_eq (fe_callB (cr_sumB rfl) cd_sumB rfl Y.m_sum (by decide +kernel) (fa_cons (fe_ix (fe_var (pv 1)) (fe_int)) (fa_nil))) (fe_ix (fe_var (pv 1)) (fe_int))))))
theorem sc_need_share : FnScope ["many", "share"] ["many", "share"] (defScope (top 32)) := ⟨rfl, rfl, rfl, by decide +kernel, rfl, by decide +kernel, by decide +kernel⟩
theorem ok_need_share : FnOk P w K mg base CX0 6 Y.f_need_share Y.d_need_share ["many", "share"] (spF Y.T 2 p_need_share) := by
  refine fnF Y.F_need_share sc_need_share (by simp) rfl rfl fun dr cdv A outer s H E hr => ?_
  have S := sc_need_share
  exact fss_one (fs_if (ft_not (ft_val (fe_call (ok_is_share_of Y) (hr.mono (by decide)) rfl Y.g_is_share_of Y.F_is_share_of.kp (Y.F_is_share_of.bindsN fun _ _ _ _ _ _ us hl => match us, hl with | [_, _], _ => rfl) (fa_cons (fe_var (pv 0)) (fa_cons (fe_var (pv 1)) (fa_nil)))))) (fss_one (fs_never)) (fss_nil))
theorem sc_divided : FnScope ["line", "found", "item"] ["line"] (defScope (top 34)) := ⟨rfl, rfl, rfl, by decide +kernel, rfl, by decide +kernel, by decide +kernel⟩
theorem ok_divided : FnOk P w K mg base CX0 2 Y.f_divided Y.d_divided ["line"] (spF Y.T 1 p_divided) := by
  refine fnF Y.F_divided sc_divided (by simp) rfl rfl fun dr cdv A outer s H E hr => ?_
  have S := sc_divided
  exact fss_cons (fs_set S.nd rfl (by first | exact Or.inl rfl | exact Or.inr rfl) (fe_call (ok_divisor_of Y) (hr.mono (by decide)) rfl Y.g_divisor_of Y.F_divisor_of.kp (Y.F_divisor_of.bindsN fun _ _ _ _ _ _ us hl => match us, hl with | [_], _ => rfl) (fa_cons (fe_var (pv 0)) (fa_nil)))) (fss_one (fs_ret (fe_if (ft_cmp op_lt od_B0 (fe_var (pv 1)) (fe_int)) (fe_var (pv 0)) (FO.fe (fo_lc (own := [("item", 2)]) rfl S.nd (fi_seq (fe_var (pv 0))) (blkOk_by (by rfl)) (fun _ _ _ _ _ => fg_name S.nd rfl (by first | exact Or.inl rfl | exact Or.inr rfl)) (fun _ _ _ _ _ => fts_nil) (fun _ _ _ _ _ => fe_op op_fdivW od_I (fe_var (pv 2)) (fe_var (pv 1))) (by decide))))))
theorem sc_cleared : FnScope ["line", "pivot", "spot", "item", "there"] ["line", "pivot", "spot"] (defScope (top 35)) := ⟨rfl, rfl, rfl, by decide +kernel, rfl, by decide +kernel, by decide +kernel⟩
theorem ok_cleared : FnOk P w K mg base CX0 3 Y.f_cleared Y.d_cleared ["line", "pivot", "spot"] (spF Y.T 3 p_cleared) := by
  refine fnF Y.F_cleared sc_cleared (by simp) rfl rfl fun dr cdv A outer s H E hr => ?_
  have S := sc_cleared
  exact fss_cons (fs_if (ft_cmp (op_eqD hr.units) od_eq (fe_ix (fe_var (pv 0)) (fe_var (pv 2))) (fe_int)) (fss_one (fs_ret (fe_var (pv 0)))) (fss_nil)) (fss_one (fs_ret (fe_call (ok_divided Y) (hr.mono (by decide)) rfl Y.g_divided Y.F_divided.kp (Y.F_divided.bindsN fun _ _ _ _ _ _ us hl => match us, hl with | [_], _ => rfl) (fa_cons (FO.fe (fo_lc (own := [("item", 3), ("there", 4)]) rfl S.nd (fi_zip2 rfl Y.m_zip (fa_cons (fe_var (pv 0)) (fa_cons (fe_var (pv 1)) (fa_nil)))) (blkOk_by (by rfl)) (fun _ _ _ _ _ => fg_tup rfl (fgs_cons (fg_name S.nd rfl (by first | exact Or.inl rfl | exact Or.inr rfl)) (fgs_cons (fg_name S.nd rfl (by first | exact Or.inl rfl | exact Or.inr rfl)) (fgs_nil)))) (fun _ _ _ _ _ => fts_nil) (fun _ _ _ _ _ => fe_op op_sub od_I0 (fe_op op_mulB od_I (fe_ix (fe_var (pv 1)) (fe_var (pv 2))) (fe_var (pv 3))) (fe_op op_mulB od_I (fe_ix (fe_var (pv 0)) (fe_var (pv 2))) (fe_var (pv 4)))) (by decide))) (fa_nil)))))
theorem sc_stepped_lines : FnScope ["system", "width", "many", "left", "done", "spots", "spot", "fit", "pivot", "at", "pair", "k", "line"] ["system"] (defScope (top 36)) := ⟨rfl, rfl, rfl, by decide +kernel, rfl, by decide +kernel, by decide +kernel⟩
theorem ok_stepped_lines : FnOk P w K mg base CX0 4 Y.f_stepped_lines Y.d_stepped_lines ["system"] (spF Y.T 1 p_stepped_lines) := by
  refine fnF Y.F_stepped_lines sc_stepped_lines (by simp) rfl rfl fun dr cdv A outer s H E hr => ?_
  have S := sc_stepped_lines
  exact fss_cons ((by first | exact fs_par2 rfl S.nd rfl rfl (by decide) rfl rfl (fxs_cons (fx_P (fe_callB call_len_seq cd_len rfl Y.m_len (by decide +kernel) (fa_cons (fe_ix (fe_ix (fe_var (pv 0)) (fe_int)) (fe_int)) (fa_nil)))) (fxs_cons (fx_P (fe_callB call_len_seq cd_len rfl Y.m_len (by decide +kernel) (fa_cons (fe_var (pv 0)) (fa_nil)))) (fxs_nil))) | exact fs_parT rfl rfl (fns_cons S.nd rfl (by first | exact Or.inl rfl | exact Or.inr rfl) (fns_cons S.nd rfl (by first | exact Or.inl rfl | exact Or.inr rfl) (fns_nil))) (fxs_cons (fx_P (fe_callB call_len_seq cd_len rfl Y.m_len (by decide +kernel) (fa_cons (fe_ix (fe_ix (fe_var (pv 0)) (fe_int)) (fe_int)) (fa_nil)))) (fxs_cons (fx_P (fe_callB call_len_seq cd_len rfl Y.m_len (by decide +kernel) (fa_cons (fe_var (pv 0)) (fa_nil)))) (fxs_nil))))) (fss_cons ((by first | exact fs_setLc (own := [("at", 9), ("pair", 10)]) rfl S.nd rfl rfl (fi_enum rfl Y.m_enumerate (fa_cons (fe_var (pv 0)) (fa_nil))) (blkOk_by (by rfl)) (fun _ _ _ _ _ => fg_tup rfl (fgs_cons (fg_name S.nd rfl (by first | exact Or.inl rfl | exact Or.inr rfl)) (fgs_cons (fg_name S.nd rfl (by first | exact Or.inl rfl | exact Or.inr rfl)) (fgs_nil)))) (fun _ _ _ _ _ => fts_nil) (fun _ _ _ _ _ => FO.fe (fo_cat (FO.fe (fo_lst (fa_star (fe_ix (fe_var (pv 10)) (fe_int)) (fa_cons (fe_ix (fe_var (pv 10)) (fe_int)) (fa_nil))))) (FO.fe (fo_lc (own := [("k", 11)]) rfl S.nd (fi_range1 rfl Y.m_range (fa_cons (fe_var (pv 2)) (fa_nil))) (blkOk_by (by rfl)) (fun _ _ _ _ _ => fg_name S.nd rfl (by first | exact Or.inl rfl | exact Or.inr rfl)) (fun _ _ _ _ _ => fts_nil) (fun _ _ _ _ _ => fe_callTy call_int1 cd_int rfl Y.m_int (by decide +kernel) (fa_cons (fe_cmp (op_eqD hr.units) od_eq (fe_var (pv 11)) (fe_var (pv 9))) (fa_nil))) (by decide))))) (by decide) | exact fs_set S.nd rfl (by first | exact Or.inl rfl | exact Or.inr rfl) (FO.fe (fo_lc (own := [("at", 9), ("pair", 10)]) rfl S.nd (fi_enum rfl Y.m_enumerate (fa_cons (fe_var (pv 0)) (fa_nil))) (blkOk_by (by rfl)) (fun _ _ _ _ _ => fg_tup rfl (fgs_cons (fg_name S.nd rfl (by first | exact Or.inl rfl | exact Or.inr rfl)) (fgs_cons (fg_name S.nd rfl (by first | exact Or.inl rfl | exact Or.inr rfl)) (fgs_nil)))) (fun _ _ _ _ _ => fts_nil) (fun _ _ _ _ _ => FO.fe (fo_cat (FO.fe (fo_lst (fa_star (fe_ix (fe_var (pv 10)) (fe_int)) (fa_cons (fe_ix (fe_var (pv 10)) (fe_int)) (fa_nil))))) (FO.fe (fo_lc (own := [("k", 11)]) rfl S.nd (fi_range1 rfl Y.m_range (fa_cons (fe_var (pv 2)) (fa_nil))) (blkOk_by (by rfl)) (fun _ _ _ _ _ => fg_name S.nd rfl (by first | exact Or.inl rfl | exact Or.inr rfl)) (fun _ _ _ _ _ => fts_nil) (fun _ _ _ _ _ => fe_callTy call_int1 cd_int rfl Y.m_int (by decide +kernel) (fa_cons (fe_cmp (op_eqD hr.units) od_eq (fe_var (pv 11)) (fe_var (pv 9))) (fa_nil))) (by decide))))) (by decide))))) (fss_cons ((by first | exact fs_par2 rfl S.nd rfl rfl (by decide) rfl rfl (fxs_cons (fx_P (FO.fe (fo_lst (fa_nil)))) (fxs_cons (fx_O (fo_lst (fa_nil))) (fxs_nil))) | exact fs_parT rfl rfl (fns_cons S.nd rfl (by first | exact Or.inl rfl | exact Or.inr rfl) (fns_cons S.nd rfl (by first | exact Or.inl rfl | exact Or.inr rfl) (fns_nil))) (fxs_cons (fx_P (FO.fe (fo_lst (fa_nil)))) (fxs_cons (fx_O (fo_lst (fa_nil))) (fxs_nil))))) (fss_cons (fs_for (passes_of rfl) rfl (fi_range1 rfl Y.m_range (fa_cons (fe_var (pv 1)) (fa_nil))) (fg_name S.nd rfl (by first | exact Or.inl rfl | exact Or.inr rfl)) (fss_cons ((by first | exact fs_setLc (own := [("k", 11), ("line", 12)]) rfl S.nd rfl rfl (fi_enum rfl Y.m_enumerate (fa_cons (fe_var (pv 3)) (fa_nil))) (blkOk_by (by rfl)) (fun _ _ _ _ _ => fg_tup rfl (fgs_cons (fg_name S.nd rfl (by first | exact Or.inl rfl | exact Or.inr rfl)) (fgs_cons (fg_name S.nd rfl (by first | exact Or.inl rfl | exact Or.inr rfl)) (fgs_nil)))) (fun _ _ _ _ _ => fts_one (ft_cmp (op_neD hr.units) od_ne (fe_ix (fe_var (pv 12)) (fe_var (pv 6))) (fe_int))) (fun _ _ _ _ _ => fe_var (pv 11)) (by decide) | exact fs_set S.nd rfl (by first | exact Or.inl rfl | exact Or.inr rfl) (FO.fe (fo_lc (own := [("k", 11), ("line", 12)]) rfl S.nd (fi_enum rfl Y.m_enumerate (fa_cons (fe_var (pv 3)) (fa_nil))) (blkOk_by (by rfl)) (fun _ _ _ _ _ => fg_tup rfl (fgs_cons (fg_name S.nd rfl (by first | exact Or.inl rfl | exact Or.inr rfl)) (fgs_cons (fg_name S.nd rfl (by first | exact Or.inl rfl | exact Or.inr rfl)) (fgs_nil)))) (fun _ _ _ _ _ => fts_one (ft_cmp (op_neD hr.units) od_ne (fe_ix (fe_var (pv 12)) (fe_var (pv 6))) (fe_int))) (fun _ _ _ _ _ => fe_var (pv 11)) (by decide))))) (fss_one (fs_if (ft_cmp (op_neD hr.units) od_ne (fe_var (pv 7)) (FO.fe (fo_lst (fa_nil)))) (fss_cons (fs_set S.nd rfl (by first | exact Or.inl rfl | exact Or.inr rfl) (fe_ix (fe_var (pv 3)) (fe_ix (fe_var (pv 7)) (fe_int)))) (fss_cons ((by first | exact fs_setLc (own := [("k", 11), ("line", 12)]) rfl S.nd rfl rfl (fi_enum rfl Y.m_enumerate (fa_cons (fe_var (pv 3)) (fa_nil))) (blkOk_by (by rfl)) (fun _ _ _ _ _ => fg_tup rfl (fgs_cons (fg_name S.nd rfl (by first | exact Or.inl rfl | exact Or.inr rfl)) (fgs_cons (fg_name S.nd rfl (by first | exact Or.inl rfl | exact Or.inr rfl)) (fgs_nil)))) (fun _ _ _ _ _ => fts_one (ft_cmp (op_neD hr.units) od_ne (fe_var (pv 11)) (fe_ix (fe_var (pv 7)) (fe_int)))) (fun _ _ _ _ _ => fe_call (ok_cleared Y) (hr.mono (by decide)) rfl Y.g_cleared Y.F_cleared.kp (Y.F_cleared.bindsN fun _ _ _ _ _ _ us hl => match us, hl with | [_, _, _], _ => rfl) (fa_cons (fe_var (pv 12)) (fa_cons (fe_var (pv 8)) (fa_cons (fe_var (pv 6)) (fa_nil))))) (by decide) | exact fs_set S.nd rfl (by first | exact Or.inl rfl | exact Or.inr rfl) (FO.fe (fo_lc (own := [("k", 11), ("line", 12)]) rfl S.nd (fi_enum rfl Y.m_enumerate (fa_cons (fe_var (pv 3)) (fa_nil))) (blkOk_by (by rfl)) (fun _ _ _ _ _ => fg_tup rfl (fgs_cons (fg_name S.nd rfl (by first | exact Or.inl rfl | exact Or.inr rfl)) (fgs_cons (fg_name S.nd rfl (by first | exact Or.inl rfl | exact Or.inr rfl)) (fgs_nil)))) (fun _ _ _ _ _ => fts_one (ft_cmp (op_neD hr.units) od_ne (fe_var (pv 11)) (fe_ix (fe_var (pv 7)) (fe_int)))) (fun _ _ _ _ _ => fe_call (ok_cleared Y) (hr.mono (by decide)) rfl Y.g_cleared Y.F_cleared.kp (Y.F_cleared.bindsN fun _ _ _ _ _ _ us hl => match us, hl with | [_, _, _], _ => rfl) (fa_cons (fe_var (pv 12)) (fa_cons (fe_var (pv 8)) (fa_cons (fe_var (pv 6)) (fa_nil))))) (by decide))))) (fss_cons (fs_set S.nd rfl (by first | exact Or.inl rfl | exact Or.inr rfl) (FO.fe (fo_cat (FO.fe (fo_lc (own := [("line", 12)]) rfl S.nd (fi_seq (fe_var (pv 4))) (blkOk_by (by rfl)) (fun _ _ _ _ _ => fg_name S.nd rfl (by first | exact Or.inl rfl | exact Or.inr rfl)) (fun _ _ _ _ _ => fts_nil) (fun _ _ _ _ _ => fe_call (ok_cleared Y) (hr.mono (by decide)) rfl Y.g_cleared Y.F_cleared.kp (Y.F_cleared.bindsN fun _ _ _ _ _ _ us hl => match us, hl with | [_, _, _], _ => rfl) (fa_cons (fe_var (pv 12)) (fa_cons (fe_var (pv 8)) (fa_cons (fe_var (pv 6)) (fa_nil))))) (by decide))) (FO.fe (fo_lst (fa_cons (fe_var (pv 8)) (fa_nil))))))) (fss_one (fs_app (pv 5) (fe_var (pv 6))))))) (fss_nil))))) (fss_one (fs_ret (fe_tup (fa_cons (fe_var (pv 4)) (fa_cons (fe_var (pv 5)) (fa_cons (fe_var (pv 3)) (fa_nil))))))))))
theorem sc_bar_from : FnScope ["width", "left", "line", "sign", "item"] ["width", "left"] (defScope (top 37)) := ⟨rfl, rfl, rfl, by decide +kernel, rfl, by decide +kernel, by decide +kernel⟩
theorem ok_bar_from : FnOk P w K mg base CX0 3 Y.f_bar_from Y.d_bar_from ["width", "left"] (spF Y.T 2 p_bar_from) := by
  refine fnF Y.F_bar_from sc_bar_from (by simp) rfl rfl fun dr cdv A outer s H E hr => ?_
  have S := sc_bar_from
  exact fss_cons (fs_for (passes_of rfl) rfl (fi_seq (fe_var (pv 1))) (fg_name S.nd rfl (by first | exact Or.inl rfl | exact Or.inr rfl)) (fss_one (fs_if (ft_cmp (op_neD hr.units) od_ne (fe_ix (fe_var (pv 2)) (fe_var (pv 0))) (fe_int)) (fss_cons (fs_set S.nd rfl (by first | exact Or.inl rfl | exact Or.inr rfl) (fe_if (ft_cmp op_gt od_B0 (fe_ix (fe_var (pv 2)) (fe_var (pv 0))) (fe_int)) (fe_int) (fe_neg (fe_int)))) (fss_one (fs_ret (fe_call (ok_plain_row Y) (hr.mono (by decide)) rfl Y.g_plain_row Y.F_plain_row.kp (Y.F_plain_row.bindsN fun _ _ _ _ _ _ us hl => match us, hl with | [_], _ => rfl) (fa_cons (FO.fe (fo_lc (own := [("item", 4)]) rfl S.nd (fi_seq (FO.fe (fo_slice (fe_var (pv 2)) (fp_some (fe_op op_add od_I0 (fe_var (pv 0)) (fe_int))) (fp_none)))) (blkOk_by (by rfl)) (fun _ _ _ _ _ => fg_name S.nd rfl (by first | exact Or.inl rfl | exact Or.inr rfl)) (fun _ _ _ _ _ => fts_nil) (fun _ _ _ _ _ => fe_op op_mulB od_I (fe_var (pv 3)) (fe_var (pv 4))) (by decide))) (fa_nil)))))) (fss_nil)))) (fss_one (fs_ret (fe_non)))
theorem sc_answer_from : FnScope ["width", "done", "spots", "scale", "line", "spot", "numbers"] ["width", "done", "spots"] (defScope (top 38)) := ⟨rfl, rfl, rfl, by decide +kernel, rfl, by decide +kernel, by decide +kernel⟩
theorem ok_answer_from : FnOk P w K mg base CX0 3 Y.f_answer_from Y.d_answer_from ["width", "done", "spots"] (spF Y.T 3 p_answer_from) := by
  refine fnF Y.F_answer_from sc_answer_from (by simp) rfl rfl fun dr cdv A outer s H E hr => ?_
  have S := sc_answer_from
  exact fss_cons (fs_set S.nd rfl (by first | exact Or.inl rfl | exact Or.inr rfl) (fe_int)) (fss_cons (fs_for (passes_of rfl) rfl (fi_zip2 rfl Y.m_zip (fa_cons (fe_var (pv 1)) (fa_cons (fe_var (pv 2)) (fa_nil)))) (fg_tup rfl (fgs_cons (fg_name S.nd rfl (by first | exact Or.inl rfl | exact Or.inr rfl)) (fgs_cons (fg_name S.nd rfl (by first | exact Or.inl rfl | exact Or.inr rfl)) (fgs_nil)))) (fss_one (fs_set S.nd rfl (by first | exact Or.inl rfl | exact Or.inr rfl) (fe_op op_mulB od_I (fe_op op_fdivW od_I (fe_var (pv 3)) (fe_call (ok_divisor_of Y) (hr.mono (by decide)) rfl Y.g_divisor_of Y.F_divisor_of.kp (Y.F_divisor_of.bindsN fun _ _ _ _ _ _ us hl => match us, hl with | [_], _ => rfl) (fa_cons (fe_tup (fa_cons (fe_var (pv 3)) (fa_cons (fe_ix (fe_var (pv 4)) (fe_var (pv 5))) (fa_nil)))) (fa_nil)))) (fe_callB call_abs cd_abs rfl Y.m_abs (by decide +kernel) (fa_cons (fe_ix (fe_var (pv 4)) (fe_var (pv 5))) (fa_nil))))))) (fss_cons (fs_setO S.nd rfl (by first | exact Or.inl rfl | exact Or.inr rfl) (fo_rep (FO.fe (fo_lst (fa_cons (fe_int) (fa_nil)))) (fe_var (pv 0)))) (fss_cons (fs_for (passes_of rfl) rfl (fi_zip2 rfl Y.m_zip (fa_cons (fe_var (pv 1)) (fa_cons (fe_var (pv 2)) (fa_nil)))) (fg_tup rfl (fgs_cons (fg_name S.nd rfl (by first | exact Or.inl rfl | exact Or.inr rfl)) (fgs_cons (fg_name S.nd rfl (by first | exact Or.inl rfl | exact Or.inr rfl)) (fgs_nil)))) (fss_one (fs_put (pv 6) (fe_op op_mulB od_I (fe_op op_mulB od_I (fe_ix (fe_var (pv 4)) (fe_var (pv 0))) (fe_op op_fdivW od_I (fe_var (pv 3)) (fe_callB call_abs cd_abs rfl Y.m_abs (by decide +kernel) (fa_cons (fe_ix (fe_var (pv 4)) (fe_var (pv 5))) (fa_nil))))) (fe_if (ft_cmp op_gt od_B0 (fe_ix (fe_var (pv 4)) (fe_var (pv 5))) (fe_int)) (fe_int) (fe_neg (fe_int)))) (fe_var (pv 5))))) (fss_one (fs_ret (fe_call (ok_least_pair Y) (hr.mono (by decide)) rfl Y.g_least_pair Y.F_least_pair.kp (Y.F_least_pair.bindsN fun _ _ _ _ _ _ us hl => match us, hl with | [_, _], _ => rfl) (fa_cons (fe_var (pv 3)) (fa_cons (fe_var (pv 6)) (fa_nil)))))))))
theorem sc_answer_of : FnScope ["system", "width", "done", "spots", "left"] ["system"] (defScope (top 39)) := ⟨rfl, rfl, rfl, by decide +kernel, rfl, by decide +kernel, by decide +kernel⟩
theorem ok_answer_of : FnOk P w K mg base CX0 5 Y.f_answer_of Y.d_answer_of ["system"] (spF Y.T 1 p_answer_of) := by
  refine fnF Y.F_answer_of sc_answer_of (by simp) rfl rfl fun dr cdv A outer s H E hr => ?_
  have S := sc_answer_of
  exact fss_cons (fs_set S.nd rfl (by first | exact Or.inl rfl | exact Or.inr rfl) (fe_callB call_len_seq cd_len rfl Y.m_len (by decide +kernel) (fa_cons (fe_ix (fe_ix (fe_var (pv 0)) (fe_int)) (fe_int)) (fa_nil)))) (fss_cons (fs_asg (fe_call (ok_stepped_lines Y) (hr.mono (by decide)) rfl Y.g_stepped_lines Y.F_stepped_lines.kp (Y.F_stepped_lines.bindsN fun _ _ _ _ _ _ us hl => match us, hl with | [_], _ => rfl) (fa_cons (fe_var (pv 0)) (fa_nil))) (fg_tup rfl (fgs_cons (fg_name S.nd rfl (by first | exact Or.inl rfl | exact Or.inr rfl)) (fgs_cons (fg_name S.nd rfl (by first | exact Or.inl rfl | exact Or.inr rfl)) (fgs_cons (fg_name S.nd rfl (by first | exact Or.inl rfl | exact Or.inr rfl)) (fgs_nil)))))) (fss_one (fs_ret (fe_if (ft_cmp op_isN od_isN (fe_call (ok_bar_from Y) (hr.mono (by decide)) rfl Y.g_bar_from Y.F_bar_from.kp (Y.F_bar_from.bindsN fun _ _ _ _ _ _ us hl => match us, hl with | [_, _], _ => rfl) (fa_cons (fe_var (pv 1)) (fa_cons (fe_var (pv 4)) (fa_nil)))) (fe_non)) (fe_call (ok_answer_from Y) (hr.mono (by decide)) rfl Y.g_answer_from Y.F_answer_from.kp (Y.F_answer_from.bindsN fun _ _ _ _ _ _ us hl => match us, hl with | [_, _, _], _ => rfl) (fa_cons (fe_var (pv 1)) (fa_cons (fe_var (pv 2)) (fa_cons (fe_var (pv 3)) (fa_nil))))) (fe_non)))))
theorem sc_is_chance_row : FnScope ["many", "thing"] ["many", "thing"] (defScope (top 42)) := ⟨rfl, rfl, rfl, by decide +kernel, rfl, by decide +kernel, by decide +kernel⟩
theorem ok_is_chance_row : FnOk P w K mg base CX0 4 Y.f_is_chance_row Y.d_is_chance_row ["many", "thing"] (spF Y.T 2 p_is_chance_row) := by
  refine fnF Y.F_is_chance_row sc_is_chance_row (by simp) rfl rfl fun dr cdv A outer s H E hr => ?_
  have S := sc_is_chance_row
  exact fss_cons (fs_if (FW.ft (fw_or (ft_not (ft_val (fe_isi rfl Y.m_isinstance (fe_var (pv 1)) (pe_bltn rfl Y.m_tuple (by decide +kernel) rfl)))) (fw_or (ft_cmp (op_neD hr.units) od_ne (fe_callB call_len_seq cd_len rfl Y.m_len (by decide +kernel) (fa_cons (fe_var (pv 1)) (fa_nil))) (fe_int)) (fw_or (ft_not (ft_val (fe_call (ok_is_number Y) (hr.mono (by decide)) rfl Y.g_is_number Y.F_is_number.kp (Y.F_is_number.bindsN fun _ _ _ _ _ _ us hl => match us, hl with | [_], _ => rfl) (fa_cons (fe_ix (fe_var (pv 1)) (fe_int)) (fa_nil))))) (fw_or1 (ft_cmp op_lt od_B0 (fe_ix (fe_var (pv 1)) (fe_int)) (fe_int))))))) (fss_one (fs_ret (fe_bl))) (fss_nil)) (fss_one (fs_ret (fe_and (fe_call (ok_is_count_row Y) (hr.mono (by decide)) rfl Y.g_is_count_row Y.F_is_count_row.kp (Y.F_is_count_row.bindsN fun _ _ _ _ _ _ us hl => match us, hl with | [_, _], _ => rfl) (fa_cons (fe_ix (fe_var (pv 1)) (fe_int)) (fa_cons (fe_var (pv 0)) (fa_nil)))) (fe_one (fe_cmp op_le od_B0 (fe_callB (cr_sumB rfl) cd_sumB rfl Y.m_sum (by decide +kernel) (fa_cons (fe_ix (fe_var (pv 1)) (fe_int)) (fa_nil))) (fe_ix (fe_var (pv 1)) (fe_int)))))))
theorem sc_Walk_init_ : FnScope ["self", "rows", "total", "numbers", "row"] ["self", "rows"] (defScope (inClass (top 43) 0)) := ⟨rfl, rfl, rfl, by decide +kernel, rfl, by decide +kernel, by decide +kernel⟩
theorem ok_Walk_init_ : FnOk P w K mg base CX0 5 Y.f_Walk_init_ Y.d_Walk_init_ ["self", "rows"] (spI Y.T 0 1 p_Walk_init_) := by
  refine fnI Y.F_Walk_init_ sc_Walk_init_ (by simp) rfl rfl fun dr cdv A outer s H E hr => ?_
  have S := sc_Walk_init_
  exact fss_cons (fs_if (FW.ft (fw_or (ft_not (ft_val (fe_call (ok_is_list Y) (hr.mono (by decide)) rfl Y.g_is_list Y.F_is_list.kp (Y.F_is_list.bindsN fun _ _ _ _ _ _ us hl => match us, hl with | [_], _ => rfl) (fa_cons (fe_var (pv 1)) (fa_nil))))) (fw_or1 (ft_not (ft_chain op_le od_B0 op_le od_B0 (fe_int) (fe_callB call_len_seq cd_len rfl Y.m_len (by decide +kernel) (fa_cons (fe_var (pv 1)) (fa_nil))) (fe_const (v := .int 8) (pe_glob rfl Y.i_MOST_PLACES.choose_spec (show RelV (.int 8) _ from ⟨_, rfl⟩)) (fun _ => Rep.int_iff.mpr rfl))))))) (fss_one (fs_never)) (fss_nil)) (fss_cons (fs_if (ft_not (ft_val (fe_callB (cr_all rfl) cd_all rfl Y.m_all (by decide +kernel) (fa_cons (FO.fe (fo_lc (own := [("row", 4)]) rfl S.nd (fi_seq (fe_var (pv 1))) (blkOk_by (by rfl)) (fun _ _ _ _ _ => fg_name S.nd rfl (by first | exact Or.inl rfl | exact Or.inr rfl)) (fun _ _ _ _ _ => fts_nil) (fun _ _ _ _ _ => fe_call (ok_is_chance_row Y) (hr.mono (by decide)) rfl Y.g_is_chance_row Y.F_is_chance_row.kp (Y.F_is_chance_row.bindsN fun _ _ _ _ _ _ us hl => match us, hl with | [_, _], _ => rfl) (fa_cons (fe_callB call_len_seq cd_len rfl Y.m_len (by decide +kernel) (fa_cons (fe_var (pv 1)) (fa_nil))) (fa_cons (fe_var (pv 4)) (fa_nil)))) (by decide))) (fa_nil))))) (fss_one (fs_never)) (fss_nil)) (fss_cons (fs_attrN rfl Y.tab (pv 0) (fe_callTy call_tuple_of cd_tuple rfl Y.m_tuple (by decide +kernel) (fa_cons (FO.fe (fo_lc (own := [("total", 2), ("numbers", 3)]) rfl S.nd (fi_seq (fe_var (pv 1))) (blkOk_by (by rfl)) (fun _ _ _ _ _ => fg_tup rfl (fgs_cons (fg_name S.nd rfl (by first | exact Or.inl rfl | exact Or.inr rfl)) (fgs_cons (fg_name S.nd rfl (by first | exact Or.inl rfl | exact Or.inr rfl)) (fgs_nil)))) (fun _ _ _ _ _ => fts_nil) (fun _ _ _ _ _ => fe_call (ok_least_pair Y) (hr.mono (by decide)) rfl Y.g_least_pair Y.F_least_pair.kp (Y.F_least_pair.bindsN fun _ _ _ _ _ _ us hl => match us, hl with | [_, _], _ => rfl) (fa_cons (fe_var (pv 2)) (fa_cons (fe_var (pv 3)) (fa_nil)))) (by decide))) (fa_nil)))) (fss_one (fs_attrFN rfl Y.tab (pv 0) (fe_callB call_len_seq cd_len rfl Y.m_len (by decide +kernel) (fa_cons (fe_fldN rfl Y.tab (fe_var (pv 0))) (fa_nil)))))))
theorem sc_Walk_eq_ : FnScope ["self", "other"] ["self", "other"] (defScope (inClass (top 43) 1)) := ⟨rfl, rfl, rfl, by decide +kernel, rfl, by decide +kernel, by decide +kernel⟩
theorem ok_Walk_eq_ : FnOk P w K mg base CX0 1 Y.f_Walk_eq_ Y.d_Walk_eq_ ["self", "other"] (spF Y.T 2 p_Walk_eq_) := by
  refine fnF Y.F_Walk_eq_ sc_Walk_eq_ (by simp) rfl rfl fun dr cdv A outer s H E hr => ?_
  have S := sc_Walk_eq_
  exact fss_one (fs_ret (fe_and (fe_isC Y.I_Walk rfl rfl Y.m_isinstance (fe_var (pv 1)) (pe_glob rfl Y.g_Walk rfl)) (fe_one (fe_cmp (op_eqD hr.units) od_eq (fe_fldN rfl Y.tab (fe_var (pv 0))) (fe_fldN rfl Y.tab (fe_var (pv 1)))))))
theorem sc_are_ratios : FnScope ["thing", "many", "item"] ["thing", "many"] (defScope (top 45)) := ⟨rfl, rfl, rfl, by decide +kernel, rfl, by decide +kernel, by decide +kernel⟩
theorem ok_are_ratios : FnOk P w K mg base CX0 3 Y.f_are_ratios Y.d_are_ratios ["thing", "many"] (spF Y.T 2 p_are_ratios) := by
  refine fnF Y.F_are_ratios sc_are_ratios (by simp) rfl rfl fun dr cdv A outer s H E hr => ?_
  have S := sc_are_ratios
  exact fss_one (fs_ret (fe_and (fe_isi rfl Y.m_isinstance (fe_var (pv 0)) (pe_bltn rfl Y.m_tuple (by decide +kernel) rfl)) (fe_and (fe_cmp (op_eqD hr.units) od_eq (fe_callB call_len_seq cd_len rfl Y.m_len (by decide +kernel) (fa_cons (fe_var (pv 0)) (fa_nil))) (fe_var (pv 1))) (fe_one (fe_callB (cr_all rfl) cd_all rfl Y.m_all (by decide +kernel) (fa_cons (FO.fe (fo_lc (own := [("item", 2)]) rfl S.nd (fi_seq (fe_var (pv 0))) (blkOk_by (by rfl)) (fun _ _ _ _ _ => fg_name S.nd rfl (by first | exact Or.inl rfl | exact Or.inr rfl)) (fun _ _ _ _ _ => fts_nil) (fun _ _ _ _ _ => fe_call (ok_is_ratio Y) (hr.mono (by decide)) rfl Y.g_is_ratio Y.F_is_ratio.kp (Y.F_is_ratio.bindsN fun _ _ _ _ _ _ us hl => match us, hl with | [_], _ => rfl) (fa_cons (fe_var (pv 2)) (fa_nil))) (by decide))) (fa_nil)))))))
theorem sc_mean_by : FnScope ["row", "values", "total", "numbers", "number", "value"] ["row", "values"] (defScope (top 46)) := ⟨rfl, rfl, rfl, by decide +kernel, rfl, by decide +kernel, by decide +kernel⟩
theorem ok_mean_by : FnOk P w K mg base CX0 5 Y.f_mean_by Y.d_mean_by ["row", "values"] (spF Y.T 2 p_mean_by) := by
  refine fnF Y.F_mean_by sc_mean_by (by simp) rfl rfl fun dr cdv A outer s H E hr => ?_
  have S := sc_mean_by
  exact fss_cons (fs_asg (fe_var (pv 0)) (fg_tup rfl (fgs_cons (fg_name S.nd rfl (by first | exact Or.inl rfl | exact Or.inr rfl)) (fgs_cons (fg_name S.nd rfl (by first | exact Or.inl rfl | exact Or.inr rfl)) (fgs_nil))))) (fss_one (fs_ret (fe_call (ok_total_of Y) (hr.mono (by decide)) rfl Y.g_total_of Y.F_total_of.kp (Y.F_total_of.bindsN fun _ _ _ _ _ _ us hl => match us, hl with | [_], _ => rfl) (fa_cons (FO.fe (fo_lc (own := [("number", 4), ("value", 5)]) rfl S.nd (fi_zip2 rfl Y.m_zip (fa_cons (fe_var (pv 3)) (fa_cons (fe_var (pv 1)) (fa_nil)))) (blkOk_by (by rfl)) (fun _ _ _ _ _ => fg_tup rfl (fgs_cons (fg_name S.nd rfl (by first | exact Or.inl rfl | exact Or.inr rfl)) (fgs_cons (fg_name S.nd rfl (by first | exact Or.inl rfl | exact Or.inr rfl)) (fgs_nil)))) (fun _ _ _ _ _ => fts_nil) (fun _ _ _ _ _ => fe_call (ok_product_of Y) (hr.mono (by decide)) rfl Y.g_product_of Y.F_product_of.kp (Y.F_product_of.bindsN fun _ _ _ _ _ _ us hl => match us, hl with | [_, _], _ => rfl) (fa_cons (fe_var (pv 5)) (fa_cons (fe_tup (fa_cons (fe_var (pv 4)) (fa_cons (fe_var (pv 2)) (fa_nil)))) (fa_nil)))) (by decide))) (fa_nil)))))
theorem sc_are_moves : FnScope ["thing", "rows", "row"] ["thing"] (defScope (top 48)) := ⟨rfl, rfl, rfl, by decide +kernel, rfl, by decide +kernel, by decide +kernel⟩
theorem ok_are_moves : FnOk P w K mg base CX0 5 Y.f_are_moves Y.d_are_moves ["thing"] (spF Y.T 1 p_are_moves) := by
  refine fnF Y.F_are_moves sc_are_moves (by simp) rfl rfl fun dr cdv A outer s H E hr => ?_
  have S := sc_are_moves
  exact fss_cons (fs_if (FW.ft (fw_or (ft_not (ft_val (fe_call (ok_is_list Y) (hr.mono (by decide)) rfl Y.g_is_list Y.F_is_list.kp (Y.F_is_list.bindsN fun _ _ _ _ _ _ us hl => match us, hl with | [_], _ => rfl) (fa_cons (fe_var (pv 0)) (fa_nil))))) (fw_or1 (ft_not (ft_chain op_le od_B0 op_le od_B0 (fe_int) (fe_callB call_len_seq cd_len rfl Y.m_len (by decide +kernel) (fa_cons (fe_var (pv 0)) (fa_nil))) (fe_int)))))) (fss_one (fs_ret (fe_bl))) (fss_nil)) (fss_cons (fs_for (passes_of rfl) rfl (fi_seq (fe_var (pv 0))) (fg_name S.nd rfl (by first | exact Or.inl rfl | exact Or.inr rfl)) (fss_one (fs_if (FW.ft (fw_or (ft_not (ft_val (fe_call (ok_is_list Y) (hr.mono (by decide)) rfl Y.g_is_list Y.F_is_list.kp (Y.F_is_list.bindsN fun _ _ _ _ _ _ us hl => match us, hl with | [_], _ => rfl) (fa_cons (fe_var (pv 1)) (fa_nil))))) (fw_or (ft_not (ft_chain op_le od_B0 op_le od_B0 (fe_int) (fe_callB call_len_seq cd_len rfl Y.m_len (by decide +kernel) (fa_cons (fe_var (pv 1)) (fa_nil))) (fe_int))) (fw_or1 (ft_not (ft_val (fe_callB (cr_all rfl) cd_all rfl Y.m_all (by decide +kernel) (fa_cons (FO.fe (fo_lc (own := [("row", 2)]) rfl S.nd (fi_seq (fe_var (pv 1))) (blkOk_by (by rfl)) (fun _ _ _ _ _ => fg_name S.nd rfl (by first | exact Or.inl rfl | exact Or.inr rfl)) (fun _ _ _ _ _ => fts_nil) (fun _ _ _ _ _ => fe_call (ok_is_chance_row Y) (hr.mono (by decide)) rfl Y.g_is_chance_row Y.F_is_chance_row.kp (Y.F_is_chance_row.bindsN fun _ _ _ _ _ _ us hl => match us, hl with | [_, _], _ => rfl) (fa_cons (fe_callB call_len_seq cd_len rfl Y.m_len (by decide +kernel) (fa_cons (fe_var (pv 0)) (fa_nil))) (fa_cons (fe_var (pv 2)) (fa_nil)))) (by decide))) (fa_nil))))))))) (fss_one (fs_ret (fe_bl))) (fss_nil)))) (fss_one (fs_ret (fe_bl))))
theorem sc_House_init_ : FnScope ["self", "moves", "rows", "total", "numbers"] ["self", "moves"] (defScope (inClass (top 49) 0)) := ⟨rfl, rfl, rfl, by decide +kernel, rfl, by decide +kernel, by decide +kernel⟩
theorem ok_House_init_ : FnOk P w K mg base CX0 6 Y.f_House_init_ Y.d_House_init_ ["self", "moves"] (spI Y.T 1 1 p_House_init_) := by
  refine fnI Y.F_House_init_ sc_House_init_ (by simp) rfl rfl fun dr cdv A outer s H E hr => ?_
  have S := sc_House_init_
  exact fss_cons (fs_if (ft_not (ft_val (fe_call (ok_are_moves Y) (hr.mono (by decide)) rfl Y.g_are_moves Y.F_are_moves.kp (Y.F_are_moves.bindsN fun _ _ _ _ _ _ us hl => match us, hl with | [_], _ => rfl) (fa_cons (fe_var (pv 1)) (fa_nil))))) (fss_one (fs_never)) (fss_nil)) (fss_cons (fs_attrN rfl Y.tab (pv 0) (fe_callTy call_tuple_of cd_tuple rfl Y.m_tuple (by decide +kernel) (fa_cons (FO.fe (fo_lc (own := [("rows", 2)]) rfl S.nd (fi_seq (fe_var (pv 1))) (blkOk_by (by rfl)) (fun _ _ _ _ _ => fg_name S.nd rfl (by first | exact Or.inl rfl | exact Or.inr rfl)) (fun _ _ _ _ _ => fts_nil) (fun _ _ _ _ _ => fe_callTy call_tuple_of cd_tuple rfl Y.m_tuple (by decide +kernel) (fa_cons (FO.fe (fo_lc (own := [("total", 3), ("numbers", 4)]) rfl S.nd (fi_seq (fe_var (pv 2))) (blkOk_by (by rfl)) (fun _ _ _ _ _ => fg_tup rfl (fgs_cons (fg_name S.nd rfl (by first | exact Or.inl rfl | exact Or.inr rfl)) (fgs_cons (fg_name S.nd rfl (by first | exact Or.inl rfl | exact Or.inr rfl)) (fgs_nil)))) (fun _ _ _ _ _ => fts_nil) (fun _ _ _ _ _ => fe_call (ok_least_pair Y) (hr.mono (by decide)) rfl Y.g_least_pair Y.F_least_pair.kp (Y.F_least_pair.bindsN fun _ _ _ _ _ _ us hl => match us, hl with | [_, _], _ => rfl) (fa_cons (fe_var (pv 3)) (fa_cons (fe_var (pv 4)) (fa_nil)))) (by decide))) (fa_nil))) (by decide))) (fa_nil)))) (fss_one (fs_attrFN rfl Y.tab (pv 0) (fe_callB call_len_seq cd_len rfl Y.m_len (by decide +kernel) (fa_cons (fe_fldN rfl Y.tab (fe_var (pv 0))) (fa_nil))))))
theorem sc_House_eq_ : FnScope ["self", "other"] ["self", "other"] (defScope (inClass (top 49) 1)) := ⟨rfl, rfl, rfl, by decide +kernel, rfl, by decide +kernel, by decide +kernel⟩
theorem ok_House_eq_ : FnOk P w K mg base CX0 1 Y.f_House_eq_ Y.d_House_eq_ ["self", "other"] (spF Y.T 2 p_House_eq_) := by
  refine fnF Y.F_House_eq_ sc_House_eq_ (by simp) rfl rfl fun dr cdv A outer s H E hr => ?_
  have S := sc_House_eq_
  exact fss_one (fs_ret (fe_and (fe_isC Y.I_House rfl rfl Y.m_isinstance (fe_var (pv 1)) (pe_glob rfl Y.g_House rfl)) (fe_one (fe_cmp (op_eqD hr.units) od_eq (fe_fldN rfl Y.tab (fe_var (pv 0))) (fe_fldN rfl Y.tab (fe_var (pv 1)))))))
theorem sc_need_house : FnScope ["house"] ["house"] (defScope (top 50)) := ⟨rfl, rfl, rfl, by decide +kernel, rfl, by decide +kernel, by decide +kernel⟩
theorem ok_need_house : FnOk P w K mg base CX0 1 Y.f_need_house Y.d_need_house ["house"] (spF Y.T 1 p_need_house) := by
  refine fnF Y.F_need_house sc_need_house (by simp) rfl rfl fun dr cdv A outer s H E hr => ?_
  have S := sc_need_house
  exact fss_one (fs_if (ft_not (ft_val (fe_isC Y.I_House rfl rfl Y.m_isinstance (fe_var (pv 0)) (pe_glob rfl Y.g_House rfl)))) (fss_one (fs_never)) (fss_nil))
theorem sc_is_plan : FnScope ["house", "thing", "item", "rows"] ["house", "thing"] (defScope (top 51)) := ⟨rfl, rfl, rfl, by decide +kernel, rfl, by decide +kernel, by decide +kernel⟩
theorem ok_is_plan : FnOk P w K mg base CX0 4 Y.f_is_plan Y.d_is_plan ["house", "thing"] (spF Y.T 2 p_is_plan) := by
  refine fnF Y.F_is_plan sc_is_plan (by simp) rfl rfl fun dr cdv A outer s H E hr => ?_
  have S := sc_is_plan
  exact fss_cons (fs_if (FW.ft (fw_or (ft_not (ft_val (fe_isi rfl Y.m_isinstance (fe_var (pv 1)) (pe_bltn rfl Y.m_tuple (by decide +kernel) rfl)))) (fw_or1 (ft_cmp (op_neD hr.units) od_ne (fe_callB call_len_seq cd_len rfl Y.m_len (by decide +kernel) (fa_cons (fe_var (pv 1)) (fa_nil))) (fe_fldN rfl Y.tab (fe_var (pv 0))))))) (fss_one (fs_ret (fe_bl))) (fss_nil)) (fss_one (fs_ret (fe_callB (cr_all rfl) cd_all rfl Y.m_all (by decide +kernel) (fa_cons (FO.fe (fo_lc (own := [("item", 2), ("rows", 3)]) rfl S.nd (fi_zip2 rfl Y.m_zip (fa_cons (fe_var (pv 1)) (fa_cons (fe_fldN rfl Y.tab (fe_var (pv 0))) (fa_nil)))) (blkOk_by (by rfl)) (fun _ _ _ _ _ => fg_tup rfl (fgs_cons (fg_name S.nd rfl (by first | exact Or.inl rfl | exact Or.inr rfl)) (fgs_cons (fg_name S.nd rfl (by first | exact Or.inl rfl | exact Or.inr rfl)) (fgs_nil)))) (fun _ _ _ _ _ => fts_nil) (fun _ _ _ _ _ => fe_call (ok_is_index Y) (hr.mono (by decide)) rfl Y.g_is_index Y.F_is_index.kp (Y.F_is_index.bindsN fun _ _ _ _ _ _ us hl => match us, hl with | [_, _], _ => rfl) (fa_cons (fe_var (pv 2)) (fa_cons (fe_callB call_len_seq cd_len rfl Y.m_len (by decide +kernel) (fa_cons (fe_var (pv 3)) (fa_nil))) (fa_nil)))) (by decide))) (fa_nil)))))
theorem sc_need_plan : FnScope ["house", "plan"] ["house", "plan"] (defScope (top 52)) := ⟨rfl, rfl, rfl, by decide +kernel, rfl, by decide +kernel, by decide +kernel⟩
theorem ok_need_plan : FnOk P w K mg base CX0 5 Y.f_need_plan Y.d_need_plan ["house", "plan"] (spF Y.T 2 p_need_plan) := by
  refine fnF Y.F_need_plan sc_need_plan (by simp) rfl rfl fun dr cdv A outer s H E hr => ?_
  have S := sc_need_plan
  exact fss_one (fs_if (ft_not (ft_val (fe_call (ok_is_plan Y) (hr.mono (by decide)) rfl Y.g_is_plan Y.F_is_plan.kp (Y.F_is_plan.bindsN fun _ _ _ _ _ _ us hl => match us, hl with | [_, _], _ => rfl) (fa_cons (fe_var (pv 0)) (fa_cons (fe_var (pv 1)) (fa_nil)))))) (fss_one (fs_never)) (fss_nil))
theorem sc_rows_of : FnScope ["house", "plan", "rows", "item"] ["house", "plan"] (defScope (top 53)) := ⟨rfl, rfl, rfl, by decide +kernel, rfl, by decide +kernel, by decide +kernel⟩
theorem ok_rows_of : FnOk P w K mg base CX0 1 Y.f_rows_of Y.d_rows_of ["house", "plan"] (spF Y.T 2 p_rows_of) := by
  refine fnF Y.F_rows_of sc_rows_of (by simp) rfl rfl fun dr cdv A outer s H E hr => ?_
  have S := sc_rows_of
  exact fss_one (fs_ret (fe_callTy call_tuple_of cd_tuple rfl Y.m_tuple (by decide +kernel) (fa_cons (FO.fe (fo_lc (own := [("rows", 2), ("item", 3)]) rfl S.nd (fi_zip2 rfl Y.m_zip (fa_cons (fe_fldN rfl Y.tab (fe_var (pv 0))) (fa_cons (fe_var (pv 1)) (fa_nil)))) (blkOk_by (by rfl)) (fun _ _ _ _ _ => fg_tup rfl (fgs_cons (fg_name S.nd rfl (by first | exact Or.inl rfl | exact Or.inr rfl)) (fgs_cons (fg_name S.nd rfl (by first | exact Or.inl rfl | exact Or.inr rfl)) (fgs_nil)))) (fun _ _ _ _ _ => fts_nil) (fun _ _ _ _ _ => fe_ix (fe_var (pv 2)) (fe_var (pv 3))) (by decide))) (fa_nil))))
theorem sc_stays_in : FnScope ["row", "places", "place"] ["row", "places"] (defScope (top 54)) := ⟨rfl, rfl, rfl, by decide +kernel, rfl, by decide +kernel, by decide +kernel⟩
theorem ok_stays_in : FnOk P w K mg base CX0 1 Y.f_stays_in Y.d_stays_in ["row", "places"] (spF Y.T 2 p_stays_in) := by
  refine fnF Y.F_stays_in sc_stays_in (by simp) rfl rfl fun dr cdv A outer s H E hr => ?_
  have S := sc_stays_in
  exact fss_one (fs_ret (fe_cmp (op_eqD hr.units) od_eq (fe_callB (cr_sumB rfl) cd_sumB rfl Y.m_sum (by decide +kernel) (fa_cons (FO.fe (fo_lc (own := [("place", 2)]) rfl S.nd (fi_seq (fe_var (pv 1))) (blkOk_by (by rfl)) (fun _ _ _ _ _ => fg_name S.nd rfl (by first | exact Or.inl rfl | exact Or.inr rfl)) (fun _ _ _ _ _ => fts_nil) (fun _ _ _ _ _ => fe_ix (fe_ix (fe_var (pv 0)) (fe_int)) (fe_var (pv 2))) (by decide))) (fa_nil))) (fe_ix (fe_var (pv 0)) (fe_int))))
theorem sc_staying_lot : FnScope ["house", "found", "lap", "place", "row"] ["house"] (defScope (top 55)) := ⟨rfl, rfl, rfl, by decide +kernel, rfl, by decide +kernel, by decide +kernel⟩
theorem ok_staying_lot : FnOk P w K mg base CX0 2 Y.f_staying_lot Y.d_staying_lot ["house"] (spF Y.T 1 p_staying_lot) := by
  refine fnF Y.F_staying_lot sc_staying_lot (by simp) rfl rfl fun dr cdv A outer s H E hr => ?_
  have S := sc_staying_lot
  exact fss_cons ((by first | exact fs_setLc (own := [("place", 3)]) rfl S.nd rfl rfl (fi_range1 rfl Y.m_range (fa_cons (fe_fldN rfl Y.tab (fe_var (pv 0))) (fa_nil))) (blkOk_by (by rfl)) (fun _ _ _ _ _ => fg_name S.nd rfl (by first | exact Or.inl rfl | exact Or.inr rfl)) (fun _ _ _ _ _ => fts_nil) (fun _ _ _ _ _ => fe_var (pv 3)) (by decide) | exact fs_set S.nd rfl (by first | exact Or.inl rfl | exact Or.inr rfl) (FO.fe (fo_lc (own := [("place", 3)]) rfl S.nd (fi_range1 rfl Y.m_range (fa_cons (fe_fldN rfl Y.tab (fe_var (pv 0))) (fa_nil))) (blkOk_by (by rfl)) (fun _ _ _ _ _ => fg_name S.nd rfl (by first | exact Or.inl rfl | exact Or.inr rfl)) (fun _ _ _ _ _ => fts_nil) (fun _ _ _ _ _ => fe_var (pv 3)) (by decide))))) (fss_cons (fs_for (passes_of rfl) rfl (fi_range1 rfl Y.m_range (fa_cons (fe_fldN rfl Y.tab (fe_var (pv 0))) (fa_nil))) (fg_name S.nd rfl (by first | exact Or.inl rfl | exact Or.inr rfl)) (fss_one ((by first | exact fs_setLc (own := [("place", 3)]) rfl S.nd rfl rfl (fi_seq (fe_var (pv 1))) (blkOk_by (by rfl)) (fun _ _ _ _ _ => fg_name S.nd rfl (by first | exact Or.inl rfl | exact Or.inr rfl)) (fun _ _ _ _ _ => fts_one (ft_val (fe_callB (cr_any rfl) cd_any rfl Y.m_any (by decide +kernel) (fa_cons (FO.fe (fo_lc (own := [("row", 4)]) rfl S.nd (fi_seq (fe_ix (fe_fldN rfl Y.tab (fe_var (pv 0))) (fe_var (pv 3)))) (blkOk_by (by rfl)) (fun _ _ _ _ _ => fg_name S.nd rfl (by first | exact Or.inl rfl | exact Or.inr rfl)) (fun _ _ _ _ _ => fts_nil) (fun _ _ _ _ _ => fe_call (ok_stays_in Y) (hr.mono (by decide)) rfl Y.g_stays_in Y.F_stays_in.kp (Y.F_stays_in.bindsN fun _ _ _ _ _ _ us hl => match us, hl with | [_, _], _ => rfl) (fa_cons (fe_var (pv 4)) (fa_cons (fe_var (pv 1)) (fa_nil)))) (by decide))) (fa_nil))))) (fun _ _ _ _ _ => fe_var (pv 3)) (by decide) | exact fs_set S.nd rfl (by first | exact Or.inl rfl | exact Or.inr rfl) (FO.fe (fo_lc (own := [("place", 3)]) rfl S.nd (fi_seq (fe_var (pv 1))) (blkOk_by (by rfl)) (fun _ _ _ _ _ => fg_name S.nd rfl (by first | exact Or.inl rfl | exact Or.inr rfl)) (fun _ _ _ _ _ => fts_one (ft_val (fe_callB (cr_any rfl) cd_any rfl Y.m_any (by decide +kernel) (fa_cons (FO.fe (fo_lc (own := [("row", 4)]) rfl S.nd (fi_seq (fe_ix (fe_fldN rfl Y.tab (fe_var (pv 0))) (fe_var (pv 3)))) (blkOk_by (by rfl)) (fun _ _ _ _ _ => fg_name S.nd rfl (by first | exact Or.inl rfl | exact Or.inr rfl)) (fun _ _ _ _ _ => fts_nil) (fun _ _ _ _ _ => fe_call (ok_stays_in Y) (hr.mono (by decide)) rfl Y.g_stays_in Y.F_stays_in.kp (Y.F_stays_in.bindsN fun _ _ _ _ _ _ us hl => match us, hl with | [_, _], _ => rfl) (fa_cons (fe_var (pv 4)) (fa_cons (fe_var (pv 1)) (fa_nil)))) (by decide))) (fa_nil))))) (fun _ _ _ _ _ => fe_var (pv 3)) (by decide))))))) (fss_one (fs_ret (fe_var (pv 1)))))
theorem sc_need_leaky : FnScope ["house"] ["house"] (defScope (top 56)) := ⟨rfl, rfl, rfl, by decide +kernel, rfl, by decide +kernel, by decide +kernel⟩
theorem ok_need_leaky : FnOk P w K mg base CX0 3 Y.f_need_leaky Y.d_need_leaky ["house"] (spF Y.T 1 p_need_leaky) := by
  refine fnF Y.F_need_leaky sc_need_leaky (by simp) rfl rfl fun dr cdv A outer s H E hr => ?_
  have S := sc_need_leaky
  exact fss_one (fs_if (ft_cmp (op_neD hr.units) od_ne (fe_call (ok_staying_lot Y) (hr.mono (by decide)) rfl Y.g_staying_lot Y.F_staying_lot.kp (Y.F_staying_lot.bindsN fun _ _ _ _ _ _ us hl => match us, hl with | [_], _ => rfl) (fa_cons (fe_var (pv 0)) (fa_nil))) (FO.fe (fo_lst (fa_nil)))) (fss_one (fs_never)) (fss_nil))
theorem sc_are_parts : FnScope ["house", "thing", "item", "rows"] ["house", "thing"] (defScope (top 57)) := ⟨rfl, rfl, rfl, by decide +kernel, rfl, by decide +kernel, by decide +kernel⟩
theorem ok_are_parts : FnOk P w K mg base CX0 4 Y.f_are_parts Y.d_are_parts ["house", "thing"] (spF Y.T 2 p_are_parts) := by
  refine fnF Y.F_are_parts sc_are_parts (by simp) rfl rfl fun dr cdv A outer s H E hr => ?_
  have S := sc_are_parts
  exact fss_cons (fs_if (FW.ft (fw_or (ft_not (ft_val (fe_isi rfl Y.m_isinstance (fe_var (pv 1)) (pe_bltn rfl Y.m_tuple (by decide +kernel) rfl)))) (fw_or1 (ft_cmp (op_neD hr.units) od_ne (fe_callB call_len_seq cd_len rfl Y.m_len (by decide +kernel) (fa_cons (fe_var (pv 1)) (fa_nil))) (fe_fldN rfl Y.tab (fe_var (pv 0))))))) (fss_one (fs_ret (fe_bl))) (fss_nil)) (fss_one (fs_ret (fe_callB (cr_all rfl) cd_all rfl Y.m_all (by decide +kernel) (fa_cons (FO.fe (fo_lc (own := [("item", 2), ("rows", 3)]) rfl S.nd (fi_zip2 rfl Y.m_zip (fa_cons (fe_var (pv 1)) (fa_cons (fe_fldN rfl Y.tab (fe_var (pv 0))) (fa_nil)))) (blkOk_by (by rfl)) (fun _ _ _ _ _ => fg_tup rfl (fgs_cons (fg_name S.nd rfl (by first | exact Or.inl rfl | exact Or.inr rfl)) (fgs_cons (fg_name S.nd rfl (by first | exact Or.inl rfl | exact Or.inr rfl)) (fgs_nil)))) (fun _ _ _ _ _ => fts_nil) (fun _ _ _ _ _ => fe_call (ok_are_ratios Y) (hr.mono (by decide)) rfl Y.g_are_ratios Y.F_are_ratios.kp (Y.F_are_ratios.bindsN fun _ _ _ _ _ _ us hl => match us, hl with | [_, _], _ => rfl) (fa_cons (fe_var (pv 2)) (fa_cons (fe_callB call_len_seq cd_len rfl Y.m_len (by decide +kernel) (fa_cons (fe_var (pv 3)) (fa_nil))) (fa_nil)))) (by decide))) (fa_nil)))))
theorem sc_need_gains : FnScope ["house", "gains"] ["house", "gains"] (defScope (top 58)) := ⟨rfl, rfl, rfl, by decide +kernel, rfl, by decide +kernel, by decide +kernel⟩
theorem ok_need_gains : FnOk P w K mg base CX0 5 Y.f_need_gains Y.d_need_gains ["house", "gains"] (spF Y.T 2 p_need_gains) := by
  refine fnF Y.F_need_gains sc_need_gains (by simp) rfl rfl fun dr cdv A outer s H E hr => ?_
  have S := sc_need_gains
  exact fss_cons (fs_drop (fe_call (ok_need_house Y) (hr.mono (by decide)) rfl Y.g_need_house Y.F_need_house.kp (Y.F_need_house.bindsN fun _ _ _ _ _ _ us hl => match us, hl with | [_], _ => rfl) (fa_cons (fe_var (pv 0)) (fa_nil)))) (fss_cons (fs_if (ft_not (ft_val (fe_call (ok_are_parts Y) (hr.mono (by decide)) rfl Y.g_are_parts Y.F_are_parts.kp (Y.F_are_parts.bindsN fun _ _ _ _ _ _ us hl => match us, hl with | [_, _], _ => rfl) (fa_cons (fe_var (pv 0)) (fa_cons (fe_var (pv 1)) (fa_nil)))))) (fss_one (fs_never)) (fss_nil)) (fss_one (fs_drop (fe_call (ok_need_leaky Y) (hr.mono (by decide)) rfl Y.g_need_leaky Y.F_need_leaky.kp (Y.F_need_leaky.bindsN fun _ _ _ _ _ _ us hl => match us, hl with | [_], _ => rfl) (fa_cons (fe_var (pv 0)) (fa_nil))))))
theorem sc_gained_by : FnScope ["rows", "gains", "below", "system", "place", "row", "total", "numbers", "line", "scale", "answers", "answer", "gain", "other", "number"] ["rows", "gains"] (defScope (top 59)) := ⟨rfl, rfl, rfl, by decide +kernel, rfl, by decide +kernel, by decide +kernel⟩
theorem ok_gained_by : FnOk P w K mg base CX0 6 Y.f_gained_by Y.d_gained_by ["rows", "gains"] (spF Y.T 2 p_gained_by) := by
  refine fnF Y.F_gained_by sc_gained_by (by simp) rfl rfl fun dr cdv A outer s H E hr => ?_
  have S := sc_gained_by
  exact fss_cons ((by first | exact fs_par2 rfl S.nd rfl rfl (by decide) rfl rfl (fxs_cons (fx_P (fe_call (ok_multiple_of Y) (hr.mono (by decide)) rfl Y.g_multiple_of Y.F_multiple_of.kp (Y.F_multiple_of.bindsN fun _ _ _ _ _ _ us hl => match us, hl with | [_], _ => rfl) (fa_cons (FO.fe (fo_lc (own := [("gain", 12)]) rfl S.nd (fi_seq (fe_var (pv 1))) (blkOk_by (by rfl)) (fun _ _ _ _ _ => fg_name S.nd rfl (by first | exact Or.inl rfl | exact Or.inr rfl)) (fun _ _ _ _ _ => fts_nil) (fun _ _ _ _ _ => fe_ix (fe_var (pv 12)) (fe_int)) (by decide))) (fa_nil)))) (fxs_cons (fx_O (fo_lst (fa_nil))) (fxs_nil))) | exact fs_parT rfl rfl (fns_cons S.nd rfl (by first | exact Or.inl rfl | exact Or.inr rfl) (fns_cons S.nd rfl (by first | exact Or.inl rfl | exact Or.inr rfl) (fns_nil))) (fxs_cons (fx_P (fe_call (ok_multiple_of Y) (hr.mono (by decide)) rfl Y.g_multiple_of Y.F_multiple_of.kp (Y.F_multiple_of.bindsN fun _ _ _ _ _ _ us hl => match us, hl with | [_], _ => rfl) (fa_cons (FO.fe (fo_lc (own := [("gain", 12)]) rfl S.nd (fi_seq (fe_var (pv 1))) (blkOk_by (by rfl)) (fun _ _ _ _ _ => fg_name S.nd rfl (by first | exact Or.inl rfl | exact Or.inr rfl)) (fun _ _ _ _ _ => fts_nil) (fun _ _ _ _ _ => fe_ix (fe_var (pv 12)) (fe_int)) (by decide))) (fa_nil)))) (fxs_cons (fx_O (fo_lst (fa_nil))) (fxs_nil))))) (fss_cons (fs_for (passes_of rfl) rfl (fi_enum rfl Y.m_enumerate (fa_cons (fe_var (pv 0)) (fa_nil))) (fg_tup rfl (fgs_cons (fg_name S.nd rfl (by first | exact Or.inl rfl | exact Or.inr rfl)) (fgs_cons (fg_name S.nd rfl (by first | exact Or.inl rfl | exact Or.inr rfl)) (fgs_nil)))) (fss_cons (fs_asg (fe_var (pv 5)) (fg_tup rfl (fgs_cons (fg_name S.nd rfl (by first | exact Or.inl rfl | exact Or.inr rfl)) (fgs_cons (fg_name S.nd rfl (by first | exact Or.inl rfl | exact Or.inr rfl)) (fgs_nil))))) (fss_cons (fs_set S.nd rfl (by first | exact Or.inl rfl | exact Or.inr rfl) (fe_callTy call_tuple_of cd_tuple rfl Y.m_tuple (by decide +kernel) (fa_cons (FO.fe (fo_lc (own := [("other", 13), ("number", 14)]) rfl S.nd (fi_enum rfl Y.m_enumerate (fa_cons (fe_var (pv 7)) (fa_nil))) (blkOk_by (by rfl)) (fun _ _ _ _ _ => fg_tup rfl (fgs_cons (fg_name S.nd rfl (by first | exact Or.inl rfl | exact Or.inr rfl)) (fgs_cons (fg_name S.nd rfl (by first | exact Or.inl rfl | exact Or.inr rfl)) (fgs_nil)))) (fun _ _ _ _ _ => fts_nil) (fun _ _ _ _ _ => fe_op op_sub od_I0 (fe_op op_mulB od_I (fe_var (pv 6)) (fe_callTy call_int1 cd_int rfl Y.m_int (by decide +kernel) (fa_cons (fe_cmp (op_eqD hr.units) od_eq (fe_var (pv 4)) (fe_var (pv 13))) (fa_nil)))) (fe_var (pv 14))) (by decide))) (fa_nil)))) (fss_one (fs_app (pv 3) (fe_tup (fa_cons (fe_var (pv 8)) (fa_cons (fe_op op_mulB od_I (fe_op op_mulB od_I (fe_var (pv 6)) (fe_ix (fe_ix (fe_var (pv 1)) (fe_var (pv 4))) (fe_int))) (fe_op op_fdivW od_I (fe_var (pv 2)) (fe_ix (fe_ix (fe_var (pv 1)) (fe_var (pv 4))) (fe_int)))) (fa_nil))))))))) (fss_frz 3 (fss_cons (fs_asg (fe_call (ok_answer_of Y) (hr.mono (by decide)) rfl Y.g_answer_of Y.F_answer_of.kp (Y.F_answer_of.bindsN fun _ _ _ _ _ _ us hl => match us, hl with | [_], _ => rfl) (fa_cons (fe_var (pv 3)) (fa_nil))) (fg_tup rfl (fgs_cons (fg_name S.nd rfl (by first | exact Or.inl rfl | exact Or.inr rfl)) (fgs_cons (fg_name S.nd rfl (by first | exact Or.inl rfl | exact Or.inr rfl)) (fgs_nil))))) (fss_one (fs_ret (fe_callTy call_tuple_of cd_tuple rfl Y.m_tuple (by decide +kernel) (fa_cons (FO.fe (fo_lc (own := [("answer", 11)]) rfl S.nd (fi_seq (fe_var (pv 10))) (blkOk_by (by rfl)) (fun _ _ _ _ _ => fg_name S.nd rfl (by first | exact Or.inl rfl | exact Or.inr rfl)) (fun _ _ _ _ _ => fts_nil) (fun _ _ _ _ _ => fe_call (ok_ratio_of Y) (hr.mono (by decide)) rfl Y.g_ratio_of Y.F_ratio_of.kp (Y.F_ratio_of.bindsN fun _ _ _ _ _ _ us hl => match us, hl with | [_, _], _ => rfl) (fa_cons (fe_var (pv 11)) (fa_cons (fe_op op_mulB od_I (fe_var (pv 9)) (fe_var (pv 2))) (fa_nil)))) (by decide))) (fa_nil))))))))
theorem sc_sums_of_moves : FnScope ["rows", "gains", "values", "row", "gain"] ["rows", "gains", "values"] (defScope (top 60)) := ⟨rfl, rfl, rfl, by decide +kernel, rfl, by decide +kernel, by decide +kernel⟩
theorem ok_sums_of_moves : FnOk P w K mg base CX0 6 Y.f_sums_of_moves Y.d_sums_of_moves ["rows", "gains", "values"] (spF Y.T 3 p_sums_of_moves) := by
  refine fnF Y.F_sums_of_moves sc_sums_of_moves (by simp) rfl rfl fun dr cdv A outer s H E hr => ?_
  have S := sc_sums_of_moves
  exact fss_one (fs_ret (FO.fe (fo_lc (own := [("row", 3), ("gain", 4)]) rfl S.nd (fi_zip2 rfl Y.m_zip (fa_cons (fe_var (pv 0)) (fa_cons (fe_var (pv 1)) (fa_nil)))) (blkOk_by (by rfl)) (fun _ _ _ _ _ => fg_tup rfl (fgs_cons (fg_name S.nd rfl (by first | exact Or.inl rfl | exact Or.inr rfl)) (fgs_cons (fg_name S.nd rfl (by first | exact Or.inl rfl | exact Or.inr rfl)) (fgs_nil)))) (fun _ _ _ _ _ => fts_nil) (fun _ _ _ _ _ => fe_call (ok_sum_of Y) (hr.mono (by decide)) rfl Y.g_sum_of Y.F_sum_of.kp (Y.F_sum_of.bindsN fun _ _ _ _ _ _ us hl => match us, hl with | [_, _], _ => rfl) (fa_cons (fe_var (pv 4)) (fa_cons (fe_call (ok_mean_by Y) (hr.mono (by decide)) rfl Y.g_mean_by Y.F_mean_by.kp (Y.F_mean_by.bindsN fun _ _ _ _ _ _ us hl => match us, hl with | [_, _], _ => rfl) (fa_cons (fe_var (pv 3)) (fa_cons (fe_var (pv 2)) (fa_nil)))) (fa_nil)))) (by decide))))
theorem sc_first_best : FnScope ["house", "gains", "values", "found", "rows", "some", "sums"] ["house", "gains", "values"] (defScope (top 61)) := ⟨rfl, rfl, rfl, by decide +kernel, rfl, by decide +kernel, by decide +kernel⟩
theorem ok_first_best : FnOk P w K mg base CX0 7 Y.f_first_best Y.d_first_best ["house", "gains", "values"] (spF Y.T 3 p_first_best) := by
  refine fnF Y.F_first_best sc_first_best (by simp) rfl rfl fun dr cdv A outer s H E hr => ?_
  have S := sc_first_best
  exact fss_cons (fs_setO S.nd rfl (by first | exact Or.inl rfl | exact Or.inr rfl) (fo_lst (fa_nil))) (fss_cons (fs_for (passes_of rfl) rfl (fi_zip2 rfl Y.m_zip (fa_cons (fe_fldN rfl Y.tab (fe_var (pv 0))) (fa_cons (fe_var (pv 1)) (fa_nil)))) (fg_tup rfl (fgs_cons (fg_name S.nd rfl (by first | exact Or.inl rfl | exact Or.inr rfl)) (fgs_cons (fg_name S.nd rfl (by first | exact Or.inl rfl | exact Or.inr rfl)) (fgs_nil)))) (fss_cons (fs_set S.nd rfl (by first | exact Or.inl rfl | exact Or.inr rfl) (fe_call (ok_sums_of_moves Y) (hr.mono (by decide)) rfl Y.g_sums_of_moves Y.F_sums_of_moves.kp (Y.F_sums_of_moves.bindsN fun _ _ _ _ _ _ us hl => match us, hl with | [_, _, _], _ => rfl) (fa_cons (fe_var (pv 4)) (fa_cons (fe_var (pv 5)) (fa_cons (fe_var (pv 2)) (fa_nil)))))) (fss_one (fs_app (pv 3) (fe_index (hu65 hr) (fe_var (pv 6)) (fe_call (ok_greatest_of Y) (hr.mono (by decide)) rfl Y.g_greatest_of Y.F_greatest_of.kp (Y.F_greatest_of.bindsN fun _ _ _ _ _ _ us hl => match us, hl with | [_], _ => rfl) (fa_cons (fe_var (pv 6)) (fa_nil)))))))) (fss_one (fs_ret (fe_callTy call_tuple_of cd_tuple rfl Y.m_tuple (by decide +kernel) (fa_cons (fe_var (pv 3)) (fa_nil))))))
theorem sc_gains_of : FnScope ["gains", "plan", "some", "item"] ["gains", "plan"] (defScope (top 62)) := ⟨rfl, rfl, rfl, by decide +kernel, rfl, by decide +kernel, by decide +kernel⟩
theorem ok_gains_of : FnOk P w K mg base CX0 1 Y.f_gains_of Y.d_gains_of ["gains", "plan"] (spF Y.T 2 p_gains_of) := by
  refine fnF Y.F_gains_of sc_gains_of (by simp) rfl rfl fun dr cdv A outer s H E hr => ?_
  have S := sc_gains_of
  exact fss_one (fs_ret (FO.fe (fo_lc (own := [("some", 2), ("item", 3)]) rfl S.nd (fi_zip2 rfl Y.m_zip (fa_cons (fe_var (pv 0)) (fa_cons (fe_var (pv 1)) (fa_nil)))) (blkOk_by (by rfl)) (fun _ _ _ _ _ => fg_tup rfl (fgs_cons (fg_name S.nd rfl (by first | exact Or.inl rfl | exact Or.inr rfl)) (fgs_cons (fg_name S.nd rfl (by first | exact Or.inl rfl | exact Or.inr rfl)) (fgs_nil)))) (fun _ _ _ _ _ => fts_nil) (fun _ _ _ _ _ => fe_ix (fe_var (pv 2)) (fe_var (pv 3))) (by decide))))
theorem sc_most_of : FnScope ["house", "gains", "plan", "found", "is_ended", "more"] ["house", "gains"] (defScope (top 63)) := ⟨rfl, rfl, rfl, by decide +kernel, rfl, by decide +kernel, by decide +kernel⟩
theorem ok_most_of : FnOk P w K mg base CX0 8 Y.f_most_of Y.d_most_of ["house", "gains"] (spF Y.T 2 p_most_of) := by
  refine fnF Y.F_most_of sc_most_of (by simp) rfl rfl fun dr cdv A outer s H E hr => ?_
  have S := sc_most_of
  exact fss_cons (fs_set S.nd rfl (by first | exact Or.inl rfl | exact Or.inr rfl) (fe_op op_repTB od_repTB (fe_tup (fa_cons (fe_int) (fa_nil))) (fe_fldN rfl Y.tab (fe_var (pv 0))))) (fss_cons (fs_set S.nd rfl (by first | exact Or.inl rfl | exact Or.inr rfl) (fe_call (ok_gained_by Y) (hr.mono (by decide)) rfl Y.g_gained_by Y.F_gained_by.kp (Y.F_gained_by.bindsN fun _ _ _ _ _ _ us hl => match us, hl with | [_, _], _ => rfl) (fa_cons (fe_call (ok_rows_of Y) (hr.mono (by decide)) rfl Y.g_rows_of Y.F_rows_of.kp (Y.F_rows_of.bindsN fun _ _ _ _ _ _ us hl => match us, hl with | [_, _], _ => rfl) (fa_cons (fe_var (pv 0)) (fa_cons (fe_var (pv 2)) (fa_nil)))) (fa_cons (fe_call (ok_gains_of Y) (hr.mono (by decide)) rfl Y.g_gains_of Y.F_gains_of.kp (Y.F_gains_of.bindsN fun _ _ _ _ _ _ us hl => match us, hl with | [_, _], _ => rfl) (fa_cons (fe_var (pv 1)) (fa_cons (fe_var (pv 2)) (fa_nil)))) (fa_nil))))) (fss_cons (fs_set S.nd rfl (by first | exact Or.inl rfl | exact Or.inr rfl) (fe_bl)) (fss_cons (fs_while (passes_of rfl) (ft_not (ft_val (fe_var (pv 4)))) (fss_cons (fs_set S.nd rfl (by first | exact Or.inl rfl | exact Or.inr rfl) (fe_call (ok_first_best Y) (hr.mono (by decide)) rfl Y.g_first_best Y.F_first_best.kp (Y.F_first_best.bindsN fun _ _ _ _ _ _ us hl => match us, hl with | [_, _, _], _ => rfl) (fa_cons (fe_var (pv 0)) (fa_cons (fe_var (pv 1)) (fa_cons (fe_var (pv 3)) (fa_nil)))))) (fss_cons (fs_set S.nd rfl (by first | exact Or.inl rfl | exact Or.inr rfl) (fe_call (ok_gained_by Y) (hr.mono (by decide)) rfl Y.g_gained_by Y.F_gained_by.kp (Y.F_gained_by.bindsN fun _ _ _ _ _ _ us hl => match us, hl with | [_, _], _ => rfl) (fa_cons (fe_call (ok_rows_of Y) (hr.mono (by decide)) rfl Y.g_rows_of Y.F_rows_of.kp (Y.F_rows_of.bindsN fun _ _ _ _ _ _ us hl => match us, hl with | [_, _], _ => rfl) (fa_cons (fe_var (pv 0)) (fa_cons (fe_var (pv 2)) (fa_nil)))) (fa_cons (fe_call (ok_gains_of Y) (hr.mono (by decide)) rfl Y.g_gains_of Y.F_gains_of.kp (Y.F_gains_of.bindsN fun _ _ _ _ _ _ us hl => match us, hl with | [_, _], _ => rfl) (fa_cons (fe_var (pv 1)) (fa_cons (fe_var (pv 2)) (fa_nil)))) (fa_nil))))) (fss_one ((by first | exact fs_par2 rfl S.nd rfl rfl (by decide) rfl rfl (fxs_cons (fx_P (fe_cmp (op_eqD hr.units) od_eq (fe_var (pv 5)) (fe_var (pv 3)))) (fxs_cons (fx_P (fe_var (pv 5))) (fxs_nil))) | exact fs_parT rfl rfl (fns_cons S.nd rfl (by first | exact Or.inl rfl | exact Or.inr rfl) (fns_cons S.nd rfl (by first | exact Or.inl rfl | exact Or.inr rfl) (fns_nil))) (fxs_cons (fx_P (fe_cmp (op_eqD hr.units) od_eq (fe_var (pv 5)) (fe_var (pv 3)))) (fxs_cons (fx_P (fe_var (pv 5))) (fxs_nil))))))))) (fss_one (fs_ret (fe_var (pv 3)))))))
theorem sc_flow_by : FnScope ["house", "share", "plan", "rows", "system", "place", "below", "line", "scale", "answers", "found", "some", "item", "answer", "other", "row", "k"] ["house", "share", "plan"] (defScope (top 64)) := ⟨rfl, rfl, rfl, by decide +kernel, rfl, by decide +kernel, by decide +kernel⟩
theorem ok_flow_by : FnOk P w K mg base CX0 6 Y.f_flow_by Y.d_flow_by ["house", "share", "plan"] (spF Y.T 3 p_flow_by) := by
  refine fnF Y.F_flow_by sc_flow_by (by simp) rfl rfl fun dr cdv A outer s H E hr => ?_
  have S := sc_flow_by
  exact fss_cons ((by first | exact fs_par2 rfl S.nd rfl rfl (by decide) rfl rfl (fxs_cons (fx_P (fe_call (ok_rows_of Y) (hr.mono (by decide)) rfl Y.g_rows_of Y.F_rows_of.kp (Y.F_rows_of.bindsN fun _ _ _ _ _ _ us hl => match us, hl with | [_, _], _ => rfl) (fa_cons (fe_var (pv 0)) (fa_cons (fe_var (pv 2)) (fa_nil))))) (fxs_cons (fx_O (fo_lst (fa_nil))) (fxs_nil))) | exact fs_parT rfl rfl (fns_cons S.nd rfl (by first | exact Or.inl rfl | exact Or.inr rfl) (fns_cons S.nd rfl (by first | exact Or.inl rfl | exact Or.inr rfl) (fns_nil))) (fxs_cons (fx_P (fe_call (ok_rows_of Y) (hr.mono (by decide)) rfl Y.g_rows_of Y.F_rows_of.kp (Y.F_rows_of.bindsN fun _ _ _ _ _ _ us hl => match us, hl with | [_, _], _ => rfl) (fa_cons (fe_var (pv 0)) (fa_cons (fe_var (pv 2)) (fa_nil))))) (fxs_cons (fx_O (fo_lst (fa_nil))) (fxs_nil))))) (fss_cons (fs_for (passes_of rfl) rfl (fi_range1 rfl Y.m_range (fa_cons (fe_fldN rfl Y.tab (fe_var (pv 0))) (fa_nil))) (fg_name S.nd rfl (by first | exact Or.inl rfl | exact Or.inr rfl)) (fss_cons (fs_set S.nd rfl (by first | exact Or.inl rfl | exact Or.inr rfl) (fe_call (ok_multiple_of Y) (hr.mono (by decide)) rfl Y.g_multiple_of Y.F_multiple_of.kp (Y.F_multiple_of.bindsN fun _ _ _ _ _ _ us hl => match us, hl with | [_], _ => rfl) (fa_cons (FO.fe (fo_lc (own := [("row", 15)]) rfl S.nd (fi_seq (fe_var (pv 3))) (blkOk_by (by rfl)) (fun _ _ _ _ _ => fg_name S.nd rfl (by first | exact Or.inl rfl | exact Or.inr rfl)) (fun _ _ _ _ _ => fts_nil) (fun _ _ _ _ _ => fe_ix (fe_var (pv 15)) (fe_int)) (by decide))) (fa_nil)))) (fss_cons ((by first | exact fs_setLc (own := [("other", 14), ("row", 15)]) rfl S.nd rfl rfl (fi_enum rfl Y.m_enumerate (fa_cons (fe_var (pv 3)) (fa_nil))) (blkOk_by (by rfl)) (fun _ _ _ _ _ => fg_tup rfl (fgs_cons (fg_name S.nd rfl (by first | exact Or.inl rfl | exact Or.inr rfl)) (fgs_cons (fg_name S.nd rfl (by first | exact Or.inl rfl | exact Or.inr rfl)) (fgs_nil)))) (fun _ _ _ _ _ => fts_nil) (fun _ _ _ _ _ => fe_op op_sub od_I0 (fe_op op_mulB od_I (fe_var (pv 6)) (fe_callTy call_int1 cd_int rfl Y.m_int (by decide +kernel) (fa_cons (fe_cmp (op_eqD hr.units) od_eq (fe_var (pv 5)) (fe_var (pv 14))) (fa_nil)))) (fe_op op_mulB od_I (fe_ix (fe_ix (fe_var (pv 15)) (fe_int)) (fe_var (pv 5))) (fe_op op_fdivW od_I (fe_var (pv 6)) (fe_ix (fe_var (pv 15)) (fe_int))))) (by decide) | exact fs_set S.nd rfl (by first | exact Or.inl rfl | exact Or.inr rfl) (FO.fe (fo_lc (own := [("other", 14), ("row", 15)]) rfl S.nd (fi_enum rfl Y.m_enumerate (fa_cons (fe_var (pv 3)) (fa_nil))) (blkOk_by (by rfl)) (fun _ _ _ _ _ => fg_tup rfl (fgs_cons (fg_name S.nd rfl (by first | exact Or.inl rfl | exact Or.inr rfl)) (fgs_cons (fg_name S.nd rfl (by first | exact Or.inl rfl | exact Or.inr rfl)) (fgs_nil)))) (fun _ _ _ _ _ => fts_nil) (fun _ _ _ _ _ => fe_op op_sub od_I0 (fe_op op_mulB od_I (fe_var (pv 6)) (fe_callTy call_int1 cd_int rfl Y.m_int (by decide +kernel) (fa_cons (fe_cmp (op_eqD hr.units) od_eq (fe_var (pv 5)) (fe_var (pv 14))) (fa_nil)))) (fe_op op_mulB od_I (fe_ix (fe_ix (fe_var (pv 15)) (fe_int)) (fe_var (pv 5))) (fe_op op_fdivW od_I (fe_var (pv 6)) (fe_ix (fe_var (pv 15)) (fe_int))))) (by decide))))) (fss_one (fs_app (pv 4) (fe_tup (fa_cons (fe_callTy call_tuple_of cd_tuple rfl Y.m_tuple (by decide +kernel) (fa_cons (fe_var (pv 7)) (fa_nil))) (fa_cons (fe_op op_mulB od_I (fe_var (pv 6)) (fe_ix (fe_ix (fe_var (pv 1)) (fe_int)) (fe_var (pv 5)))) (fa_nil))))))))) (fss_frz 4 (fss_cons (fs_asg (fe_call (ok_answer_of Y) (hr.mono (by decide)) rfl Y.g_answer_of Y.F_answer_of.kp (Y.F_answer_of.bindsN fun _ _ _ _ _ _ us hl => match us, hl with | [_], _ => rfl) (fa_cons (fe_var (pv 4)) (fa_nil))) (fg_tup rfl (fgs_cons (fg_name S.nd rfl (by first | exact Or.inl rfl | exact Or.inr rfl)) (fgs_cons (fg_name S.nd rfl (by first | exact Or.inl rfl | exact Or.inr rfl)) (fgs_nil))))) (fss_cons (fs_setO S.nd rfl (by first | exact Or.inl rfl | exact Or.inr rfl) (fo_lst (fa_nil))) (fss_cons (fs_for (passes_of rfl) rfl (fi_zip3 rfl Y.m_zip (fa_cons (fe_fldN rfl Y.tab (fe_var (pv 0))) (fa_cons (fe_var (pv 2)) (fa_cons (fe_var (pv 9)) (fa_nil))))) (fg_tup rfl (fgs_cons (fg_name S.nd rfl (by first | exact Or.inl rfl | exact Or.inr rfl)) (fgs_cons (fg_name S.nd rfl (by first | exact Or.inl rfl | exact Or.inr rfl)) (fgs_cons (fg_name S.nd rfl (by first | exact Or.inl rfl | exact Or.inr rfl)) (fgs_nil))))) (fss_one (fs_app (pv 10) (fe_callTy call_tuple_of cd_tuple rfl Y.m_tuple (by decide +kernel) (fa_cons (FO.fe (fo_lc (own := [("k", 16)]) rfl S.nd (fi_range1 rfl Y.m_range (fa_cons (fe_callB call_len_seq cd_len rfl Y.m_len (by decide +kernel) (fa_cons (fe_var (pv 11)) (fa_nil))) (fa_nil))) (blkOk_by (by rfl)) (fun _ _ _ _ _ => fg_name S.nd rfl (by first | exact Or.inl rfl | exact Or.inr rfl)) (fun _ _ _ _ _ => fts_nil) (fun _ _ _ _ _ => fe_call (ok_ratio_of Y) (hr.mono (by decide)) rfl Y.g_ratio_of Y.F_ratio_of.kp (Y.F_ratio_of.bindsN fun _ _ _ _ _ _ us hl => match us, hl with | [_, _], _ => rfl) (fa_cons (fe_op op_mulB od_I (fe_var (pv 13)) (fe_callTy call_int1 cd_int rfl Y.m_int (by decide +kernel) (fa_cons (fe_cmp (op_eqD hr.units) od_eq (fe_var (pv 16)) (fe_var (pv 12))) (fa_nil)))) (fa_cons (fe_op op_mulB od_I (fe_var (pv 8)) (fe_ix (fe_var (pv 1)) (fe_int))) (fa_nil)))) (by decide))) (fa_nil)))))) (fss_one (fs_ret (fe_callTy call_tuple_of cd_tuple rfl Y.m_tuple (by decide +kernel) (fa_cons (fe_var (pv 10)) (fa_nil))))))))))
theorem sc_begun_by : FnScope ["house", "flow", "found", "place", "come", "rows", "some", "row", "item"] ["house", "flow"] (defScope (top 65)) := ⟨rfl, rfl, rfl, by decide +kernel, rfl, by decide +kernel, by decide +kernel⟩
theorem ok_begun_by : FnOk P w K mg base CX0 5 Y.f_begun_by Y.d_begun_by ["house", "flow"] (spF Y.T 2 p_begun_by) := by
  refine fnF Y.F_begun_by sc_begun_by (by simp) rfl rfl fun dr cdv A outer s H E hr => ?_
  have S := sc_begun_by
  exact fss_cons (fs_setO S.nd rfl (by first | exact Or.inl rfl | exact Or.inr rfl) (fo_lst (fa_nil))) (fss_cons (fs_for (passes_of rfl) rfl (fi_range1 rfl Y.m_range (fa_cons (fe_fldN rfl Y.tab (fe_var (pv 0))) (fa_nil))) (fg_name S.nd rfl (by first | exact Or.inl rfl | exact Or.inr rfl)) (fss_cons (fs_set S.nd rfl (by first | exact Or.inl rfl | exact Or.inr rfl) (FO.fe (fo_lst (fa_nil)))) (fss_cons (fs_for (passes_of rfl) rfl (fi_zip2 rfl Y.m_zip (fa_cons (fe_fldN rfl Y.tab (fe_var (pv 0))) (fa_cons (fe_var (pv 1)) (fa_nil)))) (fg_tup rfl (fgs_cons (fg_name S.nd rfl (by first | exact Or.inl rfl | exact Or.inr rfl)) (fgs_cons (fg_name S.nd rfl (by first | exact Or.inl rfl | exact Or.inr rfl)) (fgs_nil)))) (fss_one (fs_set S.nd rfl (by first | exact Or.inl rfl | exact Or.inr rfl) (FO.fe (fo_cat (fe_var (pv 4)) (FO.fe (fo_lc (own := [("row", 7), ("item", 8)]) rfl S.nd (fi_zip2 rfl Y.m_zip (fa_cons (fe_var (pv 5)) (fa_cons (fe_var (pv 6)) (fa_nil)))) (blkOk_by (by rfl)) (fun _ _ _ _ _ => fg_tup rfl (fgs_cons (fg_name S.nd rfl (by first | exact Or.inl rfl | exact Or.inr rfl)) (fgs_cons (fg_name S.nd rfl (by first | exact Or.inl rfl | exact Or.inr rfl)) (fgs_nil)))) (fun _ _ _ _ _ => fts_nil) (fun _ _ _ _ _ => fe_call (ok_product_of Y) (hr.mono (by decide)) rfl Y.g_product_of Y.F_product_of.kp (Y.F_product_of.bindsN fun _ _ _ _ _ _ us hl => match us, hl with | [_, _], _ => rfl) (fa_cons (fe_var (pv 8)) (fa_cons (fe_tup (fa_cons (fe_ix (fe_ix (fe_var (pv 7)) (fe_int)) (fe_var (pv 3))) (fa_cons (fe_ix (fe_var (pv 7)) (fe_int)) (fa_nil)))) (fa_nil)))) (by decide)))))))) (fss_one (fs_app (pv 2) (fe_call (ok_less_of Y) (hr.mono (by decide)) rfl Y.g_less_of Y.F_less_of.kp (Y.F_less_of.bindsN fun _ _ _ _ _ _ us hl => match us, hl with | [_, _], _ => rfl) (fa_cons (fe_call (ok_total_of Y) (hr.mono (by decide)) rfl Y.g_total_of Y.F_total_of.kp (Y.F_total_of.bindsN fun _ _ _ _ _ _ us hl => match us, hl with | [_], _ => rfl) (fa_cons (FO.fe (fo_list rfl Y.m_list (fa_cons (fe_ix (fe_var (pv 1)) (fe_var (pv 3))) (fa_nil)))) (fa_nil))) (fa_cons (fe_call (ok_total_of Y) (hr.mono (by decide)) rfl Y.g_total_of Y.F_total_of.kp (Y.F_total_of.bindsN fun _ _ _ _ _ _ us hl => match us, hl with | [_], _ => rfl) (fa_cons (fe_var (pv 4)) (fa_nil))) (fa_nil))))))))) (fss_one (fs_ret (fe_var (pv 2)))))
theorem sc_are_counts : FnScope ["house", "thing", "some", "item"] ["house", "thing"] (defScope (top 66)) := ⟨rfl, rfl, rfl, by decide +kernel, rfl, by decide +kernel, by decide +kernel⟩
theorem ok_are_counts : FnOk P w K mg base CX0 5 Y.f_are_counts Y.d_are_counts ["house", "thing"] (spF Y.T 2 p_are_counts) := by
  refine fnF Y.F_are_counts sc_are_counts (by simp) rfl rfl fun dr cdv A outer s H E hr => ?_
  have S := sc_are_counts
  exact fss_cons (fs_if (ft_not (ft_val (fe_call (ok_are_parts Y) (hr.mono (by decide)) rfl Y.g_are_parts Y.F_are_parts.kp (Y.F_are_parts.bindsN fun _ _ _ _ _ _ us hl => match us, hl with | [_, _], _ => rfl) (fa_cons (fe_var (pv 0)) (fa_cons (fe_var (pv 1)) (fa_nil)))))) (fss_one (fs_ret (fe_bl))) (fss_nil)) (fss_one (fs_ret (fe_callB (cr_all rfl) cd_all rfl Y.m_all (by decide +kernel) (fa_cons (FO.fe (fo_lc (own := [("some", 2)]) rfl S.nd (fi_seq (fe_var (pv 1))) (blkOk_by (by rfl)) (fun _ _ _ _ _ => fg_name S.nd rfl (by first | exact Or.inl rfl | exact Or.inr rfl)) (fun _ _ _ _ _ => fts_nil) (fun _ _ _ _ _ => fe_callB (cr_all rfl) cd_all rfl Y.m_all (by decide +kernel) (fa_cons (FO.fe (fo_lc (own := [("item", 3)]) rfl S.nd (fi_seq (fe_var (pv 2))) (blkOk_by (by rfl)) (fun _ _ _ _ _ => fg_name S.nd rfl (by first | exact Or.inl rfl | exact Or.inr rfl)) (fun _ _ _ _ _ => fts_nil) (fun _ _ _ _ _ => fe_cmp op_ge od_B0 (fe_ix (fe_var (pv 3)) (fe_int)) (fe_int)) (by decide))) (fa_nil))) (by decide))) (fa_nil)))))
theorem sc_walk_of : FnScope ["house", "plan"] ["house", "plan"] (defScope (top 67)) := ⟨rfl, rfl, rfl, by decide +kernel, rfl, by decide +kernel, by decide +kernel⟩
theorem ok_walk_of : FnOk P w K mg base CX0 7 Y.f_walk_of Y.d_walk_of ["house", "plan"] (spF Y.T 2 p_walk_of) := by
  refine fnF Y.F_walk_of sc_walk_of (by simp) rfl rfl fun dr cdv A outer s H E hr => ?_
  have S := sc_walk_of
  exact fss_cons (fs_drop (fe_call (ok_need_house Y) (hr.mono (by decide)) rfl Y.g_need_house Y.F_need_house.kp (Y.F_need_house.bindsN fun _ _ _ _ _ _ us hl => match us, hl with | [_], _ => rfl) (fa_cons (fe_var (pv 0)) (fa_nil)))) (fss_cons (fs_drop (fe_call (ok_need_plan Y) (hr.mono (by decide)) rfl Y.g_need_plan Y.F_need_plan.kp (Y.F_need_plan.bindsN fun _ _ _ _ _ _ us hl => match us, hl with | [_, _], _ => rfl) (fa_cons (fe_var (pv 0)) (fa_cons (fe_var (pv 1)) (fa_nil))))) (fss_one (fs_ret (fe_make rfl Y.M_Walk (ok_Walk_init_ Y) (hr.mono (by decide)) rfl Y.g_Walk (Y.F_Walk_init_.bindsN fun _ _ _ _ _ _ us hl => match us, hl with | [_, _], _ => rfl) (fa_cons (fe_call (ok_rows_of Y) (hr.mono (by decide)) rfl Y.g_rows_of Y.F_rows_of.kp (Y.F_rows_of.bindsN fun _ _ _ _ _ _ us hl => match us, hl with | [_, _], _ => rfl) (fa_cons (fe_var (pv 0)) (fa_cons (fe_var (pv 1)) (fa_nil)))) (fa_nil))))))
theorem sc_most : FnScope ["house", "gains"] ["house", "gains"] (defScope (top 68)) := ⟨rfl, rfl, rfl, by decide +kernel, rfl, by decide +kernel, by decide +kernel⟩
theorem ok_most : FnOk P w K mg base CX0 9 Y.f_most Y.d_most ["house", "gains"] (spF Y.T 2 p_most) := by
  refine fnF Y.F_most sc_most (by simp) rfl rfl fun dr cdv A outer s H E hr => ?_
  have S := sc_most
  exact fss_cons (fs_drop (fe_call (ok_need_gains Y) (hr.mono (by decide)) rfl Y.g_need_gains Y.F_need_gains.kp (Y.F_need_gains.bindsN fun _ _ _ _ _ _ us hl => match us, hl with | [_, _], _ => rfl) (fa_cons (fe_var (pv 0)) (fa_cons (fe_var (pv 1)) (fa_nil))))) (fss_one (fs_ret (fe_call (ok_most_of Y) (hr.mono (by decide)) rfl Y.g_most_of Y.F_most_of.kp (Y.F_most_of.bindsN fun _ _ _ _ _ _ us hl => match us, hl with | [_, _], _ => rfl) (fa_cons (fe_var (pv 0)) (fa_cons (fe_var (pv 1)) (fa_nil))))))
theorem sc_best_plan : FnScope ["house", "gains"] ["house", "gains"] (defScope (top 69)) := ⟨rfl, rfl, rfl, by decide +kernel, rfl, by decide +kernel, by decide +kernel⟩
theorem ok_best_plan : FnOk P w K mg base CX0 9 Y.f_best_plan Y.d_best_plan ["house", "gains"] (spF Y.T 2 p_best_plan) := by
  refine fnF Y.F_best_plan sc_best_plan (by simp) rfl rfl fun dr cdv A outer s H E hr => ?_
  have S := sc_best_plan
  exact fss_cons (fs_drop (fe_call (ok_need_gains Y) (hr.mono (by decide)) rfl Y.g_need_gains Y.F_need_gains.kp (Y.F_need_gains.bindsN fun _ _ _ _ _ _ us hl => match us, hl with | [_, _], _ => rfl) (fa_cons (fe_var (pv 0)) (fa_cons (fe_var (pv 1)) (fa_nil))))) (fss_one (fs_ret (fe_call (ok_first_best Y) (hr.mono (by decide)) rfl Y.g_first_best Y.F_first_best.kp (Y.F_first_best.bindsN fun _ _ _ _ _ _ us hl => match us, hl with | [_, _, _], _ => rfl) (fa_cons (fe_var (pv 0)) (fa_cons (fe_var (pv 1)) (fa_cons (fe_call (ok_most_of Y) (hr.mono (by decide)) rfl Y.g_most_of Y.F_most_of.kp (Y.F_most_of.bindsN fun _ _ _ _ _ _ us hl => match us, hl with | [_, _], _ => rfl) (fa_cons (fe_var (pv 0)) (fa_cons (fe_var (pv 1)) (fa_nil)))) (fa_nil)))))))
theorem sc_is_most_paper : FnScope ["house", "gains", "thing", "place", "rows", "sums", "item"] ["house", "gains", "thing"] (defScope (top 70)) := ⟨rfl, rfl, rfl, by decide +kernel, rfl, by decide +kernel, by decide +kernel⟩
theorem ok_is_most_paper : FnOk P w K mg base CX0 7 Y.f_is_most_paper Y.d_is_most_paper ["house", "gains", "thing"] (spF Y.T 3 p_is_most_paper) := by
  refine fnF Y.F_is_most_paper sc_is_most_paper (by simp) rfl rfl fun dr cdv A outer s H E hr => ?_
  have S := sc_is_most_paper
  exact fss_cons (fs_drop (fe_call (ok_need_gains Y) (hr.mono (by decide)) rfl Y.g_need_gains Y.F_need_gains.kp (Y.F_need_gains.bindsN fun _ _ _ _ _ _ us hl => match us, hl with | [_, _], _ => rfl) (fa_cons (fe_var (pv 0)) (fa_cons (fe_var (pv 1)) (fa_nil))))) (fss_cons (fs_if (FW.ft (fw_or (ft_not (ft_val (fe_isi rfl Y.m_isinstance (fe_var (pv 2)) (pe_bltn rfl Y.m_tuple (by decide +kernel) rfl)))) (fw_or (ft_cmp (op_neD hr.units) od_ne (fe_callB call_len_seq cd_len rfl Y.m_len (by decide +kernel) (fa_cons (fe_var (pv 2)) (fa_nil))) (fe_int)) (fw_or1 (ft_not (ft_val (fe_call (ok_are_ratios Y) (hr.mono (by decide)) rfl Y.g_are_ratios Y.F_are_ratios.kp (Y.F_are_ratios.bindsN fun _ _ _ _ _ _ us hl => match us, hl with | [_, _], _ => rfl) (fa_cons (fe_ix (fe_var (pv 2)) (fe_int)) (fa_cons (fe_fldN rfl Y.tab (fe_var (pv 0))) (fa_nil)))))))))) (fss_one (fs_ret (fe_bl))) (fss_nil)) (fss_cons (fs_if (ft_not (ft_val (fe_call (ok_is_plan Y) (hr.mono (by decide)) rfl Y.g_is_plan Y.F_is_plan.kp (Y.F_is_plan.bindsN fun _ _ _ _ _ _ us hl => match us, hl with | [_, _], _ => rfl) (fa_cons (fe_var (pv 0)) (fa_cons (fe_ix (fe_var (pv 2)) (fe_int)) (fa_nil)))))) (fss_one (fs_ret (fe_bl))) (fss_nil)) (fss_cons (fs_for (passes_of rfl) rfl (fi_enum rfl Y.m_enumerate (fa_cons (fe_fldN rfl Y.tab (fe_var (pv 0))) (fa_nil))) (fg_tup rfl (fgs_cons (fg_name S.nd rfl (by first | exact Or.inl rfl | exact Or.inr rfl)) (fgs_cons (fg_name S.nd rfl (by first | exact Or.inl rfl | exact Or.inr rfl)) (fgs_nil)))) (fss_cons (fs_set S.nd rfl (by first | exact Or.inl rfl | exact Or.inr rfl) (fe_call (ok_sums_of_moves Y) (hr.mono (by decide)) rfl Y.g_sums_of_moves Y.F_sums_of_moves.kp (Y.F_sums_of_moves.bindsN fun _ _ _ _ _ _ us hl => match us, hl with | [_, _, _], _ => rfl) (fa_cons (fe_var (pv 4)) (fa_cons (fe_ix (fe_var (pv 1)) (fe_var (pv 3))) (fa_cons (fe_ix (fe_var (pv 2)) (fe_int)) (fa_nil)))))) (fss_one (fs_if (FW.ft (fw_or (ft_val (fe_callB (cr_any rfl) cd_any rfl Y.m_any (by decide +kernel) (fa_cons (FO.fe (fo_lc (own := [("item", 6)]) rfl S.nd (fi_seq (fe_var (pv 5))) (blkOk_by (by rfl)) (fun _ _ _ _ _ => fg_name S.nd rfl (by first | exact Or.inl rfl | exact Or.inr rfl)) (fun _ _ _ _ _ => fts_nil) (fun _ _ _ _ _ => fe_call (ok_is_below Y) (hr.mono (by decide)) rfl Y.g_is_below Y.F_is_below.kp (Y.F_is_below.bindsN fun _ _ _ _ _ _ us hl => match us, hl with | [_, _], _ => rfl) (fa_cons (fe_ix (fe_ix (fe_var (pv 2)) (fe_int)) (fe_var (pv 3))) (fa_cons (fe_var (pv 6)) (fa_nil)))) (by decide))) (fa_nil)))) (fw_or1 (ft_cmp (op_neD hr.units) od_ne (fe_ix (fe_var (pv 5)) (fe_ix (fe_ix (fe_var (pv 2)) (fe_int)) (fe_var (pv 3)))) (fe_ix (fe_ix (fe_var (pv 2)) (fe_int)) (fe_var (pv 3))))))) (fss_one (fs_ret (fe_bl))) (fss_nil))))) (fss_one (fs_ret (fe_bl))))))
theorem sc_flow_of : FnScope ["house", "share", "plan"] ["house", "share", "plan"] (defScope (top 71)) := ⟨rfl, rfl, rfl, by decide +kernel, rfl, by decide +kernel, by decide +kernel⟩
theorem ok_flow_of : FnOk P w K mg base CX0 7 Y.f_flow_of Y.d_flow_of ["house", "share", "plan"] (spF Y.T 3 p_flow_of) := by
  refine fnF Y.F_flow_of sc_flow_of (by simp) rfl rfl fun dr cdv A outer s H E hr => ?_
  have S := sc_flow_of
  exact fss_cons (fs_drop (fe_call (ok_need_house Y) (hr.mono (by decide)) rfl Y.g_need_house Y.F_need_house.kp (Y.F_need_house.bindsN fun _ _ _ _ _ _ us hl => match us, hl with | [_], _ => rfl) (fa_cons (fe_var (pv 0)) (fa_nil)))) (fss_cons (fs_drop (fe_call (ok_need_share Y) (hr.mono (by decide)) rfl Y.g_need_share Y.F_need_share.kp (Y.F_need_share.bindsN fun _ _ _ _ _ _ us hl => match us, hl with | [_, _], _ => rfl) (fa_cons (fe_fldN rfl Y.tab (fe_var (pv 0))) (fa_cons (fe_var (pv 1)) (fa_nil))))) (fss_cons (fs_drop (fe_call (ok_need_plan Y) (hr.mono (by decide)) rfl Y.g_need_plan Y.F_need_plan.kp (Y.F_need_plan.bindsN fun _ _ _ _ _ _ us hl => match us, hl with | [_, _], _ => rfl) (fa_cons (fe_var (pv 0)) (fa_cons (fe_var (pv 2)) (fa_nil))))) (fss_cons (fs_drop (fe_call (ok_need_leaky Y) (hr.mono (by decide)) rfl Y.g_need_leaky Y.F_need_leaky.kp (Y.F_need_leaky.bindsN fun _ _ _ _ _ _ us hl => match us, hl with | [_], _ => rfl) (fa_cons (fe_var (pv 0)) (fa_nil)))) (fss_one (fs_ret (fe_call (ok_flow_by Y) (hr.mono (by decide)) rfl Y.g_flow_by Y.F_flow_by.kp (Y.F_flow_by.bindsN fun _ _ _ _ _ _ us hl => match us, hl with | [_, _, _], _ => rfl) (fa_cons (fe_var (pv 0)) (fa_cons (fe_var (pv 1)) (fa_cons (fe_var (pv 2)) (fa_nil))))))))))
theorem sc_is_flow : FnScope ["house", "share", "thing", "number"] ["house", "share", "thing"] (defScope (top 72)) := ⟨rfl, rfl, rfl, by decide +kernel, rfl, by decide +kernel, by decide +kernel⟩
theorem ok_is_flow : FnOk P w K mg base CX0 7 Y.f_is_flow Y.d_is_flow ["house", "share", "thing"] (spF Y.T 3 p_is_flow) := by
  refine fnF Y.F_is_flow sc_is_flow (by simp) rfl rfl fun dr cdv A outer s H E hr => ?_
  have S := sc_is_flow
  exact fss_cons (fs_drop (fe_call (ok_need_house Y) (hr.mono (by decide)) rfl Y.g_need_house Y.F_need_house.kp (Y.F_need_house.bindsN fun _ _ _ _ _ _ us hl => match us, hl with | [_], _ => rfl) (fa_cons (fe_var (pv 0)) (fa_nil)))) (fss_cons (fs_drop (fe_call (ok_need_share Y) (hr.mono (by decide)) rfl Y.g_need_share Y.F_need_share.kp (Y.F_need_share.bindsN fun _ _ _ _ _ _ us hl => match us, hl with | [_, _], _ => rfl) (fa_cons (fe_fldN rfl Y.tab (fe_var (pv 0))) (fa_cons (fe_var (pv 1)) (fa_nil))))) (fss_cons (fs_drop (fe_call (ok_need_leaky Y) (hr.mono (by decide)) rfl Y.g_need_leaky Y.F_need_leaky.kp (Y.F_need_leaky.bindsN fun _ _ _ _ _ _ us hl => match us, hl with | [_], _ => rfl) (fa_cons (fe_var (pv 0)) (fa_nil)))) (fss_cons (fs_if (ft_not (ft_val (fe_call (ok_are_counts Y) (hr.mono (by decide)) rfl Y.g_are_counts Y.F_are_counts.kp (Y.F_are_counts.bindsN fun _ _ _ _ _ _ us hl => match us, hl with | [_, _], _ => rfl) (fa_cons (fe_var (pv 0)) (fa_cons (fe_var (pv 2)) (fa_nil)))))) (fss_one (fs_ret (fe_bl))) (fss_nil)) (fss_one (fs_ret (fe_cmp (op_eqD hr.units) od_eq (fe_call (ok_begun_by Y) (hr.mono (by decide)) rfl Y.g_begun_by Y.F_begun_by.kp (Y.F_begun_by.bindsN fun _ _ _ _ _ _ us hl => match us, hl with | [_, _], _ => rfl) (fa_cons (fe_var (pv 0)) (fa_cons (fe_var (pv 2)) (fa_nil)))) (FO.fe (fo_lc (own := [("number", 3)]) rfl S.nd (fi_seq (fe_ix (fe_var (pv 1)) (fe_int))) (blkOk_by (by rfl)) (fun _ _ _ _ _ => fg_name S.nd rfl (by first | exact Or.inl rfl | exact Or.inr rfl)) (fun _ _ _ _ _ => fts_nil) (fun _ _ _ _ _ => fe_call (ok_ratio_of Y) (hr.mono (by decide)) rfl Y.g_ratio_of Y.F_ratio_of.kp (Y.F_ratio_of.bindsN fun _ _ _ _ _ _ us hl => match us, hl with | [_, _], _ => rfl) (fa_cons (fe_var (pv 3)) (fa_cons (fe_ix (fe_var (pv 1)) (fe_int)) (fa_nil)))) (by decide)))))))))
theorem sc__law_mixed : FnScope ["draw", "turn", "found", "great", "blend", "cell"] ["draw"] (defScope (top 75)) := ⟨rfl, rfl, rfl, by decide +kernel, rfl, by decide +kernel, by decide +kernel⟩
theorem ok__law_mixed : FnOk P w K mg base CX0 1 Y.f__law_mixed Y.d__law_mixed ["draw"] (spF Y.T 1 p__law_mixed) := by
  refine fnF Y.F__law_mixed sc__law_mixed (by simp) rfl rfl fun dr cdv A outer s H E hr => ?_
  have S := sc__law_mixed
  exact fss_cons (fs_dput (by decide) (hu1 hr) (pv 0) (fe_op op_add od_I0 (fe_drT (hu1 hr) (fe_var (pv 0))) (fe_int))) (fss_cons ((by first | exact fs_par2 rfl S.nd rfl rfl (by decide) rfl rfl (fxs_cons (fx_P (fe_callTy call_int1 cd_int rfl Y.m_int (by decide +kernel) (fa_cons (fe_drT (hu1 hr) (fe_var (pv 0))) (fa_nil)))) (fxs_cons (fx_P (fe_int)) (fxs_nil))) | exact fs_parT rfl rfl (fns_cons S.nd rfl (by first | exact Or.inl rfl | exact Or.inr rfl) (fns_cons S.nd rfl (by first | exact Or.inl rfl | exact Or.inr rfl) (fns_nil))) (fxs_cons (fx_P (fe_callTy call_int1 cd_int rfl Y.m_int (by decide +kernel) (fa_cons (fe_drT (hu1 hr) (fe_var (pv 0))) (fa_nil)))) (fxs_cons (fx_P (fe_int)) (fxs_nil))))) (fss_cons (fs_for (passes_of rfl) rfl (fi_seq (FO.fe (fo_lst (fa_cons (fe_int) (fa_cons (fe_int) (fa_cons (fe_int) (fa_nil))))))) (fg_name S.nd rfl (by first | exact Or.inl rfl | exact Or.inr rfl)) (fss_cons (fs_set S.nd rfl (by first | exact Or.inl rfl | exact Or.inr rfl) (fe_op op_mod od_I (fe_op op_add od_I0 (fe_op op_mulB od_I (fe_var (pv 1)) (fe_int)) (fe_op op_fdivW od_I (fe_var (pv 3)) (fe_int))) (fe_var (pv 3)))) (fss_cons (fs_for (passes_of rfl) rfl (fi_seq (fe_drC (hu1 hr) (fe_var (pv 0)))) (fg_name S.nd rfl (by first | exact Or.inl rfl | exact Or.inr rfl)) (fss_one (fs_set S.nd rfl (by first | exact Or.inl rfl | exact Or.inr rfl) (fe_op op_mod od_I (fe_op op_add od_I0 (fe_op op_add od_I0 (fe_op op_mulB od_I (fe_var (pv 4)) (fe_int)) (fe_callTy call_int1 cd_int rfl Y.m_int (by decide +kernel) (fa_cons (fe_var (pv 5)) (fa_nil)))) (fe_var (pv 1))) (fe_var (pv 3)))))) (fss_one (fs_set S.nd rfl (by first | exact Or.inl rfl | exact Or.inr rfl) (fe_op op_add od_I0 (fe_op op_mulB od_I (fe_var (pv 2)) (fe_int)) (fe_op op_mod od_I (fe_op op_pow od_I (fe_var (pv 4)) (fe_int)) (fe_var (pv 3))))))))) (fss_one (fs_ret (fe_var (pv 2))))))
theorem sc__law_take : FnScope ["draw", "amount", "found"] ["draw", "amount"] (defScope (top 76)) := ⟨rfl, rfl, rfl, by decide +kernel, rfl, by decide +kernel, by decide +kernel⟩
theorem ok__law_take : FnOk P w K mg base CX0 2 Y.f__law_take Y.d__law_take ["draw", "amount"] (spF Y.T 2 p__law_take) := by
  refine fnF Y.F__law_take sc__law_take (by simp) rfl rfl fun dr cdv A outer s H E hr => ?_
  have S := sc__law_take
  exact fss_cons (fs_if (ft_cmp (op_eqD hr.units) od_eq (fe_drR (hu1 hr) (fe_var (pv 0))) (fe_int)) (fss_one (fs_dput (by decide) (hu1 hr) (pv 0) (fe_pop hr.units (pv 0) (pv 0) (fe_call (ok__law_mixed Y) (hr.mono (by decide)) rfl Y.g__law_mixed Y.F__law_mixed.kp (Y.F__law_mixed.bindsN fun _ _ _ _ _ _ us hl => match us, hl with | [_], _ => rfl) (fa_cons (fe_var (pv 0)) (fa_nil)))))) (fss_nil)) (fss_cons (fs_set S.nd rfl (by first | exact Or.inl rfl | exact Or.inr rfl) (fe_op op_mod od_I (fe_callTy call_int1 cd_int rfl Y.m_int (by decide +kernel) (fa_cons (fe_drR (hu1 hr) (fe_var (pv 0))) (fa_nil))) (fe_var (pv 1)))) (fss_cons (fs_dput (by decide) (hu1 hr) (pv 0) (fe_op op_fdivW od_I (fe_callTy call_int1 cd_int rfl Y.m_int (by decide +kernel) (fa_cons (fe_drR (hu1 hr) (fe_var (pv 0))) (fa_nil))) (fe_var (pv 1)))) (fss_one (fs_ret (fe_var (pv 2))))))
theorem sc__law_pick : FnScope ["draw", "some"] ["draw", "some"] (defScope (top 77)) := ⟨rfl, rfl, rfl, by decide +kernel, rfl, by decide +kernel, by decide +kernel⟩
theorem ok__law_pick : FnOk P w K mg base CX0 3 Y.f__law_pick Y.d__law_pick ["draw", "some"] (spF Y.T 2 p__law_pick) := by
  refine fnF Y.F__law_pick sc__law_pick (by simp) rfl rfl fun dr cdv A outer s H E hr => ?_
  have S := sc__law_pick
  exact fss_one (fs_ret (fe_ix (fe_var (pv 1)) (fe_call (ok__law_take Y) (hr.mono (by decide)) rfl Y.g__law_take Y.F__law_take.kp (Y.F__law_take.bindsN fun _ _ _ _ _ _ us hl => match us, hl with | [_, _], _ => rfl) (fa_cons (fe_var (pv 0)) (fa_cons (fe_callB call_len_seq cd_len rfl Y.m_len (by decide +kernel) (fa_cons (fe_var (pv 1)) (fa_nil))) (fa_nil))))))
theorem sc__law_common : FnScope ["one", "other"] ["one", "other"] (defScope (top 78)) := ⟨rfl, rfl, rfl, by decide +kernel, rfl, by decide +kernel, by decide +kernel⟩
theorem ok__law_common : FnOk P w K mg base CX0 1 Y.f__law_common Y.d__law_common ["one", "other"] (spF Y.T 2 p__law_common) := by
  refine fnF Y.F__law_common sc__law_common (by simp) rfl rfl fun dr cdv A outer s H E hr => ?_
  have S := sc__law_common
  exact fss_cons ((by first | exact fs_par2 rfl S.nd rfl rfl (by decide) rfl rfl (fxs_cons (fx_P (fe_callB call_abs cd_abs rfl Y.m_abs (by decide +kernel) (fa_cons (fe_var (pv 0)) (fa_nil)))) (fxs_cons (fx_P (fe_callB call_abs cd_abs rfl Y.m_abs (by decide +kernel) (fa_cons (fe_var (pv 1)) (fa_nil)))) (fxs_nil))) | exact fs_parT rfl rfl (fns_cons S.nd rfl (by first | exact Or.inl rfl | exact Or.inr rfl) (fns_cons S.nd rfl (by first | exact Or.inl rfl | exact Or.inr rfl) (fns_nil))) (fxs_cons (fx_P (fe_callB call_abs cd_abs rfl Y.m_abs (by decide +kernel) (fa_cons (fe_var (pv 0)) (fa_nil)))) (fxs_cons (fx_P (fe_callB call_abs cd_abs rfl Y.m_abs (by decide +kernel) (fa_cons (fe_var (pv 1)) (fa_nil)))) (fxs_nil))))) (fss_cons (fs_while (passes_of rfl) (ft_cmp (op_neD hr.units) od_ne (fe_var (pv 1)) (fe_int)) (fss_one ((by first | exact fs_par2 rfl S.nd rfl rfl (by decide) rfl rfl (fxs_cons (fx_P (fe_var (pv 1))) (fxs_cons (fx_P (fe_op op_mod od_I (fe_var (pv 0)) (fe_var (pv 1)))) (fxs_nil))) | exact fs_parT rfl rfl (fns_cons S.nd rfl (by first | exact Or.inl rfl | exact Or.inr rfl) (fns_cons S.nd rfl (by first | exact Or.inl rfl | exact Or.inr rfl) (fns_nil))) (fxs_cons (fx_P (fe_var (pv 1))) (fxs_cons (fx_P (fe_op op_mod od_I (fe_var (pv 0)) (fe_var (pv 1)))) (fxs_nil))))))) (fss_one (fs_ret (fe_var (pv 0)))))
theorem sc__law_ratio : FnScope ["above", "below", "divisor"] ["above", "below"] (defScope (top 79)) := ⟨rfl, rfl, rfl, by decide +kernel, rfl, by decide +kernel, by decide +kernel⟩
theorem ok__law_ratio : FnOk P w K mg base CX0 2 Y.f__law_ratio Y.d__law_ratio ["above", "below"] (spF Y.T 2 p__law_ratio) := by
  refine fnF Y.F__law_ratio sc__law_ratio (by simp) rfl rfl fun dr cdv A outer s H E hr => ?_
  have S := sc__law_ratio
  exact fss_cons (fs_set S.nd rfl (by first | exact Or.inl rfl | exact Or.inr rfl) (fe_if (ft_cmp op_gt od_B0 (fe_var (pv 1)) (fe_int)) (fe_call (ok__law_common Y) (hr.mono (by decide)) rfl Y.g__law_common Y.F__law_common.kp (Y.F__law_common.bindsN fun _ _ _ _ _ _ us hl => match us, hl with | [_, _], _ => rfl) (fa_cons (fe_var (pv 0)) (fa_cons (fe_var (pv 1)) (fa_nil)))) (fe_op op_sub od_I0 (fe_int) (fe_call (ok__law_common Y) (hr.mono (by decide)) rfl Y.g__law_common Y.F__law_common.kp (Y.F__law_common.bindsN fun _ _ _ _ _ _ us hl => match us, hl with | [_, _], _ => rfl) (fa_cons (fe_var (pv 0)) (fa_cons (fe_var (pv 1)) (fa_nil))))))) (fss_one (fs_ret (fe_tup (fa_cons (fe_op op_fdivW od_I (fe_var (pv 0)) (fe_var (pv 2))) (fa_cons (fe_op op_fdivW od_I (fe_var (pv 1)) (fe_var (pv 2))) (fa_nil))))))
theorem sc__law_plus : FnScope ["one", "other"] ["one", "other"] (defScope (top 80)) := ⟨rfl, rfl, rfl, by decide +kernel, rfl, by decide +kernel, by decide +kernel⟩
theorem ok__law_plus : FnOk P w K mg base CX0 3 Y.f__law_plus Y.d__law_plus ["one", "other"] (spF Y.T 2 p__law_plus) := by
  refine fnF Y.F__law_plus sc__law_plus (by simp) rfl rfl fun dr cdv A outer s H E hr => ?_
  have S := sc__law_plus
  exact fss_one (fs_ret (fe_call (ok__law_ratio Y) (hr.mono (by decide)) rfl Y.g__law_ratio Y.F__law_ratio.kp (Y.F__law_ratio.bindsN fun _ _ _ _ _ _ us hl => match us, hl with | [_, _], _ => rfl) (fa_cons (fe_op op_add od_I0 (fe_op op_mulB od_I (fe_ix (fe_var (pv 0)) (fe_int)) (fe_ix (fe_var (pv 1)) (fe_int))) (fe_op op_mulB od_I (fe_ix (fe_var (pv 1)) (fe_int)) (fe_ix (fe_var (pv 0)) (fe_int)))) (fa_cons (fe_op op_mulB od_I (fe_ix (fe_var (pv 0)) (fe_int)) (fe_ix (fe_var (pv 1)) (fe_int))) (fa_nil)))))
theorem sc__law_times : FnScope ["one", "other"] ["one", "other"] (defScope (top 81)) := ⟨rfl, rfl, rfl, by decide +kernel, rfl, by decide +kernel, by decide +kernel⟩
theorem ok__law_times : FnOk P w K mg base CX0 3 Y.f__law_times Y.d__law_times ["one", "other"] (spF Y.T 2 p__law_times) := by
  refine fnF Y.F__law_times sc__law_times (by simp) rfl rfl fun dr cdv A outer s H E hr => ?_
  have S := sc__law_times
  exact fss_one (fs_ret (fe_call (ok__law_ratio Y) (hr.mono (by decide)) rfl Y.g__law_ratio Y.F__law_ratio.kp (Y.F__law_ratio.bindsN fun _ _ _ _ _ _ us hl => match us, hl with | [_, _], _ => rfl) (fa_cons (fe_op op_mulB od_I (fe_ix (fe_var (pv 0)) (fe_int)) (fe_ix (fe_var (pv 1)) (fe_int))) (fa_cons (fe_op op_mulB od_I (fe_ix (fe_var (pv 0)) (fe_int)) (fe_ix (fe_var (pv 1)) (fe_int))) (fa_nil)))))
theorem sc__law_total : FnScope ["ratios", "found", "ratio"] ["ratios"] (defScope (top 82)) := ⟨rfl, rfl, rfl, by decide +kernel, rfl, by decide +kernel, by decide +kernel⟩
theorem ok__law_total : FnOk P w K mg base CX0 4 Y.f__law_total Y.d__law_total ["ratios"] (spF Y.T 1 p__law_total) := by
  refine fnF Y.F__law_total sc__law_total (by simp) rfl rfl fun dr cdv A outer s H E hr => ?_
  have S := sc__law_total
  exact fss_cons (fs_set S.nd rfl (by first | exact Or.inl rfl | exact Or.inr rfl) (fe_tup (fa_cons (fe_int) (fa_cons (fe_int) (fa_nil))))) (fss_cons (fs_for (passes_of rfl) rfl (fi_seq (fe_var (pv 0))) (fg_name S.nd rfl (by first | exact Or.inl rfl | exact Or.inr rfl)) (fss_one (fs_set S.nd rfl (by first | exact Or.inl rfl | exact Or.inr rfl) (fe_call (ok__law_plus Y) (hr.mono (by decide)) rfl Y.g__law_plus Y.F__law_plus.kp (Y.F__law_plus.bindsN fun _ _ _ _ _ _ us hl => match us, hl with | [_, _], _ => rfl) (fa_cons (fe_var (pv 1)) (fa_cons (fe_var (pv 2)) (fa_nil))))))) (fss_one (fs_ret (fe_var (pv 1)))))
theorem sc__law_parts : FnScope ["pair", "number"] ["pair"] (defScope (top 83)) := ⟨rfl, rfl, rfl, by decide +kernel, rfl, by decide +kernel, by decide +kernel⟩
theorem ok__law_parts : FnOk P w K mg base CX0 3 Y.f__law_parts Y.d__law_parts ["pair"] (spF Y.T 1 p__law_parts) := by
  refine fnF Y.F__law_parts sc__law_parts (by simp) rfl rfl fun dr cdv A outer s H E hr => ?_
  have S := sc__law_parts
  exact fss_one (fs_ret (FO.fe (fo_lc (own := [("number", 1)]) rfl S.nd (fi_seq (fe_ix (fe_var (pv 0)) (fe_int))) (blkOk_by (by rfl)) (fun _ _ _ _ _ => fg_name S.nd rfl (by first | exact Or.inl rfl | exact Or.inr rfl)) (fun _ _ _ _ _ => fts_nil) (fun _ _ _ _ _ => fe_call (ok__law_ratio Y) (hr.mono (by decide)) rfl Y.g__law_ratio Y.F__law_ratio.kp (Y.F__law_ratio.bindsN fun _ _ _ _ _ _ us hl => match us, hl with | [_, _], _ => rfl) (fa_cons (fe_var (pv 1)) (fa_cons (fe_ix (fe_var (pv 0)) (fe_int)) (fa_nil)))) (by decide))))
theorem sc__law_pair : FnScope ["ratios", "scale", "divisor", "up", "down", "numbers", "number"] ["ratios"] (defScope (top 84)) := ⟨rfl, rfl, rfl, by decide +kernel, rfl, by decide +kernel, by decide +kernel⟩
theorem ok__law_pair : FnOk P w K mg base CX0 2 Y.f__law_pair Y.d__law_pair ["ratios"] (spF Y.T 1 p__law_pair) := by
  refine fnF Y.F__law_pair sc__law_pair (by simp) rfl rfl fun dr cdv A outer s H E hr => ?_
  have S := sc__law_pair
  exact fss_cons ((by first | exact fs_par2 rfl S.nd rfl rfl (by decide) rfl rfl (fxs_cons (fx_P (fe_int)) (fxs_cons (fx_P (fe_int)) (fxs_nil))) | exact fs_parT rfl rfl (fns_cons S.nd rfl (by first | exact Or.inl rfl | exact Or.inr rfl) (fns_cons S.nd rfl (by first | exact Or.inl rfl | exact Or.inr rfl) (fns_nil))) (fxs_cons (fx_P (fe_int)) (fxs_cons (fx_P (fe_int)) (fxs_nil))))) (fss_cons (fs_for (passes_of rfl) rfl (fi_seq (fe_var (pv 0))) (fg_tup rfl (fgs_cons (fg_name S.nd rfl (by first | exact Or.inl rfl | exact Or.inr rfl)) (fgs_cons (fg_name S.nd rfl (by first | exact Or.inl rfl | exact Or.inr rfl)) (fgs_nil)))) (fss_one (fs_set S.nd rfl (by first | exact Or.inl rfl | exact Or.inr rfl) (fe_op op_mulB od_I (fe_op op_fdivW od_I (fe_var (pv 1)) (fe_call (ok__law_common Y) (hr.mono (by decide)) rfl Y.g__law_common Y.F__law_common.kp (Y.F__law_common.bindsN fun _ _ _ _ _ _ us hl => match us, hl with | [_, _], _ => rfl) (fa_cons (fe_var (pv 1)) (fa_cons (fe_var (pv 4)) (fa_nil))))) (fe_var (pv 4)))))) (fss_cons ((by first | exact fs_setLc (own := [("up", 3), ("down", 4)]) rfl S.nd rfl rfl (fi_seq (fe_var (pv 0))) (blkOk_by (by rfl)) (fun _ _ _ _ _ => fg_tup rfl (fgs_cons (fg_name S.nd rfl (by first | exact Or.inl rfl | exact Or.inr rfl)) (fgs_cons (fg_name S.nd rfl (by first | exact Or.inl rfl | exact Or.inr rfl)) (fgs_nil)))) (fun _ _ _ _ _ => fts_nil) (fun _ _ _ _ _ => fe_op op_mulB od_I (fe_var (pv 3)) (fe_op op_fdivW od_I (fe_var (pv 1)) (fe_var (pv 4)))) (by decide) | exact fs_set S.nd rfl (by first | exact Or.inl rfl | exact Or.inr rfl) (FO.fe (fo_lc (own := [("up", 3), ("down", 4)]) rfl S.nd (fi_seq (fe_var (pv 0))) (blkOk_by (by rfl)) (fun _ _ _ _ _ => fg_tup rfl (fgs_cons (fg_name S.nd rfl (by first | exact Or.inl rfl | exact Or.inr rfl)) (fgs_cons (fg_name S.nd rfl (by first | exact Or.inl rfl | exact Or.inr rfl)) (fgs_nil)))) (fun _ _ _ _ _ => fts_nil) (fun _ _ _ _ _ => fe_op op_mulB od_I (fe_var (pv 3)) (fe_op op_fdivW od_I (fe_var (pv 1)) (fe_var (pv 4)))) (by decide))))) (fss_cons (fs_for (passes_of rfl) rfl (fi_seq (FO.fe (fo_cat (fe_var (pv 5)) (FO.fe (fo_lst (fa_cons (fe_var (pv 1)) (fa_nil))))))) (fg_name S.nd rfl (by first | exact Or.inl rfl | exact Or.inr rfl)) (fss_one (fs_set S.nd rfl (by first | exact Or.inl rfl | exact Or.inr rfl) (fe_call (ok__law_common Y) (hr.mono (by decide)) rfl Y.g__law_common Y.F__law_common.kp (Y.F__law_common.bindsN fun _ _ _ _ _ _ us hl => match us, hl with | [_, _], _ => rfl) (fa_cons (fe_var (pv 2)) (fa_cons (fe_var (pv 6)) (fa_nil))))))) (fss_one (fs_ret (fe_tup (fa_cons (fe_op op_fdivW od_I (fe_var (pv 1)) (fe_var (pv 2))) (fa_cons (fe_callTy call_tuple_of cd_tuple rfl Y.m_tuple (by decide +kernel) (fa_cons (FO.fe (fo_lc (own := [("number", 6)]) rfl S.nd (fi_seq (fe_var (pv 5))) (blkOk_by (by rfl)) (fun _ _ _ _ _ => fg_name S.nd rfl (by first | exact Or.inl rfl | exact Or.inr rfl)) (fun _ _ _ _ _ => fts_nil) (fun _ _ _ _ _ => fe_op op_fdivW od_I (fe_var (pv 6)) (fe_var (pv 2))) (by decide))) (fa_nil))) (fa_nil)))))))))
theorem sc__law_some_share : FnScope ["draw", "many", "numbers", "place", "number"] ["draw", "many"] (defScope (top 85)) := ⟨rfl, rfl, rfl, by decide +kernel, rfl, by decide +kernel, by decide +kernel⟩
theorem ok__law_some_share : FnOk P w K mg base CX0 4 Y.f__law_some_share Y.d__law_some_share ["draw", "many"] (spF Y.T 2 p__law_some_share) := by
  refine fnF Y.F__law_some_share sc__law_some_share (by simp) rfl rfl fun dr cdv A outer s H E hr => ?_
  have S := sc__law_some_share
  exact fss_cons ((by first | exact fs_setOLc (own := [("place", 3)]) rfl S.nd rfl rfl (fi_range1 rfl Y.m_range (fa_cons (fe_var (pv 1)) (fa_nil))) (blkOk_by (by rfl)) (fun _ _ _ _ _ => fg_name S.nd rfl (by first | exact Or.inl rfl | exact Or.inr rfl)) (fun _ _ _ _ _ => fts_nil) (fun _ _ _ _ _ => fe_call (ok__law_pick Y) (hr.mono (by decide)) rfl Y.g__law_pick Y.F__law_pick.kp (Y.F__law_pick.bindsN fun _ _ _ _ _ _ us hl => match us, hl with | [_, _], _ => rfl) (fa_cons (fe_var (pv 0)) (fa_cons (FO.fe (fo_lst (fa_cons (fe_int) (fa_cons (fe_int) (fa_cons (fe_int) (fa_cons (fe_int) (fa_cons (fe_int) (fa_cons (fe_int) (fa_nil))))))))) (fa_nil)))) (by decide) | exact fs_setO S.nd rfl (by first | exact Or.inl rfl | exact Or.inr rfl) (fo_lc (own := [("place", 3)]) rfl S.nd (fi_range1 rfl Y.m_range (fa_cons (fe_var (pv 1)) (fa_nil))) (blkOk_by (by rfl)) (fun _ _ _ _ _ => fg_name S.nd rfl (by first | exact Or.inl rfl | exact Or.inr rfl)) (fun _ _ _ _ _ => fts_nil) (fun _ _ _ _ _ => fe_call (ok__law_pick Y) (hr.mono (by decide)) rfl Y.g__law_pick Y.F__law_pick.kp (Y.F__law_pick.bindsN fun _ _ _ _ _ _ us hl => match us, hl with | [_, _], _ => rfl) (fa_cons (fe_var (pv 0)) (fa_cons (FO.fe (fo_lst (fa_cons (fe_int) (fa_cons (fe_int) (fa_cons (fe_int) (fa_cons (fe_int) (fa_cons (fe_int) (fa_cons (fe_int) (fa_nil))))))))) (fa_nil)))) (by decide)))) (fss_cons (fs_if (ft_cmp (op_eqD hr.units) od_eq (fe_callB (cr_sumB rfl) cd_sumB rfl Y.m_sum (by decide +kernel) (fa_cons (fe_var (pv 2)) (fa_nil))) (fe_int)) (fss_one (fs_put (pv 2) (fe_int) (fe_call (ok__law_take Y) (hr.mono (by decide)) rfl Y.g__law_take Y.F__law_take.kp (Y.F__law_take.bindsN fun _ _ _ _ _ _ us hl => match us, hl with | [_, _], _ => rfl) (fa_cons (fe_var (pv 0)) (fa_cons (fe_var (pv 1)) (fa_nil)))))) (fss_nil)) (fss_one (fs_ret (fe_call (ok__law_pair Y) (hr.mono (by decide)) rfl Y.g__law_pair Y.F__law_pair.kp (Y.F__law_pair.bindsN fun _ _ _ _ _ _ us hl => match us, hl with | [_], _ => rfl) (fa_cons (FO.fe (fo_lc (own := [("number", 4)]) rfl S.nd (fi_seq (fe_var (pv 2))) (blkOk_by (by rfl)) (fun _ _ _ _ _ => fg_name S.nd rfl (by first | exact Or.inl rfl | exact Or.inr rfl)) (fun _ _ _ _ _ => fts_nil) (fun _ _ _ _ _ => fe_call (ok__law_ratio Y) (hr.mono (by decide)) rfl Y.g__law_ratio Y.F__law_ratio.kp (Y.F__law_ratio.bindsN fun _ _ _ _ _ _ us hl => match us, hl with | [_, _], _ => rfl) (fa_cons (fe_var (pv 4)) (fa_cons (fe_callB (cr_sumB rfl) cd_sumB rfl Y.m_sum (by decide +kernel) (fa_cons (fe_var (pv 2)) (fa_nil))) (fa_nil)))) (by decide))) (fa_nil))))))
theorem sc__law_dot : FnScope ["one", "other", "here", "there"] ["one", "other"] (defScope (top 86)) := ⟨rfl, rfl, rfl, by decide +kernel, rfl, by decide +kernel, by decide +kernel⟩
theorem ok__law_dot : FnOk P w K mg base CX0 5 Y.f__law_dot Y.d__law_dot ["one", "other"] (spF Y.T 2 p__law_dot) := by
  refine fnF Y.F__law_dot sc__law_dot (by simp) rfl rfl fun dr cdv A outer s H E hr => ?_
  have S := sc__law_dot
  exact fss_one (fs_ret (fe_call (ok__law_total Y) (hr.mono (by decide)) rfl Y.g__law_total Y.F__law_total.kp (Y.F__law_total.bindsN fun _ _ _ _ _ _ us hl => match us, hl with | [_], _ => rfl) (fa_cons (FO.fe (fo_lc (own := [("here", 2), ("there", 3)]) rfl S.nd (fi_zip2 rfl Y.m_zip (fa_cons (fe_var (pv 0)) (fa_cons (fe_var (pv 1)) (fa_nil)))) (blkOk_by (by rfl)) (fun _ _ _ _ _ => fg_tup rfl (fgs_cons (fg_name S.nd rfl (by first | exact Or.inl rfl | exact Or.inr rfl)) (fgs_cons (fg_name S.nd rfl (by first | exact Or.inl rfl | exact Or.inr rfl)) (fgs_nil)))) (fun _ _ _ _ _ => fts_nil) (fun _ _ _ _ _ => fe_call (ok__law_times Y) (hr.mono (by decide)) rfl Y.g__law_times Y.F__law_times.kp (Y.F__law_times.bindsN fun _ _ _ _ _ _ us hl => match us, hl with | [_, _], _ => rfl) (fa_cons (fe_var (pv 2)) (fa_cons (fe_var (pv 3)) (fa_nil)))) (by decide))) (fa_nil))))
theorem sc__law_stays : FnScope ["draw", "many", "place"] ["draw", "many"] (defScope (top 87)) := ⟨rfl, rfl, rfl, by decide +kernel, rfl, by decide +kernel, by decide +kernel⟩
theorem ok__law_stays : FnOk P w K mg base CX0 4 Y.f__law_stays Y.d__law_stays ["draw", "many"] (spF Y.T 2 p__law_stays) := by
  refine fnF Y.F__law_stays sc__law_stays (by simp) rfl rfl fun dr cdv A outer s H E hr => ?_
  have S := sc__law_stays
  exact fss_one (fs_ret (FO.fe (fo_lc (own := [("place", 2)]) rfl S.nd (fi_range1 rfl Y.m_range (fa_cons (fe_var (pv 1)) (fa_nil))) (blkOk_by (by rfl)) (fun _ _ _ _ _ => fg_name S.nd rfl (by first | exact Or.inl rfl | exact Or.inr rfl)) (fun _ _ _ _ _ => fts_nil) (fun _ _ _ _ _ => fe_call (ok__law_pick Y) (hr.mono (by decide)) rfl Y.g__law_pick Y.F__law_pick.kp (Y.F__law_pick.bindsN fun _ _ _ _ _ _ us hl => match us, hl with | [_, _], _ => rfl) (fa_cons (fe_var (pv 0)) (fa_cons (FO.fe (fo_lst (fa_cons (fe_tup (fa_cons (fe_int) (fa_cons (fe_int) (fa_nil)))) (fa_cons (fe_tup (fa_cons (fe_int) (fa_cons (fe_int) (fa_nil)))) (fa_cons (fe_tup (fa_cons (fe_int) (fa_cons (fe_int) (fa_nil)))) (fa_cons (fe_tup (fa_cons (fe_int) (fa_cons (fe_int) (fa_nil)))) (fa_cons (fe_tup (fa_cons (fe_int) (fa_cons (fe_int) (fa_nil)))) (fa_cons (fe_tup (fa_cons (fe_int) (fa_cons (fe_int) (fa_nil)))) (fa_nil))))))))) (fa_nil)))) (by decide))))
theorem sc__law_slow : FnScope ["rows", "stays", "found", "place", "total", "numbers", "up", "down", "latter", "number"] ["rows", "stays"] (defScope (top 88)) := ⟨rfl, rfl, rfl, by decide +kernel, rfl, by decide +kernel, by decide +kernel⟩
theorem ok__law_slow : FnOk P w K mg base CX0 1 Y.f__law_slow Y.d__law_slow ["rows", "stays"] (spF Y.T 2 p__law_slow) := by
  refine fnF Y.F__law_slow sc__law_slow (by simp) rfl rfl fun dr cdv A outer s H E hr => ?_
  have S := sc__law_slow
  exact fss_cons (fs_setO S.nd rfl (by first | exact Or.inl rfl | exact Or.inr rfl) (fo_lst (fa_nil))) (fss_cons (fs_for (passes_of rfl) rfl (fi_enum rfl Y.m_enumerate (fa_cons (fe_var (pv 0)) (fa_nil))) (fg_tup rfl (fgs_cons (fg_name S.nd rfl (by first | exact Or.inl rfl | exact Or.inr rfl)) (fgs_cons (fg_tup rfl (fgs_cons (fg_name S.nd rfl (by first | exact Or.inl rfl | exact Or.inr rfl)) (fgs_cons (fg_name S.nd rfl (by first | exact Or.inl rfl | exact Or.inr rfl)) (fgs_nil)))) (fgs_nil)))) (fss_cons (fs_asg (fe_ix (fe_var (pv 1)) (fe_var (pv 3))) (fg_tup rfl (fgs_cons (fg_name S.nd rfl (by first | exact Or.inl rfl | exact Or.inr rfl)) (fgs_cons (fg_name S.nd rfl (by first | exact Or.inl rfl | exact Or.inr rfl)) (fgs_nil))))) (fss_cons ((by first | exact fs_setOLc (own := [("number", 9)]) rfl S.nd rfl rfl (fi_seq (fe_var (pv 5))) (blkOk_by (by rfl)) (fun _ _ _ _ _ => fg_name S.nd rfl (by first | exact Or.inl rfl | exact Or.inr rfl)) (fun _ _ _ _ _ => fts_nil) (fun _ _ _ _ _ => fe_op op_mulB od_I (fe_var (pv 9)) (fe_op op_sub od_I0 (fe_var (pv 7)) (fe_var (pv 6)))) (by decide) | exact fs_setO S.nd rfl (by first | exact Or.inl rfl | exact Or.inr rfl) (fo_lc (own := [("number", 9)]) rfl S.nd (fi_seq (fe_var (pv 5))) (blkOk_by (by rfl)) (fun _ _ _ _ _ => fg_name S.nd rfl (by first | exact Or.inl rfl | exact Or.inr rfl)) (fun _ _ _ _ _ => fts_nil) (fun _ _ _ _ _ => fe_op op_mulB od_I (fe_var (pv 9)) (fe_op op_sub od_I0 (fe_var (pv 7)) (fe_var (pv 6)))) (by decide)))) (fss_cons (fs_putF (pv 8) (fe_op op_add od_I0 (fe_ix (fe_var (pv 8)) (fe_var (pv 3))) (fe_op op_mulB od_I (fe_var (pv 4)) (fe_var (pv 6)))) (fe_var (pv 3))) (fss_frz 8 (fss_one (fs_app (pv 2) (fe_tup (fa_cons (fe_op op_mulB od_I (fe_var (pv 4)) (fe_var (pv 7))) (fa_cons (fe_callTy call_tuple_of cd_tuple rfl Y.m_tuple (by decide +kernel) (fa_cons (fe_var (pv 8)) (fa_nil))) (fa_nil))))))))))) (fss_one (fs_ret (fe_var (pv 2)))))
theorem sc__law_longer : FnScope ["stays", "up", "down"] ["stays"] (defScope (top 89)) := ⟨rfl, rfl, rfl, by decide +kernel, rfl, by decide +kernel, by decide +kernel⟩
theorem ok__law_longer : FnOk P w K mg base CX0 3 Y.f__law_longer Y.d__law_longer ["stays"] (spF Y.T 1 p__law_longer) := by
  refine fnF Y.F__law_longer sc__law_longer (by simp) rfl rfl fun dr cdv A outer s H E hr => ?_
  have S := sc__law_longer
  exact fss_one (fs_ret (FO.fe (fo_lc (own := [("up", 1), ("down", 2)]) rfl S.nd (fi_seq (fe_var (pv 0))) (blkOk_by (by rfl)) (fun _ _ _ _ _ => fg_tup rfl (fgs_cons (fg_name S.nd rfl (by first | exact Or.inl rfl | exact Or.inr rfl)) (fgs_cons (fg_name S.nd rfl (by first | exact Or.inl rfl | exact Or.inr rfl)) (fgs_nil)))) (fun _ _ _ _ _ => fts_nil) (fun _ _ _ _ _ => fe_call (ok__law_ratio Y) (hr.mono (by decide)) rfl Y.g__law_ratio Y.F__law_ratio.kp (Y.F__law_ratio.bindsN fun _ _ _ _ _ _ us hl => match us, hl with | [_, _], _ => rfl) (fa_cons (fe_var (pv 2)) (fa_cons (fe_op op_sub od_I0 (fe_var (pv 2)) (fe_var (pv 1))) (fa_nil)))) (by decide))))
theorem sc__law_shorter : FnScope ["stays", "up", "down"] ["stays"] (defScope (top 90)) := ⟨rfl, rfl, rfl, by decide +kernel, rfl, by decide +kernel, by decide +kernel⟩
theorem ok__law_shorter : FnOk P w K mg base CX0 3 Y.f__law_shorter Y.d__law_shorter ["stays"] (spF Y.T 1 p__law_shorter) := by
  refine fnF Y.F__law_shorter sc__law_shorter (by simp) rfl rfl fun dr cdv A outer s H E hr => ?_
  have S := sc__law_shorter
  exact fss_one (fs_ret (FO.fe (fo_lc (own := [("up", 1), ("down", 2)]) rfl S.nd (fi_seq (fe_var (pv 0))) (blkOk_by (by rfl)) (fun _ _ _ _ _ => fg_tup rfl (fgs_cons (fg_name S.nd rfl (by first | exact Or.inl rfl | exact Or.inr rfl)) (fgs_cons (fg_name S.nd rfl (by first | exact Or.inl rfl | exact Or.inr rfl)) (fgs_nil)))) (fun _ _ _ _ _ => fts_nil) (fun _ _ _ _ _ => fe_call (ok__law_ratio Y) (hr.mono (by decide)) rfl Y.g__law_ratio Y.F__law_ratio.kp (Y.F__law_ratio.bindsN fun _ _ _ _ _ _ us hl => match us, hl with | [_, _], _ => rfl) (fa_cons (fe_op op_sub od_I0 (fe_var (pv 2)) (fe_var (pv 1))) (fa_cons (fe_var (pv 2)) (fa_nil)))) (by decide))))
theorem sc__law_rows_of : FnScope ["walk", "total", "numbers"] ["walk"] (defScope (top 91)) := ⟨rfl, rfl, rfl, by decide +kernel, rfl, by decide +kernel, by decide +kernel⟩
theorem ok__law_rows_of : FnOk P w K mg base CX0 1 Y.f__law_rows_of Y.d__law_rows_of ["walk"] (spF Y.T 1 p__law_rows_of) := by
  refine fnF Y.F__law_rows_of sc__law_rows_of (by simp) rfl rfl fun dr cdv A outer s H E hr => ?_
  have S := sc__law_rows_of
  exact fss_one (fs_ret (FO.fe (fo_lc (own := [("total", 1), ("numbers", 2)]) rfl S.nd (fi_seq (fe_fldN rfl Y.tab (fe_var (pv 0)))) (blkOk_by (by rfl)) (fun _ _ _ _ _ => fg_tup rfl (fgs_cons (fg_name S.nd rfl (by first | exact Or.inl rfl | exact Or.inr rfl)) (fgs_cons (fg_name S.nd rfl (by first | exact Or.inl rfl | exact Or.inr rfl)) (fgs_nil)))) (fun _ _ _ _ _ => fts_nil) (fun _ _ _ _ _ => fe_tup (fa_cons (fe_var (pv 1)) (fa_cons (fe_var (pv 2)) (fa_nil)))) (by decide))))
theorem sc__law_house : FnScope ["draw", "many", "found", "place", "moves", "lap", "numbers", "spot"] ["draw"] (defScope (top 92)) := ⟨rfl, rfl, rfl, by decide +kernel, rfl, by decide +kernel, by decide +kernel⟩
theorem ok__law_house : FnOk P w K mg base CX0 4 Y.f__law_house Y.d__law_house ["draw"] (spF Y.T 1 p__law_house) := by
  refine fnF Y.F__law_house sc__law_house (by simp) rfl rfl fun dr cdv A outer s H E hr => ?_
  have S := sc__law_house
  exact fss_cons ((by first | exact fs_par2 rfl S.nd rfl rfl (by decide) rfl rfl (fxs_cons (fx_P (fe_op op_add od_I0 (fe_int) (fe_call (ok__law_take Y) (hr.mono (by decide)) rfl Y.g__law_take Y.F__law_take.kp (Y.F__law_take.bindsN fun _ _ _ _ _ _ us hl => match us, hl with | [_, _], _ => rfl) (fa_cons (fe_var (pv 0)) (fa_cons (fe_int) (fa_nil)))))) (fxs_cons (fx_O (fo_lst (fa_nil))) (fxs_nil))) | exact fs_parT rfl rfl (fns_cons S.nd rfl (by first | exact Or.inl rfl | exact Or.inr rfl) (fns_cons S.nd rfl (by first | exact Or.inl rfl | exact Or.inr rfl) (fns_nil))) (fxs_cons (fx_P (fe_op op_add od_I0 (fe_int) (fe_call (ok__law_take Y) (hr.mono (by decide)) rfl Y.g__law_take Y.F__law_take.kp (Y.F__law_take.bindsN fun _ _ _ _ _ _ us hl => match us, hl with | [_, _], _ => rfl) (fa_cons (fe_var (pv 0)) (fa_cons (fe_int) (fa_nil)))))) (fxs_cons (fx_O (fo_lst (fa_nil))) (fxs_nil))))) (fss_cons (fs_for (passes_of rfl) rfl (fi_range1 rfl Y.m_range (fa_cons (fe_var (pv 1)) (fa_nil))) (fg_name S.nd rfl (by first | exact Or.inl rfl | exact Or.inr rfl)) (fss_cons (fs_setO S.nd rfl (by first | exact Or.inl rfl | exact Or.inr rfl) (fo_lst (fa_nil))) (fss_cons (fs_for (passes_of rfl) rfl (fi_range1 rfl Y.m_range (fa_cons (fe_op op_add od_I0 (fe_int) (fe_call (ok__law_take Y) (hr.mono (by decide)) rfl Y.g__law_take Y.F__law_take.kp (Y.F__law_take.bindsN fun _ _ _ _ _ _ us hl => match us, hl with | [_, _], _ => rfl) (fa_cons (fe_var (pv 0)) (fa_cons (fe_int) (fa_nil))))) (fa_nil))) (fg_name S.nd rfl (by first | exact Or.inl rfl | exact Or.inr rfl)) (fss_cons ((by first | exact fs_setLc (own := [("spot", 7)]) rfl S.nd rfl rfl (fi_range1 rfl Y.m_range (fa_cons (fe_var (pv 1)) (fa_nil))) (blkOk_by (by rfl)) (fun _ _ _ _ _ => fg_name S.nd rfl (by first | exact Or.inl rfl | exact Or.inr rfl)) (fun _ _ _ _ _ => fts_nil) (fun _ _ _ _ _ => fe_call (ok__law_pick Y) (hr.mono (by decide)) rfl Y.g__law_pick Y.F__law_pick.kp (Y.F__law_pick.bindsN fun _ _ _ _ _ _ us hl => match us, hl with | [_, _], _ => rfl) (fa_cons (fe_var (pv 0)) (fa_cons (FO.fe (fo_lst (fa_cons (fe_int) (fa_cons (fe_int) (fa_cons (fe_int) (fa_cons (fe_int) (fa_cons (fe_int) (fa_nil)))))))) (fa_nil)))) (by decide) | exact fs_set S.nd rfl (by first | exact Or.inl rfl | exact Or.inr rfl) (FO.fe (fo_lc (own := [("spot", 7)]) rfl S.nd (fi_range1 rfl Y.m_range (fa_cons (fe_var (pv 1)) (fa_nil))) (blkOk_by (by rfl)) (fun _ _ _ _ _ => fg_name S.nd rfl (by first | exact Or.inl rfl | exact Or.inr rfl)) (fun _ _ _ _ _ => fts_nil) (fun _ _ _ _ _ => fe_call (ok__law_pick Y) (hr.mono (by decide)) rfl Y.g__law_pick Y.F__law_pick.kp (Y.F__law_pick.bindsN fun _ _ _ _ _ _ us hl => match us, hl with | [_, _], _ => rfl) (fa_cons (fe_var (pv 0)) (fa_cons (FO.fe (fo_lst (fa_cons (fe_int) (fa_cons (fe_int) (fa_cons (fe_int) (fa_cons (fe_int) (fa_cons (fe_int) (fa_nil)))))))) (fa_nil)))) (by decide))))) (fss_one (fs_app (pv 4) (fe_tup (fa_cons (fe_op op_add od_I0 (fe_op op_add od_I0 (fe_callB (cr_sumB rfl) cd_sumB rfl Y.m_sum (by decide +kernel) (fa_cons (fe_var (pv 6)) (fa_nil))) (fe_int)) (fe_call (ok__law_take Y) (hr.mono (by decide)) rfl Y.g__law_take Y.F__law_take.kp (Y.F__law_take.bindsN fun _ _ _ _ _ _ us hl => match us, hl with | [_, _], _ => rfl) (fa_cons (fe_var (pv 0)) (fa_cons (fe_int) (fa_nil))))) (fa_cons (fe_callTy call_tuple_of cd_tuple rfl Y.m_tuple (by decide +kernel) (fa_cons (fe_var (pv 6)) (fa_nil))) (fa_nil)))))))) (fss_frz 4 (fss_one (fs_app (pv 2) (fe_var (pv 4)))))))) (fss_one (fs_ret (fe_var (pv 2)))))
theorem sc__law_slow_moves : FnScope ["moves", "stays", "many", "place", "move"] ["moves", "stays"] (defScope (top 93)) := ⟨rfl, rfl, rfl, by decide +kernel, rfl, by decide +kernel, by decide +kernel⟩
theorem ok__law_slow_moves : FnOk P w K mg base CX0 2 Y.f__law_slow_moves Y.d__law_slow_moves ["moves", "stays"] (spF Y.T 2 p__law_slow_moves) := by
  refine fnF Y.F__law_slow_moves sc__law_slow_moves (by simp) rfl rfl fun dr cdv A outer s H E hr => ?_
  have S := sc__law_slow_moves
  exact fss_cons (fs_set S.nd rfl (by first | exact Or.inl rfl | exact Or.inr rfl) (fe_callB call_len_seq cd_len rfl Y.m_len (by decide +kernel) (fa_cons (fe_var (pv 0)) (fa_nil)))) (fss_one (fs_ret (FO.fe (fo_lc (own := [("place", 3)]) rfl S.nd (fi_range1 rfl Y.m_range (fa_cons (fe_var (pv 2)) (fa_nil))) (blkOk_by (by rfl)) (fun _ _ _ _ _ => fg_name S.nd rfl (by first | exact Or.inl rfl | exact Or.inr rfl)) (fun _ _ _ _ _ => fts_nil) (fun _ _ _ _ _ => FO.fe (fo_lc (own := [("move", 4)]) rfl S.nd (fi_seq (fe_ix (fe_var (pv 0)) (fe_var (pv 3)))) (blkOk_by (by rfl)) (fun _ _ _ _ _ => fg_name S.nd rfl (by first | exact Or.inl rfl | exact Or.inr rfl)) (fun _ _ _ _ _ => fts_nil) (fun _ _ _ _ _ => fe_ix (fe_call (ok__law_slow Y) (hr.mono (by decide)) rfl Y.g__law_slow Y.F__law_slow.kp (Y.F__law_slow.bindsN fun _ _ _ _ _ _ us hl => match us, hl with | [_, _], _ => rfl) (fa_cons (FO.fe (fo_rep (FO.fe (fo_lst (fa_cons (fe_var (pv 4)) (fa_nil)))) (fe_var (pv 2)))) (fa_cons (FO.fe (fo_rep (FO.fe (fo_lst (fa_cons (fe_ix (fe_var (pv 1)) (fe_var (pv 3))) (fa_nil)))) (fe_var (pv 2)))) (fa_nil)))) (fe_var (pv 3))) (by decide))) (by decide)))))
theorem sc__law_gain : FnScope ["draw", "moves", "some", "move"] ["draw", "moves"] (defScope (top 94)) := ⟨rfl, rfl, rfl, by decide +kernel, rfl, by decide +kernel, by decide +kernel⟩
theorem ok__law_gain : FnOk P w K mg base CX0 4 Y.f__law_gain Y.d__law_gain ["draw", "moves"] (spF Y.T 2 p__law_gain) := by
  refine fnF Y.F__law_gain sc__law_gain (by simp) rfl rfl fun dr cdv A outer s H E hr => ?_
  have S := sc__law_gain
  exact fss_one (fs_ret (fe_callTy call_tuple_of cd_tuple rfl Y.m_tuple (by decide +kernel) (fa_cons (FO.fe (fo_lc (own := [("some", 2)]) rfl S.nd (fi_seq (fe_var (pv 1))) (blkOk_by (by rfl)) (fun _ _ _ _ _ => fg_name S.nd rfl (by first | exact Or.inl rfl | exact Or.inr rfl)) (fun _ _ _ _ _ => fts_nil) (fun _ _ _ _ _ => fe_callTy call_tuple_of cd_tuple rfl Y.m_tuple (by decide +kernel) (fa_cons (FO.fe (fo_lc (own := [("move", 3)]) rfl S.nd (fi_seq (fe_var (pv 2))) (blkOk_by (by rfl)) (fun _ _ _ _ _ => fg_name S.nd rfl (by first | exact Or.inl rfl | exact Or.inr rfl)) (fun _ _ _ _ _ => fts_nil) (fun _ _ _ _ _ => fe_call (ok__law_ratio Y) (hr.mono (by decide)) rfl Y.g__law_ratio Y.F__law_ratio.kp (Y.F__law_ratio.bindsN fun _ _ _ _ _ _ us hl => match us, hl with | [_, _], _ => rfl) (fa_cons (fe_op op_sub od_I0 (fe_call (ok__law_take Y) (hr.mono (by decide)) rfl Y.g__law_take Y.F__law_take.kp (Y.F__law_take.bindsN fun _ _ _ _ _ _ us hl => match us, hl with | [_, _], _ => rfl) (fa_cons (fe_var (pv 0)) (fa_cons (fe_int) (fa_nil)))) (fe_int)) (fa_cons (fe_call (ok__law_pick Y) (hr.mono (by decide)) rfl Y.g__law_pick Y.F__law_pick.kp (Y.F__law_pick.bindsN fun _ _ _ _ _ _ us hl => match us, hl with | [_, _], _ => rfl) (fa_cons (fe_var (pv 0)) (fa_cons (FO.fe (fo_lst (fa_cons (fe_int) (fa_cons (fe_int) (fa_cons (fe_int) (fa_nil)))))) (fa_nil)))) (fa_nil)))) (by decide))) (fa_nil))) (by decide))) (fa_nil))))
theorem sc__law_right : FnScope ["draw", "moves", "many", "stays", "gains", "house", "late", "less", "told", "share", "plan", "flow", "due", "factor", "many_times", "twice", "more", "row", "some", "gain", "one"] ["draw"] (defScope (top 95)) := ⟨rfl, rfl, rfl, by decide +kernel, rfl, by decide +kernel, by decide +kernel⟩
theorem ok__law_right : FnOk P w K mg base CX0 10 Y.f__law_right Y.d__law_right ["draw"] (spF Y.T 1 p__law_right) := by
  refine fnF Y.F__law_right sc__law_right (by simp) rfl rfl fun dr cdv A outer s H E hr => ?_
  have S := sc__law_right
  exact fss_cons (fs_set S.nd rfl (by first | exact Or.inl rfl | exact Or.inr rfl) (fe_call (ok__law_house Y) (hr.mono (by decide)) rfl Y.g__law_house Y.F__law_house.kp (Y.F__law_house.bindsN fun _ _ _ _ _ _ us hl => match us, hl with | [_], _ => rfl) (fa_cons (fe_var (pv 0)) (fa_nil)))) (fss_cons (fs_set S.nd rfl (by first | exact Or.inl rfl | exact Or.inr rfl) (fe_callB call_len_seq cd_len rfl Y.m_len (by decide +kernel) (fa_cons (fe_var (pv 1)) (fa_nil)))) (fss_cons ((by first | exact fs_par2 rfl S.nd rfl rfl (by decide) rfl rfl (fxs_cons (fx_P (fe_call (ok__law_stays Y) (hr.mono (by decide)) rfl Y.g__law_stays Y.F__law_stays.kp (Y.F__law_stays.bindsN fun _ _ _ _ _ _ us hl => match us, hl with | [_, _], _ => rfl) (fa_cons (fe_var (pv 0)) (fa_cons (fe_var (pv 2)) (fa_nil))))) (fxs_cons (fx_P (fe_call (ok__law_gain Y) (hr.mono (by decide)) rfl Y.g__law_gain Y.F__law_gain.kp (Y.F__law_gain.bindsN fun _ _ _ _ _ _ us hl => match us, hl with | [_, _], _ => rfl) (fa_cons (fe_var (pv 0)) (fa_cons (fe_var (pv 1)) (fa_nil))))) (fxs_nil))) | exact fs_parT rfl rfl (fns_cons S.nd rfl (by first | exact Or.inl rfl | exact Or.inr rfl) (fns_cons S.nd rfl (by first | exact Or.inl rfl | exact Or.inr rfl) (fns_nil))) (fxs_cons (fx_P (fe_call (ok__law_stays Y) (hr.mono (by decide)) rfl Y.g__law_stays Y.F__law_stays.kp (Y.F__law_stays.bindsN fun _ _ _ _ _ _ us hl => match us, hl with | [_, _], _ => rfl) (fa_cons (fe_var (pv 0)) (fa_cons (fe_var (pv 2)) (fa_nil))))) (fxs_cons (fx_P (fe_call (ok__law_gain Y) (hr.mono (by decide)) rfl Y.g__law_gain Y.F__law_gain.kp (Y.F__law_gain.bindsN fun _ _ _ _ _ _ us hl => match us, hl with | [_, _], _ => rfl) (fa_cons (fe_var (pv 0)) (fa_cons (fe_var (pv 1)) (fa_nil))))) (fxs_nil))))) (fss_cons ((by first | exact fs_par2 rfl S.nd rfl rfl (by decide) rfl rfl (fxs_cons (fx_P (fe_make rfl Y.M_House (ok_House_init_ Y) (hr.mono (by decide)) rfl Y.g_House (Y.F_House_init_.bindsN fun _ _ _ _ _ _ us hl => match us, hl with | [_, _], _ => rfl) (fa_cons (fe_var (pv 1)) (fa_nil)))) (fxs_cons (fx_P (fe_make rfl Y.M_House (ok_House_init_ Y) (hr.mono (by decide)) rfl Y.g_House (Y.F_House_init_.bindsN fun _ _ _ _ _ _ us hl => match us, hl with | [_, _], _ => rfl) (fa_cons (fe_call (ok__law_slow_moves Y) (hr.mono (by decide)) rfl Y.g__law_slow_moves Y.F__law_slow_moves.kp (Y.F__law_slow_moves.bindsN fun _ _ _ _ _ _ us hl => match us, hl with | [_, _], _ => rfl) (fa_cons (fe_var (pv 1)) (fa_cons (fe_var (pv 3)) (fa_nil)))) (fa_nil)))) (fxs_nil))) | exact fs_parT rfl rfl (fns_cons S.nd rfl (by first | exact Or.inl rfl | exact Or.inr rfl) (fns_cons S.nd rfl (by first | exact Or.inl rfl | exact Or.inr rfl) (fns_nil))) (fxs_cons (fx_P (fe_make rfl Y.M_House (ok_House_init_ Y) (hr.mono (by decide)) rfl Y.g_House (Y.F_House_init_.bindsN fun _ _ _ _ _ _ us hl => match us, hl with | [_, _], _ => rfl) (fa_cons (fe_var (pv 1)) (fa_nil)))) (fxs_cons (fx_P (fe_make rfl Y.M_House (ok_House_init_ Y) (hr.mono (by decide)) rfl Y.g_House (Y.F_House_init_.bindsN fun _ _ _ _ _ _ us hl => match us, hl with | [_, _], _ => rfl) (fa_cons (fe_call (ok__law_slow_moves Y) (hr.mono (by decide)) rfl Y.g__law_slow_moves Y.F__law_slow_moves.kp (Y.F__law_slow_moves.bindsN fun _ _ _ _ _ _ us hl => match us, hl with | [_, _], _ => rfl) (fa_cons (fe_var (pv 1)) (fa_cons (fe_var (pv 3)) (fa_nil)))) (fa_nil)))) (fxs_nil))))) (fss_cons (fs_set S.nd rfl (by first | exact Or.inl rfl | exact Or.inr rfl) (fe_callTy call_tuple_of cd_tuple rfl Y.m_tuple (by decide +kernel) (fa_cons (FO.fe (fo_lc (own := [("row", 17), ("factor", 13)]) rfl S.nd (fi_zip2 rfl Y.m_zip (fa_cons (fe_var (pv 4)) (fa_cons (fe_call (ok__law_shorter Y) (hr.mono (by decide)) rfl Y.g__law_shorter Y.F__law_shorter.kp (Y.F__law_shorter.bindsN fun _ _ _ _ _ _ us hl => match us, hl with | [_], _ => rfl) (fa_cons (fe_var (pv 3)) (fa_nil))) (fa_nil)))) (blkOk_by (by rfl)) (fun _ _ _ _ _ => fg_tup rfl (fgs_cons (fg_name S.nd rfl (by first | exact Or.inl rfl | exact Or.inr rfl)) (fgs_cons (fg_name S.nd rfl (by first | exact Or.inl rfl | exact Or.inr rfl)) (fgs_nil)))) (fun _ _ _ _ _ => fts_nil) (fun _ _ _ _ _ => fe_callTy call_tuple_of cd_tuple rfl Y.m_tuple (by decide +kernel) (fa_cons (FO.fe (fo_lc (own := [("gain", 19)]) rfl S.nd (fi_seq (fe_var (pv 17))) (blkOk_by (by rfl)) (fun _ _ _ _ _ => fg_name S.nd rfl (by first | exact Or.inl rfl | exact Or.inr rfl)) (fun _ _ _ _ _ => fts_nil) (fun _ _ _ _ _ => fe_call (ok__law_times Y) (hr.mono (by decide)) rfl Y.g__law_times Y.F__law_times.kp (Y.F__law_times.bindsN fun _ _ _ _ _ _ us hl => match us, hl with | [_, _], _ => rfl) (fa_cons (fe_var (pv 19)) (fa_cons (fe_var (pv 13)) (fa_nil)))) (by decide))) (fa_nil))) (by decide))) (fa_nil)))) (fss_cons (fs_set S.nd rfl (by first | exact Or.inl rfl | exact Or.inr rfl) (FO.fe (fo_lst (fa_cons (fe_call (ok_most Y) (hr.mono (by decide)) rfl Y.g_most Y.F_most.kp (Y.F_most.bindsN fun _ _ _ _ _ _ us hl => match us, hl with | [_, _], _ => rfl) (fa_cons (fe_var (pv 5)) (fa_cons (fe_var (pv 4)) (fa_nil)))) (fa_cons (fe_call (ok_best_plan Y) (hr.mono (by decide)) rfl Y.g_best_plan Y.F_best_plan.kp (Y.F_best_plan.bindsN fun _ _ _ _ _ _ us hl => match us, hl with | [_, _], _ => rfl) (fa_cons (fe_var (pv 5)) (fa_cons (fe_var (pv 4)) (fa_nil)))) (fa_nil)))))) (fss_cons (fs_if (FW.ft (fw_or (ft_cmp (op_neD hr.units) od_ne (FO.fe (fo_lst (fa_cons (fe_call (ok_most Y) (hr.mono (by decide)) rfl Y.g_most Y.F_most.kp (Y.F_most.bindsN fun _ _ _ _ _ _ us hl => match us, hl with | [_, _], _ => rfl) (fa_cons (fe_var (pv 6)) (fa_cons (fe_var (pv 7)) (fa_nil)))) (fa_cons (fe_call (ok_best_plan Y) (hr.mono (by decide)) rfl Y.g_best_plan Y.F_best_plan.kp (Y.F_best_plan.bindsN fun _ _ _ _ _ _ us hl => match us, hl with | [_, _], _ => rfl) (fa_cons (fe_var (pv 6)) (fa_cons (fe_var (pv 7)) (fa_nil)))) (fa_nil))))) (fe_var (pv 8))) (fw_or1 (ft_cmp op_notBl od_notB (fe_call (ok_is_most_paper Y) (hr.mono (by decide)) rfl Y.g_is_most_paper Y.F_is_most_paper.kp (Y.F_is_most_paper.bindsN fun _ _ _ _ _ _ us hl => match us, hl with | [_, _, _], _ => rfl) (fa_cons (fe_var (pv 6)) (fa_cons (fe_var (pv 7)) (fa_cons (fe_tup (fa_cons (fe_ix (fe_var (pv 8)) (fe_int)) (fa_cons (fe_ix (fe_var (pv 8)) (fe_int)) (fa_nil)))) (fa_nil))))) (fe_bl))))) (fss_one (fs_ret (fe_bl))) (fss_nil)) (fss_cons ((by first | exact fs_par2 rfl S.nd rfl rfl (by decide) rfl rfl (fxs_cons (fx_P (fe_call (ok__law_some_share Y) (hr.mono (by decide)) rfl Y.g__law_some_share Y.F__law_some_share.kp (Y.F__law_some_share.bindsN fun _ _ _ _ _ _ us hl => match us, hl with | [_, _], _ => rfl) (fa_cons (fe_var (pv 0)) (fa_cons (fe_var (pv 2)) (fa_nil))))) (fxs_cons (fx_P (fe_callTy call_tuple_of cd_tuple rfl Y.m_tuple (by decide +kernel) (fa_cons (FO.fe (fo_lc (own := [("some", 18)]) rfl S.nd (fi_seq (fe_var (pv 1))) (blkOk_by (by rfl)) (fun _ _ _ _ _ => fg_name S.nd rfl (by first | exact Or.inl rfl | exact Or.inr rfl)) (fun _ _ _ _ _ => fts_nil) (fun _ _ _ _ _ => fe_call (ok__law_take Y) (hr.mono (by decide)) rfl Y.g__law_take Y.F__law_take.kp (Y.F__law_take.bindsN fun _ _ _ _ _ _ us hl => match us, hl with | [_, _], _ => rfl) (fa_cons (fe_var (pv 0)) (fa_cons (fe_callB call_len_seq cd_len rfl Y.m_len (by decide +kernel) (fa_cons (fe_var (pv 18)) (fa_nil))) (fa_nil)))) (by decide))) (fa_nil)))) (fxs_nil))) | exact fs_parT rfl rfl (fns_cons S.nd rfl (by first | exact Or.inl rfl | exact Or.inr rfl) (fns_cons S.nd rfl (by first | exact Or.inl rfl | exact Or.inr rfl) (fns_nil))) (fxs_cons (fx_P (fe_call (ok__law_some_share Y) (hr.mono (by decide)) rfl Y.g__law_some_share Y.F__law_some_share.kp (Y.F__law_some_share.bindsN fun _ _ _ _ _ _ us hl => match us, hl with | [_, _], _ => rfl) (fa_cons (fe_var (pv 0)) (fa_cons (fe_var (pv 2)) (fa_nil))))) (fxs_cons (fx_P (fe_callTy call_tuple_of cd_tuple rfl Y.m_tuple (by decide +kernel) (fa_cons (FO.fe (fo_lc (own := [("some", 18)]) rfl S.nd (fi_seq (fe_var (pv 1))) (blkOk_by (by rfl)) (fun _ _ _ _ _ => fg_name S.nd rfl (by first | exact Or.inl rfl | exact Or.inr rfl)) (fun _ _ _ _ _ => fts_nil) (fun _ _ _ _ _ => fe_call (ok__law_take Y) (hr.mono (by decide)) rfl Y.g__law_take Y.F__law_take.kp (Y.F__law_take.bindsN fun _ _ _ _ _ _ us hl => match us, hl with | [_, _], _ => rfl) (fa_cons (fe_var (pv 0)) (fa_cons (fe_callB call_len_seq cd_len rfl Y.m_len (by decide +kernel) (fa_cons (fe_var (pv 18)) (fa_nil))) (fa_nil)))) (by decide))) (fa_nil)))) (fxs_nil))))) (fss_cons (fs_if (ft_cmp (op_neC (G := ⟨Y.T, dr⟩) (c := 0) Y.q_Walk (Y.F_Walk_eq_.bindsN fun _ _ _ _ _ _ us hl => match us, hl with | [_, _], _ => rfl) (ok_Walk_eq_ Y) (hr.mono (by decide))) od_neC (fe_call (ok_walk_of Y) (hr.mono (by decide)) rfl Y.g_walk_of Y.F_walk_of.kp (Y.F_walk_of.bindsN fun _ _ _ _ _ _ us hl => match us, hl with | [_, _], _ => rfl) (fa_cons (fe_var (pv 6)) (fa_cons (fe_var (pv 10)) (fa_nil)))) (fe_make rfl Y.M_Walk (ok_Walk_init_ Y) (hr.mono (by decide)) rfl Y.g_Walk (Y.F_Walk_init_.bindsN fun _ _ _ _ _ _ us hl => match us, hl with | [_, _], _ => rfl) (fa_cons (fe_call (ok__law_slow Y) (hr.mono (by decide)) rfl Y.g__law_slow Y.F__law_slow.kp (Y.F__law_slow.bindsN fun _ _ _ _ _ _ us hl => match us, hl with | [_, _], _ => rfl) (fa_cons (fe_call (ok__law_rows_of Y) (hr.mono (by decide)) rfl Y.g__law_rows_of Y.F__law_rows_of.kp (Y.F__law_rows_of.bindsN fun _ _ _ _ _ _ us hl => match us, hl with | [_], _ => rfl) (fa_cons (fe_call (ok_walk_of Y) (hr.mono (by decide)) rfl Y.g_walk_of Y.F_walk_of.kp (Y.F_walk_of.bindsN fun _ _ _ _ _ _ us hl => match us, hl with | [_, _], _ => rfl) (fa_cons (fe_var (pv 5)) (fa_cons (fe_var (pv 10)) (fa_nil)))) (fa_nil))) (fa_cons (fe_var (pv 3)) (fa_nil)))) (fa_nil)))) (fss_one (fs_ret (fe_bl))) (fss_nil)) (fss_cons (fs_set S.nd rfl (by first | exact Or.inl rfl | exact Or.inr rfl) (fe_call (ok_flow_of Y) (hr.mono (by decide)) rfl Y.g_flow_of Y.F_flow_of.kp (Y.F_flow_of.bindsN fun _ _ _ _ _ _ us hl => match us, hl with | [_, _, _], _ => rfl) (fa_cons (fe_var (pv 5)) (fa_cons (fe_var (pv 9)) (fa_cons (fe_var (pv 10)) (fa_nil)))))) (fss_cons (fs_set S.nd rfl (by first | exact Or.inl rfl | exact Or.inr rfl) (fe_callTy call_tuple_of cd_tuple rfl Y.m_tuple (by decide +kernel) (fa_cons (FO.fe (fo_lc (own := [("row", 17), ("factor", 13)]) rfl S.nd (fi_zip2 rfl Y.m_zip (fa_cons (fe_var (pv 11)) (fa_cons (fe_call (ok__law_longer Y) (hr.mono (by decide)) rfl Y.g__law_longer Y.F__law_longer.kp (Y.F__law_longer.bindsN fun _ _ _ _ _ _ us hl => match us, hl with | [_], _ => rfl) (fa_cons (fe_var (pv 3)) (fa_nil))) (fa_nil)))) (blkOk_by (by rfl)) (fun _ _ _ _ _ => fg_tup rfl (fgs_cons (fg_name S.nd rfl (by first | exact Or.inl rfl | exact Or.inr rfl)) (fgs_cons (fg_name S.nd rfl (by first | exact Or.inl rfl | exact Or.inr rfl)) (fgs_nil)))) (fun _ _ _ _ _ => fts_nil) (fun _ _ _ _ _ => fe_callTy call_tuple_of cd_tuple rfl Y.m_tuple (by decide +kernel) (fa_cons (FO.fe (fo_lc (own := [("one", 20)]) rfl S.nd (fi_seq (fe_var (pv 17))) (blkOk_by (by rfl)) (fun _ _ _ _ _ => fg_name S.nd rfl (by first | exact Or.inl rfl | exact Or.inr rfl)) (fun _ _ _ _ _ => fts_nil) (fun _ _ _ _ _ => fe_call (ok__law_times Y) (hr.mono (by decide)) rfl Y.g__law_times Y.F__law_times.kp (Y.F__law_times.bindsN fun _ _ _ _ _ _ us hl => match us, hl with | [_, _], _ => rfl) (fa_cons (fe_var (pv 20)) (fa_cons (fe_var (pv 13)) (fa_nil)))) (by decide))) (fa_nil))) (by decide))) (fa_nil)))) (fss_cons (fs_if (FW.ft (fw_or (ft_cmp (op_neD hr.units) od_ne (fe_call (ok_flow_of Y) (hr.mono (by decide)) rfl Y.g_flow_of Y.F_flow_of.kp (Y.F_flow_of.bindsN fun _ _ _ _ _ _ us hl => match us, hl with | [_, _, _], _ => rfl) (fa_cons (fe_var (pv 6)) (fa_cons (fe_var (pv 9)) (fa_cons (fe_var (pv 10)) (fa_nil))))) (fe_var (pv 12))) (fw_or1 (ft_cmp op_notBl od_notB (fe_call (ok_is_flow Y) (hr.mono (by decide)) rfl Y.g_is_flow Y.F_is_flow.kp (Y.F_is_flow.bindsN fun _ _ _ _ _ _ us hl => match us, hl with | [_, _, _], _ => rfl) (fa_cons (fe_var (pv 6)) (fa_cons (fe_var (pv 9)) (fa_cons (fe_var (pv 12)) (fa_nil))))) (fe_bl))))) (fss_one (fs_ret (fe_bl))) (fss_nil)) (fss_cons (fs_set S.nd rfl (by first | exact Or.inl rfl | exact Or.inr rfl) (fe_call (ok__law_pick Y) (hr.mono (by decide)) rfl Y.g__law_pick Y.F__law_pick.kp (Y.F__law_pick.bindsN fun _ _ _ _ _ _ us hl => match us, hl with | [_, _], _ => rfl) (fa_cons (fe_var (pv 0)) (fa_cons (FO.fe (fo_lst (fa_cons (fe_tup (fa_cons (fe_int) (fa_cons (fe_int) (fa_nil)))) (fa_cons (fe_tup (fa_cons (fe_int) (fa_cons (fe_int) (fa_nil)))) (fa_cons (fe_tup (fa_cons (fe_int) (fa_cons (fe_int) (fa_nil)))) (fa_nil)))))) (fa_nil))))) (fss_cons (fs_set S.nd rfl (by first | exact Or.inl rfl | exact Or.inr rfl) (fe_callTy call_tuple_of cd_tuple rfl Y.m_tuple (by decide +kernel) (fa_cons (FO.fe (fo_lc (own := [("row", 17)]) rfl S.nd (fi_seq (fe_var (pv 4))) (blkOk_by (by rfl)) (fun _ _ _ _ _ => fg_name S.nd rfl (by first | exact Or.inl rfl | exact Or.inr rfl)) (fun _ _ _ _ _ => fts_nil) (fun _ _ _ _ _ => fe_callTy call_tuple_of cd_tuple rfl Y.m_tuple (by decide +kernel) (fa_cons (FO.fe (fo_lc (own := [("gain", 19)]) rfl S.nd (fi_seq (fe_var (pv 17))) (blkOk_by (by rfl)) (fun _ _ _ _ _ => fg_name S.nd rfl (by first | exact Or.inl rfl | exact Or.inr rfl)) (fun _ _ _ _ _ => fts_nil) (fun _ _ _ _ _ => fe_call (ok__law_times Y) (hr.mono (by decide)) rfl Y.g__law_times Y.F__law_times.kp (Y.F__law_times.bindsN fun _ _ _ _ _ _ us hl => match us, hl with | [_, _], _ => rfl) (fa_cons (fe_var (pv 19)) (fa_cons (fe_var (pv 13)) (fa_nil)))) (by decide))) (fa_nil))) (by decide))) (fa_nil)))) (fss_cons (fs_if (FW.ft (fw_or (ft_cmp (op_neD hr.units) od_ne (fe_call (ok_most Y) (hr.mono (by decide)) rfl Y.g_most Y.F_most.kp (Y.F_most.bindsN fun _ _ _ _ _ _ us hl => match us, hl with | [_, _], _ => rfl) (fa_cons (fe_var (pv 5)) (fa_cons (fe_var (pv 14)) (fa_nil)))) (fe_callTy call_tuple_of cd_tuple rfl Y.m_tuple (by decide +kernel) (fa_cons (FO.fe (fo_lc (own := [("one", 20)]) rfl S.nd (fi_seq (fe_ix (fe_var (pv 8)) (fe_int))) (blkOk_by (by rfl)) (fun _ _ _ _ _ => fg_name S.nd rfl (by first | exact Or.inl rfl | exact Or.inr rfl)) (fun _ _ _ _ _ => fts_nil) (fun _ _ _ _ _ => fe_call (ok__law_times Y) (hr.mono (by decide)) rfl Y.g__law_times Y.F__law_times.kp (Y.F__law_times.bindsN fun _ _ _ _ _ _ us hl => match us, hl with | [_, _], _ => rfl) (fa_cons (fe_var (pv 20)) (fa_cons (fe_var (pv 13)) (fa_nil)))) (by decide))) (fa_nil)))) (fw_or1 (ft_cmp (op_neD hr.units) od_ne (fe_call (ok_best_plan Y) (hr.mono (by decide)) rfl Y.g_best_plan Y.F_best_plan.kp (Y.F_best_plan.bindsN fun _ _ _ _ _ _ us hl => match us, hl with | [_, _], _ => rfl) (fa_cons (fe_var (pv 5)) (fa_cons (fe_var (pv 14)) (fa_nil)))) (fe_ix (fe_var (pv 8)) (fe_int)))))) (fss_one (fs_ret (fe_bl))) (fss_nil)) (fss_cons (fs_set S.nd rfl (by first | exact Or.inl rfl | exact Or.inr rfl) (fe_make rfl Y.M_House (ok_House_init_ Y) (hr.mono (by decide)) rfl Y.g_House (Y.F_House_init_.bindsN fun _ _ _ _ _ _ us hl => match us, hl with | [_, _], _ => rfl) (fa_cons (FO.fe (fo_lc (own := [("some", 18)]) rfl S.nd (fi_seq (fe_var (pv 1))) (blkOk_by (by rfl)) (fun _ _ _ _ _ => fg_name S.nd rfl (by first | exact Or.inl rfl | exact Or.inr rfl)) (fun _ _ _ _ _ => fts_nil) (fun _ _ _ _ _ => fe_if (ft_cmp op_lt od_B0 (fe_callB call_len_seq cd_len rfl Y.m_len (by decide +kernel) (fa_cons (fe_var (pv 18)) (fa_nil))) (fe_int)) (FO.fe (fo_cat (fe_var (pv 18)) (FO.fe (fo_slice (fe_var (pv 18)) (fp_none) (fp_some (fe_int)))))) (fe_var (pv 18))) (by decide))) (fa_nil)))) (fss_cons (fs_set S.nd rfl (by first | exact Or.inl rfl | exact Or.inr rfl) (fe_callTy call_tuple_of cd_tuple rfl Y.m_tuple (by decide +kernel) (fa_cons (FO.fe (fo_lc (own := [("row", 17)]) rfl S.nd (fi_seq (fe_var (pv 4))) (blkOk_by (by rfl)) (fun _ _ _ _ _ => fg_name S.nd rfl (by first | exact Or.inl rfl | exact Or.inr rfl)) (fun _ _ _ _ _ => fts_nil) (fun _ _ _ _ _ => fe_if (ft_cmp op_lt od_B0 (fe_callB call_len_seq cd_len rfl Y.m_len (by decide +kernel) (fa_cons (fe_var (pv 17)) (fa_nil))) (fe_int)) (fe_op op_catA od_catT (fe_var (pv 17)) (fe_sliceT (fe_var (pv 17)) (fp_none) (fp_some (fe_int)))) (fe_var (pv 17))) (by decide))) (fa_nil)))) (fss_cons (fs_if (FW.ft (fw_or (ft_cmp (op_neD hr.units) od_ne (fe_call (ok_most Y) (hr.mono (by decide)) rfl Y.g_most Y.F_most.kp (Y.F_most.bindsN fun _ _ _ _ _ _ us hl => match us, hl with | [_, _], _ => rfl) (fa_cons (fe_var (pv 15)) (fa_cons (fe_var (pv 16)) (fa_nil)))) (fe_ix (fe_var (pv 8)) (fe_int))) (fw_or1 (ft_cmp (op_neD hr.units) od_ne (fe_call (ok_best_plan Y) (hr.mono (by decide)) rfl Y.g_best_plan Y.F_best_plan.kp (Y.F_best_plan.bindsN fun _ _ _ _ _ _ us hl => match us, hl with | [_, _], _ => rfl) (fa_cons (fe_var (pv 15)) (fa_cons (fe_var (pv 16)) (fa_nil)))) (fe_ix (fe_var (pv 8)) (fe_int)))))) (fss_one (fs_ret (fe_bl))) (fss_nil)) (fss_one (fs_ret (fe_cmp (op_eqD hr.units) od_eq (fe_call (ok__law_total Y) (hr.mono (by decide)) rfl Y.g__law_total Y.F__law_total.kp (Y.F__law_total.bindsN fun _ _ _ _ _ _ us hl => match us, hl with | [_], _ => rfl) (fa_cons (FO.fe (fo_lc (own := [("row", 17), ("gain", 19)]) rfl S.nd (fi_zip2 rfl Y.m_zip (fa_cons (fe_call (ok_flow_of Y) (hr.mono (by decide)) rfl Y.g_flow_of Y.F_flow_of.kp (Y.F_flow_of.bindsN fun _ _ _ _ _ _ us hl => match us, hl with | [_, _, _], _ => rfl) (fa_cons (fe_var (pv 5)) (fa_cons (fe_var (pv 9)) (fa_cons (fe_ix (fe_var (pv 8)) (fe_int)) (fa_nil))))) (fa_cons (fe_var (pv 4)) (fa_nil)))) (blkOk_by (by rfl)) (fun _ _ _ _ _ => fg_tup rfl (fgs_cons (fg_name S.nd rfl (by first | exact Or.inl rfl | exact Or.inr rfl)) (fgs_cons (fg_name S.nd rfl (by first | exact Or.inl rfl | exact Or.inr rfl)) (fgs_nil)))) (fun _ _ _ _ _ => fts_nil) (fun _ _ _ _ _ => fe_call (ok__law_dot Y) (hr.mono (by decide)) rfl Y.g__law_dot Y.F__law_dot.kp (Y.F__law_dot.bindsN fun _ _ _ _ _ _ us hl => match us, hl with | [_, _], _ => rfl) (fa_cons (fe_var (pv 17)) (fa_cons (fe_var (pv 19)) (fa_nil)))) (by decide))) (fa_nil))) (fe_call (ok__law_dot Y) (hr.mono (by decide)) rfl Y.g__law_dot Y.F__law_dot.kp (Y.F__law_dot.bindsN fun _ _ _ _ _ _ us hl => match us, hl with | [_, _], _ => rfl) (fa_cons (fe_call (ok__law_parts Y) (hr.mono (by decide)) rfl Y.g__law_parts Y.F__law_parts.kp (Y.F__law_parts.bindsN fun _ _ _ _ _ _ us hl => match us, hl with | [_], _ => rfl) (fa_cons (fe_var (pv 9)) (fa_nil))) (fa_cons (fe_ix (fe_var (pv 8)) (fe_int)) (fa_nil))))))))))))))))))))))))
theorem sc__law_begun : FnScope ["script", "large", "cell"] ["script"] (defScope (top 74)) := ⟨rfl, rfl, rfl, by decide +kernel, rfl, by decide +kernel, by decide +kernel⟩
theorem ok__law_begun (q : t_begun { nx := begunNx l_begun, rt := fun _ => False } (sh0 [.scr] [none, none])) : FnOk P w K mg base CX0 1 Y.f__law_begun Y.d__law_begun ["script"] (spBegun Y.T) := by
  refine Y.F__law_begun.ok (CX := CX0) sc__law_begun (fun vs H Q E h => ?_) (fun cdv A outer s H vs Q E hr h => ⟨_, ?_, begun_read (N := ["script", "large", "cell"]) (tl := l_begun) (by simp) rfl h q⟩)
  · obtain ⟨_, _, rfl, _⟩ := h
    rfl
  have S := sc__law_begun
  exact pss_cons ((by first | exact fs_setOLc (own := [("cell", 2)]) rfl S.nd rfl rfl (fi_scr rfl (fe_var (pv 0))) (blkOk_by (by rfl)) (fun _ _ _ _ _ => fg_name S.nd rfl (by first | exact Or.inl rfl | exact Or.inr rfl)) (fun _ _ _ _ _ => fts_one (ft_cmp op_ge od_B0 (fe_callB call_abs cd_abs rfl Y.m_abs (by decide +kernel) (fa_cons (fe_var (pv 2)) (fa_nil))) (fe_op op_pow od_I (fe_int) (fe_int)))) (fun _ _ _ _ _ => fe_op op_sub od_I0 (fe_callB call_abs cd_abs rfl Y.m_abs (by decide +kernel) (fa_cons (fe_var (pv 2)) (fa_nil))) (fe_op op_pow od_I (fe_int) (fe_int))) (by decide) | exact fs_setO S.nd rfl (by first | exact Or.inl rfl | exact Or.inr rfl) (fo_lc (own := [("cell", 2)]) rfl S.nd (fi_scr rfl (fe_var (pv 0))) (blkOk_by (by rfl)) (fun _ _ _ _ _ => fg_name S.nd rfl (by first | exact Or.inl rfl | exact Or.inr rfl)) (fun _ _ _ _ _ => fts_one (ft_cmp op_ge od_B0 (fe_callB call_abs cd_abs rfl Y.m_abs (by decide +kernel) (fa_cons (fe_var (pv 2)) (fa_nil))) (fe_op op_pow od_I (fe_int) (fe_int)))) (fun _ _ _ _ _ => fe_op op_sub od_I0 (fe_callB call_abs cd_abs rfl Y.m_abs (by decide +kernel) (fa_cons (fe_var (pv 2)) (fa_nil))) (fe_op op_pow od_I (fe_int) (fe_int))) (by decide)))) (pss_one (ps_ret (pe_disp (pps_cons pe_str (pv 1) (pps_cons pe_str pe_int (pps_cons pe_str (fo_lc (own := [("cell", 2)]) rfl S.nd (fi_scr rfl (fe_var (pv 0))) (blkOk_by (by rfl)) (fun _ _ _ _ _ => fg_name S.nd rfl (by first | exact Or.inl rfl | exact Or.inr rfl)) (fun _ _ _ _ _ => fts_nil) (fun _ _ _ _ _ => fe_callB call_abs cd_abs rfl Y.m_abs (by decide +kernel) (fa_cons (fe_var (pv 2)) (fa_nil))) (by decide)) (pps_cons pe_str pe_int pps_nil)))) (by decide +kernel) (by decide +kernel) (by decide +kernel) (by decide +kernel))))
theorem sc_law : FnScope ["script", "draw", "lap"] ["script"] (defScope (top 96)) := ⟨rfl, rfl, rfl, by decide +kernel, rfl, by decide +kernel, by decide +kernel⟩
theorem ok_law {f : Addr} {fd : FuncData} (F : FnP K "law" "law" (top 96) f fd) (qb : t_begun { nx := begunNx l_begun, rt := fun _ => False } (sh0 [.scr] [none, none])) (q : p_law) : FnOk P w K mg base CX0 11 f fd ["script"] (spLaw Y.T) := by
  refine F.ok (CX := CX0) sc_law (fun vs H Q E h => ?_) (fun cdv A outer s H vs Q E hr h => ⟨tLaw Y.T [none] ["script", "draw", "lap"] t_law, ?_, ?_⟩)
  · obtain ⟨_, _, rfl, _⟩ := h
    rfl
  · have S := sc_law
    exact pss_law rfl (by simp) rfl S.nd rfl (by first | exact Or.inl rfl | exact Or.inr rfl) (pe_call (E := E0) (ok__law_begun Y qb) (hr.mono (by decide)) rfl Y.g__law_begun Y.F__law_begun.kp (Y.F__law_begun.bindsN fun _ _ _ _ _ _ us hl => match us, hl with | [_], _ => rfl) .nil pass0 (pa_cons (pv 0) pa_nil)) fun dr => fss_cons (fs_for (passes_of rfl) rfl (fi_range1 rfl Y.m_range (fa_cons (fe_op op_add od_I0 (fe_int) (fe_callB (call_min2 rfl) cd_min2 rfl Y.m_min (by decide +kernel) (fa_cons (fe_lenS rfl rfl Y.m_len (fe_var (pv 0))) (fa_cons (fe_int) (fa_nil))))) (fa_nil))) (fg_name S.nd rfl (by first | exact Or.inl rfl | exact Or.inr rfl)) (fss_one (fs_if (ft_not (ft_val (fe_call (ok__law_right Y) (hr.mono (by decide)) rfl Y.g__law_right Y.F__law_right.kp (Y.F__law_right.bindsN fun _ _ _ _ _ _ us hl => match us, hl with | [_], _ => rfl) (fa_cons (fe_var (pv 1)) (fa_nil))))) (fss_one (fs_ret (fe_bl))) (fss_nil)))) (fss_one (fs_ret (fe_bl)))
  · obtain ⟨a, ns, rfl, hl, hS, k⟩ := h
    exact ⟨a, ns, rfl, hl, hS, k, q⟩
end
end Wk
end
section
set_option Elab.async false
set_option linter.all false
set_option maxRecDepth 100000
set_option maxHeartbeats 0
/-! the head's facts, by names (printed by mkhead2.py) -/
namespace Wk
open PySem PySem.Spec PyProof.Rows L2 L3
local macro_rules | `(tactic| walk_at "dv") => `(tactic| simp only [q_dDef, q_sh0, List.map_cons, List.map_nil, List.cons_append, List.nil_append, q_dSq, q_dNext, q_dSet, q_dSetF, q_dSetO, q_dRet, q_dRetN, q_dIfS, q_dNever, q_dWhile, q_dFor, q_dPar, q_dAsg, q_dDrop,
  q_dFrz, q_dApp, q_dAppF, q_dPut, q_dPutF, q_dAttrN, q_dAttrFN, q_dFldN,
  List.getElem?_cons_zero, List.getElem?_cons_succ, List.set_cons_zero, List.set_cons_succ, q_setS0, q_setSc, q_setSs0, q_setSsc, q_setD0, q_setDc, q_wipe0, q_wipec,
  shOf_nil, shOf_c, shO_n, shO_s, shO_o, shO_i, alOf_nil, alOf_c, alO_n, alO_s, alO_o, alO_i, dVar_0, dVar_s, q_dC, q_dBin, q_dBinL, q_dTest, q_dChain, q_dNot, q_dNotV, q_dAnd, q_dAndV, q_dOr, q_dOrV, q_dIf, q_dNeg, q_dCall, q_dCallL, q_dCons, q_dNil, q_dStar, q_dLst, q_dTup, q_dLen, q_dxCons, q_dxNil, q_dxP, q_dxO, q_dYes,
  asInt_int, asBl_bl, asSeq_l, asSeq_t, asLst_l, asTup_t, asObj_o, arg1_, arg2_, arg3_, q_gDef, q_gMake, q_gI0, q_gI, gEq_int, gNe_int, q_gLen, q_gAbs, q_gMax2, q_gMin2, q_gInt_i, q_gInt_b, q_gTuple, q_gList, gIx_0, gIx_1, gIx_0l, gIx_1l, q_gCatL, q_gRepL, q_gCatT, q_gRepT, isi_, isi_int_int, isi_bool_int, isi_tup_tup, isiT_, isiT_lst, isiT_tup, isC_, isCK_o, q_dSeqI, q_dEnumI, q_dZip2, q_dZip3, q_dRng1, q_dRng2, q_dLc, q_gIsB, q_gNotB, q_dSlL, q_dSlT, q_dNoP, q_dSoP,
  List.length_cons, List.length_nil, true_and, and_true, Bool.not_true, Bool.not_false, if_true, Bool.false_eq_true, if_false])
local macro_rules | `(tactic| walk_at "dh") => `(tactic| ((try simp only [fM_eq, fN_eq]); repeat (first | walk_at "dv" | simp only [q_dMv, q_dNv, fMoves_h, fMany_h, isCK_h, asSeq_rT])))
local macro_rules | `(tactic| walk_at "dd") => `(tactic| repeat (first | walk_at "dv" | simp only [q_dDrN, q_dDrC, q_dPop, q_dDput, q_dScrI, q_dLenS]))
local macro_rules | `(tactic| walk_at "dw") => `(tactic| ((try simp only [fM_eq, fN_eq, fR_eq]); repeat (first | walk_at "dv" | simp only [q_dMv, q_dNv, fMoves_h, fMany_h, isCK_h, asSeq_rT, q_dRw, fRows_w, isCK_w])))
local macro_rules | `(tactic| walk_at "dz") => `(tactic| ((try simp only [fM_eq, fN_eq, fR_eq]); repeat (first | walk_at "dv" | simp only [q_dMv, q_dNv, fMoves_h, fMany_h, isCK_h, asSeq_rT, q_dRw, fRows_w, isCK_w, asSeq_mv, asSeq_rL, asLst_rL, asSeq_pt, objH, objW])))
theorem hwd {K : PySem.W.Frag} {h : Heap} {mg : Str → Option Value} (X : K.In h) (G : h.Ns mainGlobals mg) (c : He.SaysD hfa hfn K) (e : hex K = true) : Nonempty (Wd K mg) := by
  obtain ⟨e0, e1⟩ := He.ba e
  obtain ⟨ea, eb⟩ := He.ba e0
  have ec : ∀ x, x ∈ (["Walk", "House"] : List Str) → exC K x = true := fun x hx => List.all_eq_true.mp e1 x hx
  obtain ⟨u0, v0⟩ := He.ba (ec "Walk" (by simp))
  obtain ⟨w0, y0⟩ := He.ba v0
  obtain ⟨u1, v1⟩ := He.ba (ec "House" (by simp))
  obtain ⟨w1, y1⟩ := He.ba v1
  obtain ⟨d0, F0⟩ := c.def_ 0 (d := dOf "is_number" none "is_number" "is_number" (top 10)) rfl
  obtain ⟨d1, F1⟩ := c.def_ 1 (d := dOf "is_between" none "is_between" "is_between" (top 11)) rfl
  obtain ⟨d2, F2⟩ := c.def_ 2 (d := dOf "is_list" none "is_list" "is_list" (top 12)) rfl
  obtain ⟨d3, F3⟩ := c.def_ 3 (d := dOf "is_row" none "is_row" "is_row" (top 13)) rfl
  obtain ⟨d4, F4⟩ := c.def_ 4 (d := dOf "is_count_row" none "is_count_row" "is_count_row" (top 14)) rfl
  obtain ⟨d5, F5⟩ := c.def_ 5 (d := dOf "divisor_of" none "divisor_of" "divisor_of" (top 15)) rfl
  obtain ⟨d6, F6⟩ := c.def_ 6 (d := dOf "multiple_of" none "multiple_of" "multiple_of" (top 16)) rfl
  obtain ⟨d7, F7⟩ := c.def_ 7 (d := dOf "least_pair" none "least_pair" "least_pair" (top 17)) rfl
  obtain ⟨d8, F8⟩ := c.def_ 8 (d := dOf "plain_row" none "plain_row" "plain_row" (top 18)) rfl
  obtain ⟨d9, F9⟩ := c.def_ 9 (d := dOf "is_index" none "is_index" "is_index" (top 19)) rfl
  obtain ⟨d10, F10⟩ := c.def_ 10 (d := dOf "ratio_of" none "ratio_of" "ratio_of" (top 21)) rfl
  obtain ⟨d11, F11⟩ := c.def_ 11 (d := dOf "is_ratio" none "is_ratio" "is_ratio" (top 22)) rfl
  obtain ⟨d12, F12⟩ := c.def_ 12 (d := dOf "sum_of" none "sum_of" "sum_of" (top 23)) rfl
  obtain ⟨d13, F13⟩ := c.def_ 13 (d := dOf "less_of" none "less_of" "less_of" (top 24)) rfl
  obtain ⟨d14, F14⟩ := c.def_ 14 (d := dOf "product_of" none "product_of" "product_of" (top 25)) rfl
  obtain ⟨d15, F15⟩ := c.def_ 15 (d := dOf "is_below" none "is_below" "is_below" (top 26)) rfl
  obtain ⟨d16, F16⟩ := c.def_ 16 (d := dOf "greatest_of" none "greatest_of" "greatest_of" (top 27)) rfl
  obtain ⟨d17, F17⟩ := c.def_ 17 (d := dOf "total_of" none "total_of" "total_of" (top 28)) rfl
  obtain ⟨d18, F18⟩ := c.def_ 18 (d := dOf "is_pair_of" none "is_pair_of" "is_pair_of" (top 30)) rfl
  obtain ⟨d19, F19⟩ := c.def_ 19 (d := dOf "is_share_of" none "is_share_of" "is_share_of" (top 31)) rfl
  obtain ⟨d20, F20⟩ := c.def_ 20 (d := dOf "need_share" none "need_share" "need_share" (top 32)) rfl
  obtain ⟨d21, F21⟩ := c.def_ 21 (d := dOf "divided" none "divided" "divided" (top 34)) rfl
  obtain ⟨d22, F22⟩ := c.def_ 22 (d := dOf "cleared" none "cleared" "cleared" (top 35)) rfl
  obtain ⟨d23, F23⟩ := c.def_ 23 (d := dOf "stepped_lines" none "stepped_lines" "stepped_lines" (top 36)) rfl
  obtain ⟨d24, F24⟩ := c.def_ 24 (d := dOf "bar_from" none "bar_from" "bar_from" (top 37)) rfl
  obtain ⟨d25, F25⟩ := c.def_ 25 (d := dOf "answer_from" none "answer_from" "answer_from" (top 38)) rfl
  obtain ⟨d26, F26⟩ := c.def_ 26 (d := dOf "answer_of" none "answer_of" "answer_of" (top 39)) rfl
  obtain ⟨d27, F27⟩ := c.def_ 27 (d := dOf "is_chance_row" none "is_chance_row" "is_chance_row" (top 42)) rfl
  obtain ⟨d28, F28⟩ := c.def_ 28 (d := dOf "Walk" (some "__init__") "__init__" "Walk.__init__" (inClass (top 43) 0)) rfl
  obtain ⟨d29, F29⟩ := c.def_ 29 (d := dOf "Walk" (some "__eq__") "__eq__" "Walk.__eq__" (inClass (top 43) 1)) rfl
  obtain ⟨d30, F30⟩ := c.def_ 30 (d := dOf "are_ratios" none "are_ratios" "are_ratios" (top 45)) rfl
  obtain ⟨d31, F31⟩ := c.def_ 31 (d := dOf "mean_by" none "mean_by" "mean_by" (top 46)) rfl
  obtain ⟨d32, F32⟩ := c.def_ 32 (d := dOf "are_moves" none "are_moves" "are_moves" (top 48)) rfl
  obtain ⟨d33, F33⟩ := c.def_ 33 (d := dOf "House" (some "__init__") "__init__" "House.__init__" (inClass (top 49) 0)) rfl
  obtain ⟨d34, F34⟩ := c.def_ 34 (d := dOf "House" (some "__eq__") "__eq__" "House.__eq__" (inClass (top 49) 1)) rfl
  obtain ⟨d35, F35⟩ := c.def_ 35 (d := dOf "need_house" none "need_house" "need_house" (top 50)) rfl
  obtain ⟨d36, F36⟩ := c.def_ 36 (d := dOf "is_plan" none "is_plan" "is_plan" (top 51)) rfl
  obtain ⟨d37, F37⟩ := c.def_ 37 (d := dOf "need_plan" none "need_plan" "need_plan" (top 52)) rfl
  obtain ⟨d38, F38⟩ := c.def_ 38 (d := dOf "rows_of" none "rows_of" "rows_of" (top 53)) rfl
  obtain ⟨d39, F39⟩ := c.def_ 39 (d := dOf "stays_in" none "stays_in" "stays_in" (top 54)) rfl
  obtain ⟨d40, F40⟩ := c.def_ 40 (d := dOf "staying_lot" none "staying_lot" "staying_lot" (top 55)) rfl
  obtain ⟨d41, F41⟩ := c.def_ 41 (d := dOf "need_leaky" none "need_leaky" "need_leaky" (top 56)) rfl
  obtain ⟨d42, F42⟩ := c.def_ 42 (d := dOf "are_parts" none "are_parts" "are_parts" (top 57)) rfl
  obtain ⟨d43, F43⟩ := c.def_ 43 (d := dOf "need_gains" none "need_gains" "need_gains" (top 58)) rfl
  obtain ⟨d44, F44⟩ := c.def_ 44 (d := dOf "gained_by" none "gained_by" "gained_by" (top 59)) rfl
  obtain ⟨d45, F45⟩ := c.def_ 45 (d := dOf "sums_of_moves" none "sums_of_moves" "sums_of_moves" (top 60)) rfl
  obtain ⟨d46, F46⟩ := c.def_ 46 (d := dOf "first_best" none "first_best" "first_best" (top 61)) rfl
  obtain ⟨d47, F47⟩ := c.def_ 47 (d := dOf "gains_of" none "gains_of" "gains_of" (top 62)) rfl
  obtain ⟨d48, F48⟩ := c.def_ 48 (d := dOf "most_of" none "most_of" "most_of" (top 63)) rfl
  obtain ⟨d49, F49⟩ := c.def_ 49 (d := dOf "flow_by" none "flow_by" "flow_by" (top 64)) rfl
  obtain ⟨d50, F50⟩ := c.def_ 50 (d := dOf "begun_by" none "begun_by" "begun_by" (top 65)) rfl
  obtain ⟨d51, F51⟩ := c.def_ 51 (d := dOf "are_counts" none "are_counts" "are_counts" (top 66)) rfl
  obtain ⟨d52, F52⟩ := c.def_ 52 (d := dOf "walk_of" none "walk_of" "walk_of" (top 67)) rfl
  obtain ⟨d53, F53⟩ := c.def_ 53 (d := dOf "most" none "most" "most" (top 68)) rfl
  obtain ⟨d54, F54⟩ := c.def_ 54 (d := dOf "best_plan" none "best_plan" "best_plan" (top 69)) rfl
  obtain ⟨d55, F55⟩ := c.def_ 55 (d := dOf "is_most_paper" none "is_most_paper" "is_most_paper" (top 70)) rfl
  obtain ⟨d56, F56⟩ := c.def_ 56 (d := dOf "flow_of" none "flow_of" "flow_of" (top 71)) rfl
  obtain ⟨d57, F57⟩ := c.def_ 57 (d := dOf "is_flow" none "is_flow" "is_flow" (top 72)) rfl
  obtain ⟨d58, F58⟩ := c.def_ 58 (d := dOf "_law_mixed" none "_law_mixed" "_law_mixed" (top 75)) rfl
  obtain ⟨d59, F59⟩ := c.def_ 59 (d := dOf "_law_take" none "_law_take" "_law_take" (top 76)) rfl
  obtain ⟨d60, F60⟩ := c.def_ 60 (d := dOf "_law_pick" none "_law_pick" "_law_pick" (top 77)) rfl
  obtain ⟨d61, F61⟩ := c.def_ 61 (d := dOf "_law_common" none "_law_common" "_law_common" (top 78)) rfl
  obtain ⟨d62, F62⟩ := c.def_ 62 (d := dOf "_law_ratio" none "_law_ratio" "_law_ratio" (top 79)) rfl
  obtain ⟨d63, F63⟩ := c.def_ 63 (d := dOf "_law_plus" none "_law_plus" "_law_plus" (top 80)) rfl
  obtain ⟨d64, F64⟩ := c.def_ 64 (d := dOf "_law_times" none "_law_times" "_law_times" (top 81)) rfl
  obtain ⟨d65, F65⟩ := c.def_ 65 (d := dOf "_law_total" none "_law_total" "_law_total" (top 82)) rfl
  obtain ⟨d66, F66⟩ := c.def_ 66 (d := dOf "_law_parts" none "_law_parts" "_law_parts" (top 83)) rfl
  obtain ⟨d67, F67⟩ := c.def_ 67 (d := dOf "_law_pair" none "_law_pair" "_law_pair" (top 84)) rfl
  obtain ⟨d68, F68⟩ := c.def_ 68 (d := dOf "_law_some_share" none "_law_some_share" "_law_some_share" (top 85)) rfl
  obtain ⟨d69, F69⟩ := c.def_ 69 (d := dOf "_law_dot" none "_law_dot" "_law_dot" (top 86)) rfl
  obtain ⟨d70, F70⟩ := c.def_ 70 (d := dOf "_law_stays" none "_law_stays" "_law_stays" (top 87)) rfl
  obtain ⟨d71, F71⟩ := c.def_ 71 (d := dOf "_law_slow" none "_law_slow" "_law_slow" (top 88)) rfl
  obtain ⟨d72, F72⟩ := c.def_ 72 (d := dOf "_law_longer" none "_law_longer" "_law_longer" (top 89)) rfl
  obtain ⟨d73, F73⟩ := c.def_ 73 (d := dOf "_law_shorter" none "_law_shorter" "_law_shorter" (top 90)) rfl
  obtain ⟨d74, F74⟩ := c.def_ 74 (d := dOf "_law_rows_of" none "_law_rows_of" "_law_rows_of" (top 91)) rfl
  obtain ⟨d75, F75⟩ := c.def_ 75 (d := dOf "_law_house" none "_law_house" "_law_house" (top 92)) rfl
  obtain ⟨d76, F76⟩ := c.def_ 76 (d := dOf "_law_slow_moves" none "_law_slow_moves" "_law_slow_moves" (top 93)) rfl
  obtain ⟨d77, F77⟩ := c.def_ 77 (d := dOf "_law_gain" none "_law_gain" "_law_gain" (top 94)) rfl
  obtain ⟨d78, F78⟩ := c.def_ 78 (d := dOf "_law_right" none "_law_right" "_law_right" (top 95)) rfl
  obtain ⟨d79, F79⟩ := c.def_ 79 (d := dOf "_law_begun" none "_law_begun" "_law_begun" (top 74)) rfl
  exact ⟨{
    ca := fun c => match c with
      | 0 => He.ga K "Walk"
      | 1 => He.ga K "House"
      | _ => 0
    f_is_number := _, d_is_number := d0, F_is_number := F0
    g_is_number := He.glo_ok X G (c.fact 0 (f := .glo "is_number") rfl)
    f_is_between := _, d_is_between := d1, F_is_between := F1
    g_is_between := He.glo_ok X G (c.fact 1 (f := .glo "is_between") rfl)
    f_is_list := _, d_is_list := d2, F_is_list := F2
    g_is_list := He.glo_ok X G (c.fact 2 (f := .glo "is_list") rfl)
    f_is_row := _, d_is_row := d3, F_is_row := F3
    g_is_row := He.glo_ok X G (c.fact 3 (f := .glo "is_row") rfl)
    f_is_count_row := _, d_is_count_row := d4, F_is_count_row := F4
    g_is_count_row := He.glo_ok X G (c.fact 4 (f := .glo "is_count_row") rfl)
    f_divisor_of := _, d_divisor_of := d5, F_divisor_of := F5
    g_divisor_of := He.glo_ok X G (c.fact 5 (f := .glo "divisor_of") rfl)
    f_multiple_of := _, d_multiple_of := d6, F_multiple_of := F6
    g_multiple_of := He.glo_ok X G (c.fact 6 (f := .glo "multiple_of") rfl)
    f_least_pair := _, d_least_pair := d7, F_least_pair := F7
    g_least_pair := He.glo_ok X G (c.fact 7 (f := .glo "least_pair") rfl)
    f_plain_row := _, d_plain_row := d8, F_plain_row := F8
    g_plain_row := He.glo_ok X G (c.fact 8 (f := .glo "plain_row") rfl)
    f_is_index := _, d_is_index := d9, F_is_index := F9
    g_is_index := He.glo_ok X G (c.fact 9 (f := .glo "is_index") rfl)
    f_ratio_of := _, d_ratio_of := d10, F_ratio_of := F10
    g_ratio_of := He.glo_ok X G (c.fact 10 (f := .glo "ratio_of") rfl)
    f_is_ratio := _, d_is_ratio := d11, F_is_ratio := F11
    g_is_ratio := He.glo_ok X G (c.fact 11 (f := .glo "is_ratio") rfl)
    f_sum_of := _, d_sum_of := d12, F_sum_of := F12
    g_sum_of := He.glo_ok X G (c.fact 12 (f := .glo "sum_of") rfl)
    f_less_of := _, d_less_of := d13, F_less_of := F13
    g_less_of := He.glo_ok X G (c.fact 13 (f := .glo "less_of") rfl)
    f_product_of := _, d_product_of := d14, F_product_of := F14
    g_product_of := He.glo_ok X G (c.fact 14 (f := .glo "product_of") rfl)
    f_is_below := _, d_is_below := d15, F_is_below := F15
    g_is_below := He.glo_ok X G (c.fact 15 (f := .glo "is_below") rfl)
    f_greatest_of := _, d_greatest_of := d16, F_greatest_of := F16
    g_greatest_of := He.glo_ok X G (c.fact 16 (f := .glo "greatest_of") rfl)
    f_total_of := _, d_total_of := d17, F_total_of := F17
    g_total_of := He.glo_ok X G (c.fact 17 (f := .glo "total_of") rfl)
    f_is_pair_of := _, d_is_pair_of := d18, F_is_pair_of := F18
    g_is_pair_of := He.glo_ok X G (c.fact 18 (f := .glo "is_pair_of") rfl)
    f_is_share_of := _, d_is_share_of := d19, F_is_share_of := F19
    g_is_share_of := He.glo_ok X G (c.fact 19 (f := .glo "is_share_of") rfl)
    f_need_share := _, d_need_share := d20, F_need_share := F20
    g_need_share := He.glo_ok X G (c.fact 20 (f := .glo "need_share") rfl)
    f_divided := _, d_divided := d21, F_divided := F21
    g_divided := He.glo_ok X G (c.fact 21 (f := .glo "divided") rfl)
    f_cleared := _, d_cleared := d22, F_cleared := F22
    g_cleared := He.glo_ok X G (c.fact 22 (f := .glo "cleared") rfl)
    f_stepped_lines := _, d_stepped_lines := d23, F_stepped_lines := F23
    g_stepped_lines := He.glo_ok X G (c.fact 23 (f := .glo "stepped_lines") rfl)
    f_bar_from := _, d_bar_from := d24, F_bar_from := F24
    g_bar_from := He.glo_ok X G (c.fact 24 (f := .glo "bar_from") rfl)
    f_answer_from := _, d_answer_from := d25, F_answer_from := F25
    g_answer_from := He.glo_ok X G (c.fact 25 (f := .glo "answer_from") rfl)
    f_answer_of := _, d_answer_of := d26, F_answer_of := F26
    g_answer_of := He.glo_ok X G (c.fact 26 (f := .glo "answer_of") rfl)
    f_is_chance_row := _, d_is_chance_row := d27, F_is_chance_row := F27
    g_is_chance_row := He.glo_ok X G (c.fact 27 (f := .glo "is_chance_row") rfl)
    f_Walk_init_ := _, d_Walk_init_ := d28, F_Walk_init_ := F28
    f_Walk_eq_ := _, d_Walk_eq_ := d29, F_Walk_eq_ := F29
    f_are_ratios := _, d_are_ratios := d30, F_are_ratios := F30
    g_are_ratios := He.glo_ok X G (c.fact 28 (f := .glo "are_ratios") rfl)
    f_mean_by := _, d_mean_by := d31, F_mean_by := F31
    g_mean_by := He.glo_ok X G (c.fact 29 (f := .glo "mean_by") rfl)
    f_are_moves := _, d_are_moves := d32, F_are_moves := F32
    g_are_moves := He.glo_ok X G (c.fact 30 (f := .glo "are_moves") rfl)
    f_House_init_ := _, d_House_init_ := d33, F_House_init_ := F33
    f_House_eq_ := _, d_House_eq_ := d34, F_House_eq_ := F34
    f_need_house := _, d_need_house := d35, F_need_house := F35
    g_need_house := He.glo_ok X G (c.fact 31 (f := .glo "need_house") rfl)
    f_is_plan := _, d_is_plan := d36, F_is_plan := F36
    g_is_plan := He.glo_ok X G (c.fact 32 (f := .glo "is_plan") rfl)
    f_need_plan := _, d_need_plan := d37, F_need_plan := F37
    g_need_plan := He.glo_ok X G (c.fact 33 (f := .glo "need_plan") rfl)
    f_rows_of := _, d_rows_of := d38, F_rows_of := F38
    g_rows_of := He.glo_ok X G (c.fact 34 (f := .glo "rows_of") rfl)
    f_stays_in := _, d_stays_in := d39, F_stays_in := F39
    g_stays_in := He.glo_ok X G (c.fact 35 (f := .glo "stays_in") rfl)
    f_staying_lot := _, d_staying_lot := d40, F_staying_lot := F40
    g_staying_lot := He.glo_ok X G (c.fact 36 (f := .glo "staying_lot") rfl)
    f_need_leaky := _, d_need_leaky := d41, F_need_leaky := F41
    g_need_leaky := He.glo_ok X G (c.fact 37 (f := .glo "need_leaky") rfl)
    f_are_parts := _, d_are_parts := d42, F_are_parts := F42
    g_are_parts := He.glo_ok X G (c.fact 38 (f := .glo "are_parts") rfl)
    f_need_gains := _, d_need_gains := d43, F_need_gains := F43
    g_need_gains := He.glo_ok X G (c.fact 39 (f := .glo "need_gains") rfl)
    f_gained_by := _, d_gained_by := d44, F_gained_by := F44
    g_gained_by := He.glo_ok X G (c.fact 40 (f := .glo "gained_by") rfl)
    f_sums_of_moves := _, d_sums_of_moves := d45, F_sums_of_moves := F45
    g_sums_of_moves := He.glo_ok X G (c.fact 41 (f := .glo "sums_of_moves") rfl)
    f_first_best := _, d_first_best := d46, F_first_best := F46
    g_first_best := He.glo_ok X G (c.fact 42 (f := .glo "first_best") rfl)
    f_gains_of := _, d_gains_of := d47, F_gains_of := F47
    g_gains_of := He.glo_ok X G (c.fact 43 (f := .glo "gains_of") rfl)
    f_most_of := _, d_most_of := d48, F_most_of := F48
    g_most_of := He.glo_ok X G (c.fact 44 (f := .glo "most_of") rfl)
    f_flow_by := _, d_flow_by := d49, F_flow_by := F49
    g_flow_by := He.glo_ok X G (c.fact 45 (f := .glo "flow_by") rfl)
    f_begun_by := _, d_begun_by := d50, F_begun_by := F50
    g_begun_by := He.glo_ok X G (c.fact 46 (f := .glo "begun_by") rfl)
    f_are_counts := _, d_are_counts := d51, F_are_counts := F51
    g_are_counts := He.glo_ok X G (c.fact 47 (f := .glo "are_counts") rfl)
    f_walk_of := _, d_walk_of := d52, F_walk_of := F52
    g_walk_of := He.glo_ok X G (c.fact 48 (f := .glo "walk_of") rfl)
    f_most := _, d_most := d53, F_most := F53
    g_most := He.glo_ok X G (c.fact 49 (f := .glo "most") rfl)
    f_best_plan := _, d_best_plan := d54, F_best_plan := F54
    g_best_plan := He.glo_ok X G (c.fact 50 (f := .glo "best_plan") rfl)
    f_is_most_paper := _, d_is_most_paper := d55, F_is_most_paper := F55
    g_is_most_paper := He.glo_ok X G (c.fact 51 (f := .glo "is_most_paper") rfl)
    f_flow_of := _, d_flow_of := d56, F_flow_of := F56
    g_flow_of := He.glo_ok X G (c.fact 52 (f := .glo "flow_of") rfl)
    f_is_flow := _, d_is_flow := d57, F_is_flow := F57
    g_is_flow := He.glo_ok X G (c.fact 53 (f := .glo "is_flow") rfl)
    f__law_mixed := _, d__law_mixed := d58, F__law_mixed := F58
    g__law_mixed := He.glo_ok X G (c.fact 54 (f := .glo "_law_mixed") rfl)
    f__law_take := _, d__law_take := d59, F__law_take := F59
    g__law_take := He.glo_ok X G (c.fact 55 (f := .glo "_law_take") rfl)
    f__law_pick := _, d__law_pick := d60, F__law_pick := F60
    g__law_pick := He.glo_ok X G (c.fact 56 (f := .glo "_law_pick") rfl)
    f__law_common := _, d__law_common := d61, F__law_common := F61
    g__law_common := He.glo_ok X G (c.fact 57 (f := .glo "_law_common") rfl)
    f__law_ratio := _, d__law_ratio := d62, F__law_ratio := F62
    g__law_ratio := He.glo_ok X G (c.fact 58 (f := .glo "_law_ratio") rfl)
    f__law_plus := _, d__law_plus := d63, F__law_plus := F63
    g__law_plus := He.glo_ok X G (c.fact 59 (f := .glo "_law_plus") rfl)
    f__law_times := _, d__law_times := d64, F__law_times := F64
    g__law_times := He.glo_ok X G (c.fact 60 (f := .glo "_law_times") rfl)
    f__law_total := _, d__law_total := d65, F__law_total := F65
    g__law_total := He.glo_ok X G (c.fact 61 (f := .glo "_law_total") rfl)
    f__law_parts := _, d__law_parts := d66, F__law_parts := F66
    g__law_parts := He.glo_ok X G (c.fact 62 (f := .glo "_law_parts") rfl)
    f__law_pair := _, d__law_pair := d67, F__law_pair := F67
    g__law_pair := He.glo_ok X G (c.fact 63 (f := .glo "_law_pair") rfl)
    f__law_some_share := _, d__law_some_share := d68, F__law_some_share := F68
    g__law_some_share := He.glo_ok X G (c.fact 64 (f := .glo "_law_some_share") rfl)
    f__law_dot := _, d__law_dot := d69, F__law_dot := F69
    g__law_dot := He.glo_ok X G (c.fact 65 (f := .glo "_law_dot") rfl)
    f__law_stays := _, d__law_stays := d70, F__law_stays := F70
    g__law_stays := He.glo_ok X G (c.fact 66 (f := .glo "_law_stays") rfl)
    f__law_slow := _, d__law_slow := d71, F__law_slow := F71
    g__law_slow := He.glo_ok X G (c.fact 67 (f := .glo "_law_slow") rfl)
    f__law_longer := _, d__law_longer := d72, F__law_longer := F72
    g__law_longer := He.glo_ok X G (c.fact 68 (f := .glo "_law_longer") rfl)
    f__law_shorter := _, d__law_shorter := d73, F__law_shorter := F73
    g__law_shorter := He.glo_ok X G (c.fact 69 (f := .glo "_law_shorter") rfl)
    f__law_rows_of := _, d__law_rows_of := d74, F__law_rows_of := F74
    g__law_rows_of := He.glo_ok X G (c.fact 70 (f := .glo "_law_rows_of") rfl)
    f__law_house := _, d__law_house := d75, F__law_house := F75
    g__law_house := He.glo_ok X G (c.fact 71 (f := .glo "_law_house") rfl)
    f__law_slow_moves := _, d__law_slow_moves := d76, F__law_slow_moves := F76
    g__law_slow_moves := He.glo_ok X G (c.fact 72 (f := .glo "_law_slow_moves") rfl)
    f__law_gain := _, d__law_gain := d77, F__law_gain := F77
    g__law_gain := He.glo_ok X G (c.fact 73 (f := .glo "_law_gain") rfl)
    f__law_right := _, d__law_right := d78, F__law_right := F78
    g__law_right := He.glo_ok X G (c.fact 74 (f := .glo "_law_right") rfl)
    f__law_begun := _, d__law_begun := d79, F__law_begun := F79
    g__law_begun := He.glo_ok X G (c.fact 75 (f := .glo "_law_begun") rfl)
    g_Walk := He.glo_ok X G (c.fact 77 (f := .glo "Walk") rfl), M_Walk := He.mkr_ok (c.fact 79 (f := .mkr "Walk") rfl)
    I_Walk := ⟨He.cls_ok (c.fact 78 (f := .cls "Walk") rfl), He.eqO_ok u0, He.eqO_ok ea, of_decide_eq_true eb, of_decide_eq_true w0⟩
    q_Walk := ⟨of_decide_eq_true w0, He.eqO_ok y0, (He.meth_ok (c.fact 80 (f := .meth "Walk" "__eq__") rfl)).at_, (He.meth_ok (c.fact 80 (f := .meth "Walk" "__eq__") rfl)).fn⟩
    g_House := He.glo_ok X G (c.fact 83 (f := .glo "House") rfl), M_House := He.mkr_ok (c.fact 85 (f := .mkr "House") rfl)
    I_House := ⟨He.cls_ok (c.fact 84 (f := .cls "House") rfl), He.eqO_ok u1, He.eqO_ok ea, of_decide_eq_true eb, of_decide_eq_true w1⟩
    q_House := ⟨of_decide_eq_true w1, He.eqO_ok y1, (He.meth_ok (c.fact 86 (f := .meth "House" "__eq__") rfl)).at_, (He.meth_ok (c.fact 86 (f := .meth "House" "__eq__") rfl)).fn⟩
    i_MOST_PLACES := He.int_ok X G (c.fact 89 (f := .int "MOST_PLACES" 8) rfl)
    tab := ⟨fun i => match i with
      | 0 => (show (["rows", "many"] : List Str).Nodup by decide +kernel)
      | 1 => (show (["moves", "many"] : List Str).Nodup by decide +kernel)
      | n + 2 => List.nodup_nil,
      fun i hc => match i, hc with
      | 0, _ => He.cls_ok (c.fact 78 (f := .cls "Walk") rfl)
      | 1, _ => He.cls_ok (c.fact 84 (f := .cls "House") rfl)
      | n + 2, hc => absurd rfl hc,
      fun i f hf => match i, hf with
      | 0, hf => by
        have hf : f ∈ (["rows", "many"] : List Str) := hf
        simp only [List.mem_cons, List.not_mem_nil, or_false] at hf
        rcases hf with rfl | rfl
        all_goals first
          | exact He.noat_ok (c.fact 81 (f := .noat "Walk" "rows") rfl)
          | exact He.noat_ok (c.fact 82 (f := .noat "Walk" "many") rfl)
      | 1, hf => by
        have hf : f ∈ (["moves", "many"] : List Str) := hf
        simp only [List.mem_cons, List.not_mem_nil, or_false] at hf
        rcases hf with rfl | rfl
        all_goals first
          | exact He.noat_ok (c.fact 87 (f := .noat "House" "moves") rfl)
          | exact He.noat_ok (c.fact 88 (f := .noat "House" "many") rfl)
      | n + 2, hf => by cases hf⟩
    m_abs := He.free_ok X G (c.fact 90 (f := .free "abs") rfl)
    m_all := He.free_ok X G (c.fact 91 (f := .free "all") rfl)
    m_any := He.free_ok X G (c.fact 92 (f := .free "any") rfl)
    m_bool := He.free_ok X G (c.fact 93 (f := .free "bool") rfl)
    m_enumerate := He.free_ok X G (c.fact 94 (f := .free "enumerate") rfl)
    m_int := He.free_ok X G (c.fact 95 (f := .free "int") rfl)
    m_isinstance := He.free_ok X G (c.fact 96 (f := .free "isinstance") rfl)
    m_len := He.free_ok X G (c.fact 97 (f := .free "len") rfl)
    m_list := He.free_ok X G (c.fact 98 (f := .free "list") rfl)
    m_min := He.free_ok X G (c.fact 99 (f := .free "min") rfl)
    m_range := He.free_ok X G (c.fact 100 (f := .free "range") rfl)
    m_sum := He.free_ok X G (c.fact 101 (f := .free "sum") rfl)
    m_tuple := He.free_ok X G (c.fact 102 (f := .free "tuple") rfl)
    m_zip := He.free_ok X G (c.fact 103 (f := .free "zip") rfl)
  }⟩
end Wk
end
section
set_option Elab.async false
set_option linter.all false
set_option maxRecDepth 100000
set_option maxHeartbeats 0
/-! the end: the law by its head, its walk and its reading (printed by mkend.py) -/
namespace Wk
open PySem PySem.Spec PyProof.Rows L2 L3
local macro_rules | `(tactic| walk_at "dv") => `(tactic| simp only [q_dDef, q_sh0, List.map_cons, List.map_nil, List.cons_append, List.nil_append, q_dSq, q_dNext, q_dSet, q_dSetF, q_dSetO, q_dRet, q_dRetN, q_dIfS, q_dNever, q_dWhile, q_dFor, q_dPar, q_dAsg, q_dDrop,
  q_dFrz, q_dApp, q_dAppF, q_dPut, q_dPutF, q_dAttrN, q_dAttrFN, q_dFldN,
  List.getElem?_cons_zero, List.getElem?_cons_succ, List.set_cons_zero, List.set_cons_succ, q_setS0, q_setSc, q_setSs0, q_setSsc, q_setD0, q_setDc, q_wipe0, q_wipec,
  shOf_nil, shOf_c, shO_n, shO_s, shO_o, shO_i, alOf_nil, alOf_c, alO_n, alO_s, alO_o, alO_i, dVar_0, dVar_s, q_dC, q_dBin, q_dBinL, q_dTest, q_dChain, q_dNot, q_dNotV, q_dAnd, q_dAndV, q_dOr, q_dOrV, q_dIf, q_dNeg, q_dCall, q_dCallL, q_dCons, q_dNil, q_dStar, q_dLst, q_dTup, q_dLen, q_dxCons, q_dxNil, q_dxP, q_dxO, q_dYes,
  asInt_int, asBl_bl, asSeq_l, asSeq_t, asLst_l, asTup_t, asObj_o, arg1_, arg2_, arg3_, q_gDef, q_gMake, q_gI0, q_gI, gEq_int, gNe_int, q_gLen, q_gAbs, q_gMax2, q_gMin2, q_gInt_i, q_gInt_b, q_gTuple, q_gList, gIx_0, gIx_1, gIx_0l, gIx_1l, q_gCatL, q_gRepL, q_gCatT, q_gRepT, isi_, isi_int_int, isi_bool_int, isi_tup_tup, isiT_, isiT_lst, isiT_tup, isC_, isCK_o, q_dSeqI, q_dEnumI, q_dZip2, q_dZip3, q_dRng1, q_dRng2, q_dLc, q_gIsB, q_gNotB, q_dSlL, q_dSlT, q_dNoP, q_dSoP,
  List.length_cons, List.length_nil, true_and, and_true, Bool.not_true, Bool.not_false, if_true, Bool.false_eq_true, if_false])
local macro_rules | `(tactic| walk_at "dh") => `(tactic| ((try simp only [fM_eq, fN_eq]); repeat (first | walk_at "dv" | simp only [q_dMv, q_dNv, fMoves_h, fMany_h, isCK_h, asSeq_rT])))
local macro_rules | `(tactic| walk_at "dd") => `(tactic| repeat (first | walk_at "dv" | simp only [q_dDrN, q_dDrC, q_dPop, q_dDput, q_dScrI, q_dLenS]))
local macro_rules | `(tactic| walk_at "dw") => `(tactic| ((try simp only [fM_eq, fN_eq, fR_eq]); repeat (first | walk_at "dv" | simp only [q_dMv, q_dNv, fMoves_h, fMany_h, isCK_h, asSeq_rT, q_dRw, fRows_w, isCK_w])))
local macro_rules | `(tactic| walk_at "dz") => `(tactic| ((try simp only [fM_eq, fN_eq, fR_eq]); repeat (first | walk_at "dv" | simp only [q_dMv, q_dNv, fMoves_h, fMany_h, isCK_h, asSeq_rT, q_dRw, fRows_w, isCK_w, asSeq_mv, asSeq_rL, asLst_rL, asSeq_pt, objH, objW])))
theorem facts {P : Program} {w : World} {K : PySem.W.Frag} {h : Heap} {mg : Str → Option Value} {f : Addr} (X : K.In h) (G : h.Ns mainGlobals mg) (hf : mg ("law" : Str) = some (.ref f)) (c : He.SaysD hfa hfn K) (e : hex K = true) :
    ∃ (T : Tabs) (fd : FuncData), T.kk = K ∧ (∀ (s : Shared) (v : Value), BindsTo s fd ⟨[v], []⟩ [("script", v)]) ∧ ∀ base : Heap, K.In base → base.Ns mainGlobals mg → FnOk P w K mg base CX0 11 f fd ["script"] (spLaw T) := by
  obtain ⟨Y⟩ := hwd X G c e
  obtain ⟨fd, F⟩ := c.def_ 80 (d := dOf "law" none "law" "law" (top 96)) rfl
  have z := hf.symm.trans (He.glo_ok X G (c.fact 76 (f := .glo "law") rfl))
  cases z
  have b := FunD.bindsA (ps := ["script"]) F fun _ _ _ _ _ _ us hl => match us, hl with | [_], _ => rfl
  exact ⟨Y.T, fd, rfl, fun s v => b s [v] rfl, fun base _ _ => ok_law Y F qb q_law⟩
end Wk
open PySem PySem.W PySem.Calls PyProof.Rows
theorem PySem.Challenge.cw_bestatall_k03_main_across_slower_houses_holds : PySem.Challenge.rw_bestatall_k03_main_across_slower_houses.Holds := by
  w_on; o_law
  refine HandSHeadRun.head_any (r := OpenLaw.row PySem.Challenge.rw_bestatall_k03_main_across_slower_houses) (q := view (OpenLaw.row PySem.Challenge.rw_bestatall_k03_main_across_slower_houses).prog [96]) (H := Wk.hhk) (ob := Wk.hob) (M := 6000) (loose := Wk.hnm) (d := HandSHeadRun.topDef (OpenLaw.row PySem.Challenge.rw_bestatall_k03_main_across_slower_houses).prog 96) (kwd := []) Wk.hob_eq
    (by kernel_rfl) (fun s => by kernel_rfl) Wk.hrun (by kernel_rfl) (by kernel_rfl) (by kernel_rfl) (by rfl) (by first | assumption | decide +kernel) (by decide +kernel) ⟨rfl, rfl, rfl, rfl, rfl, by decide +kernel⟩ ?hw ?hc
  case hw => w_witness2
  case hc =>
    refine L2.walk_ofE (l := PySem.Challenge.rw_bestatall_k03_main_across_slower_houses) (n := 63) (k := 11) (x := "script") (CX := L2.CX0) rfl (by decide) (by kernel_rfl) ⟨rfl, by decide, by decide⟩ ?F (fun _ _ _ _ z => z)
    intro w mg fa h Y G hmg0
    obtain ⟨K, KX, c, e⟩ := Y
    have hmg : mg ("law" : PySem.Str) = some (.ref fa) := by
      have e : (HandSHeadRun.topDef (OpenLaw.row PySem.Challenge.rw_bestatall_k03_main_across_slower_houses).prog 96).name = ("law" : PySem.Str) := by kernel_rfl
      rw [← e]
      exact hmg0
    obtain ⟨T, fd, hT, hb, hF⟩ := Wk.facts (P := (PySem.Challenge.rw_bestatall_k03_main_across_slower_houses).prog) (w := w) KX G hmg c e
    exact ⟨K, fd, L3.spLaw T, KX, hb, fun H a ns hl _ hS => ⟨a, ns, rfl, hl, by rw [hT]; exact hS, fun _ => rfl⟩, hF⟩
end
