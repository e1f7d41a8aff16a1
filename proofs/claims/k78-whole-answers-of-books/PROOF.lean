import PyProof.Rows.All
import Wide.All
import OpenK.AllK
import Wide.FinOn
import HandS.ForMost
import HandS.Codes
import HandS.TupAny
import HandS.Deep
import HandS.IsInst
import HandS.Conv
import HandS.More
import HandS.Style
import HandS.Defaults
import HandS.SortKw
import HandS.Ends
import HandS.Words
import HandS.Head0
import HandS.Head1
import HandS.Head2
import HandS.HeadEnd
import HandS.HeadHook1
import HandS.HeadHook2
import HandS.HeadHook3
import HandS.HeadHook4
import KE.KStateDown
import PySem.Challenge.RW_thenbeside_k78_whole_answers_of_books
set_option Elab.async false
set_option linter.all false
set_option maxRecDepth 100000
set_option maxHeartbeats 0
namespace Tb
open PySem PySem.Spec PyProof.Rows L2
def top (i : Nat) : Stmt := PySem.Challenge.pw_thenbeside_k78_whole_answers_of_books.main.body.getD i (.Pass ⟨0, 0, 0, 0⟩)
def clsBody : Stmt → List Stmt
  | .ClassDef (body := b) .. => b
  | _ => []
/-- the i-th method of Book -/
def mth (i : Nat) : Stmt := (clsBody (top 58)).getD i (.Pass ⟨0, 0, 0, 0⟩)
def dOf (x nm : Str) (i : Nat) : He.DefD := ⟨(x, none), nm, nm, defArgs (top i), defBody (top i), defScope (top i), [], []⟩
def mOf (m q : Str) (i : Nat) : He.DefD := ⟨("Book", some m), m, q, defArgs (mth i), defBody (mth i), defScope (mth i), [], []⟩
def hdFn0 : List He.DefD := [dOf "is_between" "is_between" 9, dOf "has_form" "has_form" 10, dOf "all_tasks" "all_tasks" 11, dOf "tasks_of" "tasks_of" 12, dOf "is_plan" "is_plan" 13, dOf "least_task" "least_task" 14, dOf "normal_of" "normal_of" 15, dOf "places_of" "places_of" 16, dOf "joint_of" "joint_of" 17, dOf "relation_of" "relation_of" 18, dOf "is_integer_tables" "is_integer" 21, dOf "opposite" "opposite" 23, dOf "is_chosen" "is_chosen" 24, dOf "is_integer_rules" "is_integer" 29, dOf "is_task" "is_task" 31, dOf "is_allowed" "is_allowed" 32, dOf "is_rule" "is_rule" 33, dOf "is_size" "is_size" 34, dOf "is_problem" "is_problem" 35, dOf "opposites" "opposites" 36, dOf "allowed_of" "allowed_of" 37, dOf "keeps_rule" "keeps_rule" 38, dOf "kept_by" "kept_by" 39, dOf "ties" "ties" 41, dOf "bars" "bars" 42, dOf "reach" "reach" 43, dOf "told_split" "told_split" 44, dOf "stuck" "stuck" 45, dOf "check_problem" "check_problem" 47, dOf "joined" "joined" 48]
def hdFn1 : List He.DefD := [dOf "taken_apart" "taken_apart" 49, dOf "solved" "solved" 50, dOf "solve" "solve" 51, dOf "accepts_solving" "accepts" 52, dOf "is_command" "is_command" 56, dOf "behind" "behind" 57, dOf "_law_stream" "_law_stream" 60, dOf "_law_next" "_law_next" 61, dOf "_law_is_integer" "_law_is_integer" 62, dOf "_law_rows" "_law_rows" 63, dOf "_law_blocks" "_law_blocks" 64, dOf "_law_heads" "_law_heads" 65, dOf "_law_plans" "_law_plans" 66, dOf "_law_tasks" "_law_tasks" 67, dOf "_law_relation" "_law_relation" 68, dOf "_law_relations" "_law_relations" 69, dOf "_law_opposite" "_law_opposite" 70, dOf "_law_rule" "_law_rule" 71, dOf "_law_allowed" "_law_allowed" 72, dOf "_law_keeps" "_law_keeps" 73, dOf "_law_solutions" "_law_solutions" 74, dOf "_law_reaches" "_law_reaches" 75, dOf "_law_is_set" "_law_is_set" 76, dOf "_law_is_stuck" "_law_is_stuck" 77, dOf "_law_is_plan_of" "_law_is_plan_of" 78, dOf "_law_is_solution" "_law_is_solution" 79, dOf "_law_command" "_law_command" 80, dOf "_law_why_not" "_law_why_not" 81, dOf "_law_behind" "_law_behind" 82, dOf "_law_history" "_law_history" 83]
def hdFn2 : List He.DefD := [dOf "_law_answer_is_right" "_law_answer_is_right" 84, dOf "law" "law" 85, mOf "__init__" "Book.__init__" 0, mOf "act" "Book.act" 1, mOf "problem" "Book.problem" 3, mOf "answer" "Book.answer" 5, mOf "accepts" "Book.accepts" 6]
def hdFn : List He.DefD := hdFn0 ++ hdFn1 ++ hdFn2
def hdFa0 : List He.Fa := [.glo "is_between", .glo "has_form", .glo "all_tasks", .glo "tasks_of", .glo "is_plan", .glo "least_task", .glo "normal_of", .glo "places_of", .glo "joint_of", .glo "relation_of", .glo "is_integer_tables", .glo "opposite", .glo "is_chosen", .glo "is_integer_rules", .glo "is_task", .glo "is_allowed", .glo "is_rule", .glo "is_size", .glo "is_problem", .glo "opposites", .glo "allowed_of", .glo "keeps_rule", .glo "kept_by", .glo "ties", .glo "bars", .glo "reach", .glo "told_split", .glo "stuck", .glo "check_problem", .glo "joined"]
def hdFa1 : List He.Fa := [.glo "taken_apart", .glo "solved", .glo "solve", .glo "accepts_solving", .glo "is_command", .glo "behind", .glo "_law_stream", .glo "_law_next", .glo "_law_is_integer", .glo "_law_rows", .glo "_law_blocks", .glo "_law_heads", .glo "_law_plans", .glo "_law_tasks", .glo "_law_relation", .glo "_law_relations", .glo "_law_opposite", .glo "_law_rule", .glo "_law_allowed", .glo "_law_keeps", .glo "_law_solutions", .glo "_law_reaches", .glo "_law_is_set", .glo "_law_is_stuck", .glo "_law_is_plan_of", .glo "_law_is_solution", .glo "_law_command", .glo "_law_why_not", .glo "_law_behind", .glo "_law_history"]
def hdFa2 : List He.Fa := [.glo "_law_answer_is_right", .glo "law", .glo "Book", .glo "OPPOSITES", .glo "WORDS", .glo "RELATIONS", .int "MOST_TASKS_plans" 7, .int "MOST_TASKS_rules" 7, .int "MOST_RULES" 20, .int "MOST_COMMANDS" 20, .free "len", .free "isinstance", .free "int", .free "bool", .free "str", .free "tuple", .free "list", .free "all", .free "range", .free "sorted", .free "min", .free "abs", .cls "Book", .noat "Book" "size", .noat "Book" "states", .noat "Book" "commands", .meth "Book" "act", .meth "Book" "problem", .meth "Book" "answer", .meth "Book" "accepts"]
def hdFa3 : List He.Fa := [.mkr "Book"]
def hdFa : List He.Fa := hdFa0 ++ hdFa1 ++ hdFa2 ++ hdFa3
def hdLoose0 : List Str := ["_wall", "PlanError", "BadValue", "TooLarge", "NotPossible", "MOST_TASKS_plans", "WORDS", "is_between", "has_form", "all_tasks", "tasks_of", "is_plan", "least_task", "normal_of", "places_of", "joint_of", "relation_of", "OPPOSITES", "is_integer", "is_integer_tables", "opposite", "is_chosen", "MOST_TASKS_rules", "MOST_RULES", "RELATIONS", "is_integer_rules", "is_task", "is_allowed", "is_rule", "is_size"]
def hdLoose1 : List Str := ["is_problem", "opposites", "allowed_of", "keeps_rule", "kept_by", "ties", "bars", "reach", "told_split", "stuck", "check_problem", "joined", "taken_apart", "solved", "solve", "accepts", "accepts_solving", "MOST_COMMANDS", "is_command", "behind", "Book", "_law_stream", "_law_next", "_law_is_integer", "_law_rows", "_law_blocks", "_law_heads", "_law_plans", "_law_tasks", "_law_relation"]
def hdLoose2 : List Str := ["_law_relations", "_law_opposite", "_law_rule", "_law_allowed", "_law_keeps", "_law_solutions", "_law_reaches", "_law_is_set", "_law_is_stuck", "_law_is_plan_of", "_law_is_solution", "_law_command", "_law_why_not", "_law_behind", "_law_history", "_law_answer_is_right"]
def hdLoose : List Str := hdLoose0 ++ hdLoose1 ++ hdLoose2
def hdTs : List He.Tab := [(fun K => He.ga K "OPPOSITES", ["before", "beside", "after", "same"])]
def hdEx (K : PySem.W.Frag) : Bool := He.tupB K "WORDS" [.str "then", .str "beside"] && (He.tupB K "RELATIONS" [.str "before", .str "beside", .str "after"] && He.valsB K (He.ga K "OPPOSITES") [("before", .str "after"), ("beside", .str "beside"), ("after", .str "before"), ("same", .str "same")])
abbrev hdR : PySem.W.OpenRow := PySem.W.OpenLaw.row PySem.Challenge.rw_thenbeside_k78_whole_answers_of_books
abbrev hdK : PySem.W.Hook := He.hookX 4 hdFa hdFn hdTs [] hdEx
def hdOb (s : PySem.W.SharedT) : He.AlX := He.obsX 4 hdFa hdFn hdTs [] hdEx (HandSHeadRun.getT s)
theorem hdOb_eq (s : PySem.W.SharedT) : hdOb s = hdK.obs s.abs := He.obsX_eq (HandSHeadRun.getT_eq s)
end Tb
/-! The top's run, for each answer of the one row that it asks. -/
namespace Tb
open PySem PySem.Spec PyProof.Rows L2
theorem hdRunF (w : World) : HandSHeadRun.RunEq hdR (PySem.W.view hdR.prog [85]) hdK hdOb 6000 hdLoose (w.withFollow "special-get-raises" false) := by
  intro os
  kernel_rfl
theorem hdRunT (w : World) : HandSHeadRun.RunEq hdR (PySem.W.view hdR.prog [85]) hdK hdOb 6000 hdLoose (w.withFollow "special-get-raises" true) := by
  intro os
  kernel_rfl
theorem hdRun (w : World) : HandSHeadRun.RunEq hdR (PySem.W.view hdR.prog [85]) hdK hdOb 6000 hdLoose w :=
  PySem.W.byRow2 "special-get-raises" (P := fun w => HandSHeadRun.RunEq hdR (PySem.W.view hdR.prog [85]) hdK hdOb 6000 hdLoose w) hdRunF hdRunT w
end Tb

set_option maxHeartbeats 1000000
/-! Data: what a value stands for (a PyData), in a part B of the heap that never changes; evaluation, statements and calls told by data alone. -/
namespace Tb
open PySem PySem.Spec PyProof.Rows
open L2
abbrev St := L2.St

theorem same_new {H : Hp} {p : Addr} (h : H p = none) (o : HO) : Same H (upd H p o) := fun b u q => by rw [upd_ne (ne_of_none q h)]; exact q
theorem same_rd {H H' : Hp} {a : Addr} {u : HO} (e : Same H H') (h : Rd H a u) : Rd H' a u := by
  rcases h with h | ⟨o, h⟩
  · exact .inl (e a _ h)
  · exact .inr ⟨o, e a _ h⟩
theorem same_sqt {K : PySem.W.Frag} {H H' : Hp} {a : Addr} {xs : List V} (e : Same H H') (h : SqT K H a xs) : SqT K H' a xs := by
  rcases h with h | h
  · exact .inl (same_rd e h)
  · exact .inr h

mutual
inductive Dt (K : PySem.W.Frag) (B : Hp) : V → PyData → Prop
  | non : Dt K B .non .none
  | bl (b : Bool) : Dt K B (.bl b) (.bool b)
  | int (i : Int) : Dt K B (.int i) (.int i)
  | str (x : Str) : Dt K B (.str x) (.str x)
  | lst {a : Addr} {xs : List V} {ds : List PyData} : B a = some (.lst xs) → DtL K B xs ds → Dt K B (.ref a) (.list ds)
  | tup {a : Addr} {xs : List V} {ds : List PyData} : SqT K B a xs → DtL K B xs ds → Dt K B (.ref a) (.tuple ds)
inductive DtL (K : PySem.W.Frag) (B : Hp) : List V → List PyData → Prop
  | nil : DtL K B [] []
  | cons {v : V} {vs : List V} {d : PyData} {ds : List PyData} : Dt K B v d → DtL K B vs ds → DtL K B (v :: vs) (d :: ds)
end
section
variable {K : PySem.W.Frag} {B B' : Hp}
mutual
theorem Dt.mono (e : Same B B') : ∀ (d : PyData) (v : V), Dt K B v d → Dt K B' v d
  | .none, _, h => by cases h; exact .non
  | .bool b, _, h => by cases h; exact .bl b
  | .int i, _, h => by cases h; exact .int i
  | .str x, _, h => by cases h; exact .str x
  | .list ds, _, h => by
    cases h with
    | lst h1 h2 => exact .lst (e _ _ h1) (DtL.mono e ds _ h2)
  | .tuple ds, _, h => by
    cases h with
    | tup h1 h2 => exact .tup (same_sqt e h1) (DtL.mono e ds _ h2)
  | .dict _, _, h => by cases h
theorem DtL.mono (e : Same B B') : ∀ (ds : List PyData) (vs : List V), DtL K B vs ds → DtL K B' vs ds
  | [], _, h => by cases h; exact .nil
  | d :: ds, _, h => by
    cases h with
    | cons h1 h2 => exact .cons (Dt.mono e d _ h1) (DtL.mono e ds _ h2)
end
mutual
theorem Dt.dp : ∀ (d : PyData) (v : V), Dt K B v d → Dp K B v d
  | .none, _, h => by cases h; exact .non
  | .bool b, _, h => by cases h; exact .bl b
  | .int i, _, h => by cases h; exact .int i
  | .str x, _, h => by cases h; exact .str x
  | .list ds, _, h => by
    cases h with
    | lst h1 h2 => exact .lst (SqL.of h1) (DtL.dp ds _ h2)
  | .tuple ds, _, h => by
    cases h with
    | tup h1 h2 => exact .tup h1 (DtL.dp ds _ h2)
  | .dict _, _, h => by cases h
theorem DtL.dp : ∀ (ds : List PyData) (vs : List V), DtL K B vs ds → DpAll K B vs ds
  | [], _, h => by cases h; exact .nil
  | d :: ds, _, h => by
    cases h with
    | cons h1 h2 => exact .cons (Dt.dp d _ h1) (DtL.dp ds _ h2)
end
theorem Dt.up (e : Same B B') {d : PyData} {v : V} (h : Dt K B v d) : Dt K B' v d := Dt.mono e d v h
theorem DtL.up (e : Same B B') {ds : List PyData} {vs : List V} (h : DtL K B vs ds) : DtL K B' vs ds := DtL.mono e ds vs h
theorem DtL.length : ∀ {vs : List V} {ds : List PyData}, DtL K B vs ds → vs.length = ds.length
  | _, _, .nil => rfl
  | _, _, .cons _ h => congrArg Nat.succ h.length
theorem DtL.append : ∀ {vs ws : List V} {ds es : List PyData}, DtL K B vs ds → DtL K B ws es → DtL K B (vs ++ ws) (ds ++ es)
  | _, _, _, _, .nil, h => h
  | _, _, _, _, .cons h1 h2, h => .cons h1 (h2.append h)
theorem DtL.drop : ∀ {vs : List V} {ds : List PyData} (n : Nat), DtL K B vs ds → DtL K B (vs.drop n) (ds.drop n)
  | _, _, 0, h => h
  | _, _, _ + 1, .nil => .nil
  | _, _, n + 1, .cons _ h => h.drop n
theorem DtL.take : ∀ {vs : List V} {ds : List PyData} (n : Nat), DtL K B vs ds → DtL K B (vs.take n) (ds.take n)
  | _, _, 0, _ => .nil
  | _, _, _ + 1, .nil => .nil
  | _, _, n + 1, .cons h1 h => .cons h1 (h.take n)
/-- the i-th -/
theorem DtL.get : ∀ {vs : List V} {ds : List PyData} {i : Nat} {d : PyData}, DtL K B vs ds → ds[i]? = some d → ∃ v, vs[i]? = some v ∧ Dt K B v d
  | _, _, _, _, .nil, e => by simp at e
  | _, _, 0, _, .cons h _, e => by simp at e; subst e; exact ⟨_, rfl, h⟩
  | _, _, i + 1, d, .cons _ h, e => by
    obtain ⟨v, h1, h2⟩ := DtL.get (i := i) (d := d) h (by simpa using e)
    exact ⟨v, by simpa using h1, h2⟩
theorem DtL.getV : ∀ {vs : List V} {ds : List PyData} {i : Nat} {v : V}, DtL K B vs ds → vs[i]? = some v → ∃ d, ds[i]? = some d ∧ Dt K B v d
  | _, _, _, _, .nil, e => by simp at e
  | _, _, 0, _, .cons h _, e => by simp at e; subst e; exact ⟨_, rfl, h⟩
  | _, _, i + 1, v, .cons _ h, e => by
    obtain ⟨d, h1, h2⟩ := DtL.getV (i := i) (v := v) h (by simpa using e)
    exact ⟨d, by simpa using h1, h2⟩
theorem DtL.ints : ∀ {vs : List V} {ns : List Int}, DtL K B vs (ns.map .int) → vs = ns.map V.int
  | _, [], h => by cases h; rfl
  | _, n :: ns, h => by
    cases h with
    | cons h1 h2 =>
      cases h1
      rw [h2.ints]
      rfl
theorem DtL.ofInts : ∀ (ns : List Int), DtL K B (ns.map V.int) (ns.map .int)
  | [] => .nil
  | n :: ns => .cons (.int n) (DtL.ofInts ns)
theorem DtL.bools : ∀ {vs : List V} {bs : List Bool}, DtL K B vs (bs.map .bool) → vs = bs.map V.bl
  | _, [], h => by cases h; rfl
  | _, n :: ns, h => by
    cases h with
    | cons h1 h2 =>
      cases h1
      rw [h2.bools]
      rfl
theorem DtL.strs : ∀ {vs : List V} {bs : List Str}, DtL K B vs (bs.map .str) → vs = bs.map V.str
  | _, [], h => by cases h; rfl
  | _, n :: ns, h => by
    cases h with
    | cons h1 h2 =>
      cases h1
      rw [h2.strs]
      rfl
end

/-! ### growth -/
/-- B is data within H; new data stand at new places alone -/
structure Gr (B H B' H' : Hp) : Prop where
  bb : Same B B'
  hh : Same H H'
  bh : Same B' H'
  fr : ∀ a, B a = none → H a ≠ none → B' a = none
theorem Gr.refl {B H : Hp} (h : Same B H) : Gr B H B H := ⟨Same.refl B, Same.refl H, h, fun _ e _ => e⟩
theorem Gr.trans {B H B1 H1 B2 H2 : Hp} (a : Gr B H B1 H1) (b : Gr B1 H1 B2 H2) : Gr B H B2 H2 :=
  ⟨a.bb.trans b.bb, a.hh.trans b.hh, b.bh, fun x e n => b.fr x (a.fr x e n) fun z => n (a.hh.free z)⟩
theorem Gr.new {B H : Hp} (h : Same B H) {p : Addr} (hp : H p = none) (o : HO) : Gr B H (upd B p o) (upd H p o) := by
  have bp : B p = none := h.free hp
  refine ⟨same_new bp o, same_new hp o, fun b u e => ?_, fun a e n => ?_⟩
  · by_cases hb : b = p
    · subst hb
      rw [upd_same] at e ⊢
      exact e
    · rw [upd_ne hb] at e ⊢
      exact h b u e
  · have : a ≠ p := fun z => n (by rw [z]; exact hp)
    rw [upd_ne this]
    exact e
/-- what stands outside the data is changed, or laid -/
theorem Gr.side {B H : Hp} (h : Same B H) {p : Addr} (hp : B p = none) (o : HO) : Same B (upd H p o) := fun b u e => by
  rw [upd_ne (ne_of_none e hp)]
  exact h b u e

/-! ### the state -/
inductive Slot where
  | no
  | dat (d : PyData)
  | raw (v : V)
  /-- a list that is this def's own, still growing -/
  | own (ds : List PyData)
  /-- a dict that is this def's own: its keys, each with True -/
  | keys (ks : List Int)
def keysV (ks : List Int) : HO := .dK (ks.map fun k => (Sum.inl k, V.bl true))
def SlotR (K : PySem.W.Frag) (E : Hp × Hp) (B H : Hp) : Slot → Option V → Prop
  | .no, _ => True
  | .dat d, o => ∃ v, o = some v ∧ Dt K B v d
  | .raw v, o => o = some v
  | .own ds, o => ∃ a vs, o = some (.ref a) ∧ E.2 a = none ∧ B a = none ∧ H a = some (.lst vs) ∧ DtL K B vs ds
  | .keys ks, o => ∃ a, o = some (.ref a) ∧ E.2 a = none ∧ B a = none ∧ H a = some (keysV ks)
abbrev Slots (K : PySem.W.Frag) (E : Hp × Hp) (B H : Hp) : List Slot → St → Prop := Paired (SlotR K E B H)
section
variable {K : PySem.W.Frag} {E : Hp × Hp} {B B' H H' : Hp} {γ : List Slot} {σ : St}
theorem SlotR.up (g : Gr B H B' H') : ∀ {s : Slot} {o : Option V}, SlotR K E B H s o → SlotR K E B' H' s o
  | .no, _, _ => trivial
  | .dat d, _, ⟨v, h1, h2⟩ => ⟨v, h1, h2.up g.bb⟩
  | .raw v, _, h => h
  | .own ds, _, ⟨a, vs, h1, h2, h3, h4, h5⟩ => ⟨a, vs, h1, h2, g.fr a h3 (by rw [h4]; exact fun z => nomatch z), g.hh _ _ h4, h5.up g.bb⟩
  | .keys ks, _, ⟨a, h1, h2, h3, h4⟩ => ⟨a, h1, h2, g.fr a h3 (by rw [h4]; exact fun z => nomatch z), g.hh _ _ h4⟩
theorem Slots.up (e : Gr B H B' H') (h : Slots K E B H γ σ) : Slots K E B' H' γ σ := Paired.mapP h fun _ _ => SlotR.up e
theorem Slots.get : ∀ {γ : List Slot} {σ : St} {i : Nat} {s : Slot}, Slots K E B H γ σ → γ[i]? = some s → ∃ o, σ[i]? = some o ∧ SlotR K E B H s o
  | _, _, _, _, .nil, e => by simp at e
  | _, _, 0, _, .cons h _, e => by simp at e; subst e; exact ⟨_, rfl, h⟩
  | _, _, i + 1, s, .cons _ h, e => by
    obtain ⟨o, h1, h2⟩ := Slots.get (i := i) (s := s) h (by simpa using e)
    exact ⟨o, by simpa using h1, h2⟩
theorem Slots.set {s : Slot} {o : Option V} (r : SlotR K E B H s o) : ∀ {γ : List Slot} {σ : St} (i : Nat), Slots K E B H γ σ → Slots K E B H (γ.set i s) (σ.set i o)
  | _, _, _, .nil => .nil
  | _, _, 0, .cons _ t => .cons r t
  | _, _, i + 1, .cons q t => .cons q (Slots.set r i t)
/-- slots that are forgotten -/
def wipeG (γ : List Slot) : List Nat → List Slot
  | [] => γ
  | v :: vs => (wipeG γ vs).set v .no
theorem Slots.wipe {γ : List Slot} {σ : St} (h : Slots K E B H γ σ) : ∀ vs : List Nat, Slots K E B H (wipeG γ vs) (wipe σ vs)
  | [] => h
  | v :: vs => Slots.set (s := .no) trivial v (Slots.wipe h vs)
/-- no other slot is a growing list -/
def notOwn : Slot → Bool
  | .own _ => false
  | _ => true
def soleOwn : Nat → List Slot → Bool
  | _, [] => true
  | 0, _ :: g => g.all notOwn
  | i + 1, s :: g => notOwn s && soleOwn i g
theorem SlotR.other {H2 : Hp} (hk : ∀ a ks, H a = some (keysV ks) → H2 a = some (keysV ks)) : ∀ {s : Slot} {o : Option V}, notOwn s = true → SlotR K E B H s o → SlotR K E B H2 s o
  | .no, _, _, _ => trivial
  | .dat d, _, _, h => h
  | .raw v, _, _, h => h
  | .own _, _, n, _ => nomatch n
  | .keys ks, _, _, ⟨a, h1, h2, h3, h4⟩ => ⟨a, h1, h2, h3, hk a ks h4⟩
theorem Slots.others {H2 : Hp} (hk : ∀ a ks, H a = some (keysV ks) → H2 a = some (keysV ks)) : ∀ {γ : List Slot} {σ : St}, γ.all notOwn = true → Slots K E B H γ σ → Slots K E B H2 γ σ
  | _, _, _, .nil => .nil
  | _, _, n, .cons h t => by
    rw [List.all_cons, Bool.and_eq_true] at n
    exact .cons (h.other hk n.1) (Slots.others hk n.2 t)
/-- the growing list at slot i is changed -/
theorem Slots.change {H2 : Hp} {s : Slot} {o : Option V} (hk : ∀ a ks, H a = some (keysV ks) → H2 a = some (keysV ks)) (r : SlotR K E B H2 s o) : ∀ {i : Nat} {γ : List Slot} {σ : St}, soleOwn i γ = true → σ[i]? = some o → Slots K E B H γ σ → Slots K E B H2 (γ.set i s) σ
  | _, _, _, _, _, .nil => .nil
  | 0, _, _, n, e, .cons _ t => by
    simp at e
    subst e
    exact .cons r (Slots.others hk n t)
  | i + 1, _, _, n, e, .cons h t => by
    have n' : (notOwn _ && soleOwn i _) = true := n
    rw [Bool.and_eq_true] at n'
    exact .cons (h.other hk n'.1) (Slots.change hk r n'.2 (by simpa using e) t)
/-- no other slot is a dict of keys -/
def notKey : Slot → Bool
  | .keys _ => false
  | _ => true
def soleKey : Nat → List Slot → Bool
  | _, [] => true
  | 0, _ :: g => g.all notKey
  | i + 1, s :: g => notKey s && soleKey i g
theorem SlotR.otherK {H2 : Hp} (hk : ∀ a vs, H a = some (.lst vs) → H2 a = some (.lst vs)) : ∀ {s : Slot} {o : Option V}, notKey s = true → SlotR K E B H s o → SlotR K E B H2 s o
  | .no, _, _, _ => trivial
  | .dat d, _, _, h => h
  | .raw v, _, _, h => h
  | .own ds, _, _, ⟨a, vs, h1, h2, h3, h4, h5⟩ => ⟨a, vs, h1, h2, h3, hk a vs h4, h5⟩
  | .keys ks, _, n, _ => nomatch n
theorem Slots.othersK {H2 : Hp} (hk : ∀ a vs, H a = some (.lst vs) → H2 a = some (.lst vs)) : ∀ {γ : List Slot} {σ : St}, γ.all notKey = true → Slots K E B H γ σ → Slots K E B H2 γ σ
  | _, _, _, .nil => .nil
  | _, _, n, .cons h t => by
    rw [List.all_cons, Bool.and_eq_true] at n
    exact .cons (h.otherK hk n.1) (Slots.othersK hk n.2 t)
theorem Slots.changeK {H2 : Hp} {s : Slot} {o : Option V} (hk : ∀ a vs, H a = some (.lst vs) → H2 a = some (.lst vs)) (r : SlotR K E B H2 s o) : ∀ {i : Nat} {γ : List Slot} {σ : St}, soleKey i γ = true → σ[i]? = some o → Slots K E B H γ σ → Slots K E B H2 (γ.set i s) σ
  | _, _, _, _, _, .nil => .nil
  | 0, _, _, n, e, .cons _ t => by
    simp at e
    subst e
    exact .cons r (Slots.othersK hk n t)
  | i + 1, _, _, n, e, .cons h t => by
    have n' : (notKey _ && soleKey i _) = true := n
    rw [Bool.and_eq_true] at n'
    exact .cons (h.otherK hk n'.1) (Slots.changeK hk r n'.2 (by simpa using e) t)
end
structure S (K : PySem.W.Frag) (E : Hp × Hp) (γ : List Slot) (σ : St) (B H : Hp) : Prop where
  gr : Gr E.1 E.2 B H
  sl : Slots K E B H γ σ
section
variable {K : PySem.W.Frag} {E : Hp × Hp} {γ : List Slot} {σ : St} {B B' H H' : Hp}
theorem S.up (s : S K E γ σ B H) (g : Gr B H B' H') : S K E γ σ B' H' := ⟨s.gr.trans g, s.sl.up g⟩
theorem S.bh (s : S K E γ σ B H) : Same B H := s.gr.bh
theorem S.refl (s : S K E γ σ B H) : Gr B H B H := Gr.refl s.bh
theorem S.dat (s : S K E γ σ B H) {i : Nat} {d : PyData} (h : γ[i]? = some (.dat d)) : ∃ v, σ[i]? = some (some v) ∧ Dt K B v d := by
  obtain ⟨o, h1, v, rfl, h2⟩ := s.sl.get h
  exact ⟨v, h1, h2⟩
theorem S.raw (s : S K E γ σ B H) {i : Nat} {v : V} (h : γ[i]? = some (.raw v)) : σ[i]? = some (some v) := by
  obtain ⟨o, h1, rfl⟩ := s.sl.get h
  exact h1
theorem S.own (s : S K E γ σ B H) {i : Nat} {ds : List PyData} (h : γ[i]? = some (.own ds)) : ∃ a vs, σ[i]? = some (some (.ref a)) ∧ E.2 a = none ∧ B a = none ∧ H a = some (.lst vs) ∧ DtL K B vs ds := by
  obtain ⟨o, h1, a, vs, rfl, h2⟩ := s.sl.get h
  exact ⟨a, vs, h1, h2⟩
theorem S.keys (s : S K E γ σ B H) {i : Nat} {ks : List Int} (h : γ[i]? = some (.keys ks)) : ∃ a, σ[i]? = some (some (.ref a)) ∧ E.2 a = none ∧ B a = none ∧ H a = some (keysV ks) := by
  obtain ⟨o, h1, a, rfl, h2⟩ := s.sl.get h
  exact ⟨a, h1, h2⟩
theorem S.set (s : S K E γ σ B H) {i : Nat} {d : PyData} {v : V} (h : Dt K B v d) : S K E (γ.set i (.dat d)) (σ.set i (some v)) B H := ⟨s.gr, Slots.set (s := .dat d) ⟨v, rfl, h⟩ i s.sl⟩
theorem S.setRaw (s : S K E γ σ B H) {i : Nat} {v : V} : S K E (γ.set i (.raw v)) (σ.set i (some v)) B H := ⟨s.gr, Slots.set (s := .raw v) rfl i s.sl⟩
theorem S.wipe (s : S K E γ σ B H) (vs : List Nat) : S K E (wipeG γ vs) (wipe σ vs) B H := ⟨s.gr, s.sl.wipe vs⟩
end

/-! ### evaluation -/
def tD (K : PySem.W.Frag) (E : Hp × Hp) (γ : List Slot) (d : PyData) : TE := fun σ H Q => ∃ B, S K E γ σ B H ∧ ∀ v B' H', Gr B H B' H' → Dt K B' v d → Q v H'
def tB' (K : PySem.W.Frag) (E : Hp × Hp) (γ : List Slot) (b : Bool) : TT := fun σ H Q => ∃ B, S K E γ σ B H ∧ ∀ B' H', Gr B H B' H' → Q b H'
def tA (K : PySem.W.Frag) (E : Hp × Hp) (γ : List Slot) (ds : List PyData) : TA := fun σ H Q => ∃ B, S K E γ σ B H ∧ ∀ vs B' H', Gr B H B' H' → DtL K B' vs ds → Q vs H'
inductive Res where
  | next (γ : List Slot)
  | ret (d : PyData)
/-- what is wanted behind a statement that ends so -/
def Fin (K : PySem.W.Frag) (E : Hp × Hp) (r : Res) (D : Ends) (B : Hp) : Prop :=
  match r with
  | .next γ' => ∀ σ' B' H', Same B B' → S K E γ' σ' B' H' → D.nx σ' H'
  | .ret d => ∀ v B' H', Gr E.1 E.2 B' H' → Dt K B' v d → D.rt v H'
theorem Fin.mono {K : PySem.W.Frag} {E : Hp × Hp} {D : Ends} {B B' : Hp} (e : Same B B') : ∀ {r : Res}, Fin K E r D B → Fin K E r D B'
  | .next _, q => fun σ2 B2 H2 e2 s2 => q σ2 B2 H2 (e.trans e2) s2
  | .ret _, q => q
def tR (K : PySem.W.Frag) (E : Hp × Hp) (γ : List Slot) (r : Res) : TS := fun D σ H => ∃ B, S K E γ σ B H ∧ Fin K E r D B
abbrev PD (X : Cx) (E : Hp × Hp) (γ : List Slot) (e : Expr) (d : PyData) : Prop := PE X e (tD X.K E γ d)
abbrev PB (X : Cx) (E : Hp × Hp) (γ : List Slot) (e : Expr) (b : Bool) : Prop := PT X e (tB' X.K E γ b)
abbrev PBW (X : Cx) (E : Hp × Hp) (γ : List Slot) (e : Expr) (b : Bool) : Prop := PW X e (tB' X.K E γ b)
abbrev PDs (X : Cx) (E : Hp × Hp) (γ : List Slot) (es : List Expr) (ds : List PyData) : Prop := PA X es (tA X.K E γ ds)
abbrev PR (X : Cx) (E : Hp × Hp) (γ : List Slot) (st : Stmt) (r : Res) : Prop := PS X st (tR X.K E γ r)
abbrev PRs (X : Cx) (E : Hp × Hp) (γ : List Slot) (st : List Stmt) (r : Res) : Prop := PSs X st (tR X.K E γ r)
section
variable {X : Cx}
theorem _root_.L2.PE.weak {e : Expr} {t t' : TE} (h : PE X e t) (k : ∀ σ H Q, t' σ H Q → t σ H Q) : PE X e t' := ⟨fun pins s σ H Q I q => h.run pins s σ H Q I (k σ H Q q)⟩
theorem _root_.L2.PT.weak {e : Expr} {t t' : TT} (h : PT X e t) (k : ∀ σ H Q, t' σ H Q → t σ H Q) : PT X e t' := ⟨fun pins s σ H Q I q => h.run pins s σ H Q I (k σ H Q q)⟩
theorem _root_.L2.PW.weak {e : Expr} {t t' : TT} (h : PW X e t) (k : ∀ σ H Q, t' σ H Q → t σ H Q) : PW X e t' := ⟨fun wh pins s σ H Q I q => h.run wh pins s σ H Q I (k σ H Q q)⟩
theorem _root_.L2.PA.weak {e : List Expr} {t t' : TA} (h : PA X e t) (k : ∀ σ H Q, t' σ H Q → t σ H Q) : PA X e t' := ⟨fun pos pins s σ H Q I q => h.run pos pins s σ H Q I (k σ H Q q)⟩
theorem _root_.L2.PS.weak {e : Stmt} {t t' : TS} (h : PS X e t) (k : ∀ D σ H, t' D σ H → t D σ H) : PS X e t' := ⟨fun pins s σ H D I q => h.run pins s σ H D I (k D σ H q)⟩
theorem _root_.L2.PSs.weak {e : List Stmt} {t t' : TS} (h : PSs X e t) (k : ∀ D σ H, t' D σ H → t D σ H) : PSs X e t' := ⟨fun pins s σ H D I q => h.run pins s σ H D I (k D σ H q)⟩
variable {E : Hp × Hp} {γ : List Slot} {pos : Pos} {a b c : Expr} {d d1 d2 : PyData}
/-- the value itself is another one, of equal words -/
theorem PD.is {d' : PyData} (h : PD X E γ a d) (e : d = d') : PD X E γ a d' := e ▸ h
theorem PB.is {k k' : Bool} (h : PB X E γ a k) (e : k = k') : PB X E γ a k' := e ▸ h
theorem PBW.is {k k' : Bool} (h : PBW X E γ a k) (e : k = k') : PBW X E γ a k' := e ▸ h
theorem PR.is {st : Stmt} {r r' : Res} (h : PR X E γ st r) (e : r = r') : PR X E γ st r' := e ▸ h
theorem PRs.is {st : List Stmt} {r r' : Res} (h : PRs X E γ st r) (e : r = r') : PRs X E γ st r' := e ▸ h
/-! names, constants -/
theorem dv (i : Nat) {x : Str} (hN : X.N[i]? = some x := by rfl) (hγ : γ[i]? = some (.dat d) := by rfl) (hv : Vis X.env.scope x := by first | exact Or.inl rfl | exact Or.inr (Or.inl rfl) | exact Or.inr (Or.inr rfl)) (hd : (x == ("__debug__" : Str)) = false := by decide)
    (hcd : (x == ("__classdict__" : Str)) = false := by decide) : PD X E γ (.Name x pos) d :=
  (pe_var hN hv hd hcd).weak fun σ H Q ⟨B, s, q⟩ => by
    obtain ⟨v, h1, h2⟩ := s.dat hγ
    exact ⟨v, h1, q v B H s.refl h2⟩
theorem di {i : Int} {j} : PD X E γ (.Constant (.int i) j pos) (.int i) := pe_int.weak fun _ _ _ ⟨B, s, q⟩ => q _ B _ s.refl (.int i)
theorem ds {x : Str} {j} : PD X E γ (.Constant (.str x) j pos) (.str x) := pe_str.weak fun _ _ _ ⟨B, s, q⟩ => q _ B _ s.refl (.str x)
theorem dbl {x : Bool} {j} : PD X E γ (.Constant (.bool x) j pos) (.bool x) := pe_bl.weak fun _ _ _ ⟨B, s, q⟩ => q _ B _ s.refl (.bl x)
theorem dnone {j} : PD X E γ (.Constant .none j pos) .none := pe_non.weak fun _ _ _ ⟨B, s, q⟩ => q _ B _ s.refl .non
/-- a constant of the module -/
structure Glb (K : PySem.W.Frag) (mg : Str → Option Value) (x : Str) (d : PyData) : Prop where
  ex : ∃ u v, mg x = some u ∧ RelV v u ∧ ∀ B, Dt K B v d
theorem dg {x : Str} (g : Glb X.K X.mg x d) (hg : Gl X x := by rfl) (hd : (x == ("__debug__" : Str)) = false := by decide) : PD X E γ (.Name x pos) d := by
  obtain ⟨u, v, hm, r, h⟩ := g.ex
  exact (pe_glob hg hm r hd).weak fun _ _ _ ⟨B, s, q⟩ => q v B _ s.refl (h B)

/-! two-place operations, by values and data -/
def OpD (K : PySem.W.Frag) (r : R2) (d1 d2 d : PyData) : Prop := ∀ (B H : Hp) (v w : V) (Q : VK), Same B H → Dt K B v d1 → Dt K B w d2 → (∀ u B' H', Gr B H B' H' → Dt K B' u d → Q u H') → r v w H Q
theorem tOp_of {r : R2} (o : OpD X.K r d1 d2 d) (σ : St) (H : Hp) (Q : VK) (h : tD X.K E γ d σ H Q) : tOp r (tD X.K E γ d1) (tD X.K E γ d2) σ H Q := by
  obtain ⟨B, s, q⟩ := h
  refine ⟨B, s, fun v B1 H1 g1 x1 => ?_⟩
  refine ⟨B1, s.up g1, fun w B2 H2 g2 x2 => ?_⟩
  exact o B2 H2 v w Q g2.bh (x1.up g2.bb) x2 fun u B3 H3 g3 x3 => q u B3 H3 (g1.trans (g2.trans g3)) x3
theorem d_op {op : Operator} {r : R2} (ho : OpR X (binaryOp op) r) (o : OpD X.K r d1 d2 d) (ha : PD X E γ a d1) (hb : PD X E γ b d2) : PD X E γ (.BinOp a op b pos) d := (pe_op ho ha hb).weak (tOp_of o)
theorem d_cmp {op : CmpOp} {r : R2} (ho : OpR X (compareOp op) r) (o : OpD X.K r d1 d2 d) (ha : PD X E γ a d1) (hb : PD X E γ b d2) (hm : behindInMarks op b = false := by first | exact nomark _ | rfl) : PD X E γ (.Compare a [op] [b] pos) d := (pe_cmpR ho ha hb hm).weak (tOp_of o)
theorem t_cmp {op : CmpOp} {r : R2} {k : Bool} (ho : OpR X (compareOp op) r) (o : OpD X.K r d1 d2 (.bool k)) (ha : PD X E γ a d1) (hb : PD X E γ b d2) (hm : behindInMarks op b = false := by first | exact nomark _ | rfl) : PB X E γ (.Compare a [op] [b] pos) k :=
  (pt_cmpR ho ha hb hm).weak fun σ H Q ⟨B, s, q⟩ => tOp_of o σ H _ ⟨B, s, fun v B' H' g x => by
    cases x
    exact ⟨k, rfl, q B' H' g⟩⟩
theorem d_ixR {r : R2} (hr : IxR X r) (o : OpD X.K r d1 d2 d) (ha : PD X E γ a d1) (hb : PD X E γ b d2) (hs : PlainIx b := by exact fun _ _ => rfl) : PD X E γ (.Subscript a b pos) d := (pe_ix hr ha hb hs).weak (tOp_of o)
theorem opd_I {g : Int → Int → V} {i j : Int} (h : ∀ (B : Hp), Dt X.K B (g i j) d) : OpD X.K (rI0 g) (.int i) (.int j) d := fun B H v w Q e x1 x2 q => by
  cases x1
  cases x2
  exact ⟨i, j, rfl, rfl, q _ B H (Gr.refl e) (h B)⟩
theorem opd_IC {C : Int → Int → Prop} {g : Int → Int → V} {i j : Int} (hc : C i j) (h : ∀ (B : Hp), Dt X.K B (g i j) d) : OpD X.K (rI C g) (.int i) (.int j) d := fun B H v w Q e x1 x2 q => by
  cases x1
  cases x2
  exact ⟨i, j, rfl, rfl, hc, q _ B H (Gr.refl e) (h B)⟩
section
variable {i j : Int}
theorem d_add {k_ : Int} (ha : PD X E γ a (.int i)) (hb : PD X E γ b (.int j)) (hk_ : (i + j) = k_ := by rfl) : PD X E γ (.BinOp a .Add b pos) (.int k_) := PD.is (d_op op_add (opd_I fun _ => .int _) ha hb) (congrArg _ hk_)
theorem d_sub {k_ : Int} (ha : PD X E γ a (.int i)) (hb : PD X E γ b (.int j)) (hk_ : (i - j) = k_ := by rfl) : PD X E γ (.BinOp a .Sub b pos) (.int k_) := PD.is (d_op op_sub (opd_I fun _ => .int _) ha hb) (congrArg _ hk_)
theorem d_lt {k_ : Bool} (ha : PD X E γ a (.int i)) (hb : PD X E γ b (.int j)) (hk_ : (decide (i < j)) = k_ := by rfl) : PD X E γ (.Compare a [.Lt] [b] pos) (.bool k_) := PD.is (d_cmp op_lt (opd_I fun _ => .bl _) ha hb) (congrArg _ hk_)
theorem d_ge {k_ : Bool} (ha : PD X E γ a (.int i)) (hb : PD X E γ b (.int j)) (hk_ : (decide (j ≤ i)) = k_ := by rfl) : PD X E γ (.Compare a [.GtE] [b] pos) (.bool k_) := PD.is (d_cmp op_ge (opd_I fun _ => .bl _) ha hb) (congrArg _ hk_)
theorem d_gt {k_ : Bool} (ha : PD X E γ a (.int i)) (hb : PD X E γ b (.int j)) (hk_ : (decide (j < i)) = k_ := by rfl) : PD X E γ (.Compare a [.Gt] [b] pos) (.bool k_) := PD.is (d_cmp op_gt (opd_I fun _ => .bl _) ha hb) (congrArg _ hk_)
theorem d_le {k_ : Bool} (ha : PD X E γ a (.int i)) (hb : PD X E γ b (.int j)) (hk_ : (decide (i ≤ j)) = k_ := by rfl) : PD X E γ (.Compare a [.LtE] [b] pos) (.bool k_) := PD.is (d_cmp op_le (opd_I fun _ => .bl _) ha hb) (congrArg _ hk_)
theorem t_lt {k_ : Bool} (ha : PD X E γ a (.int i)) (hb : PD X E γ b (.int j)) (hk_ : (decide (i < j)) = k_ := by rfl) : PB X E γ (.Compare a [.Lt] [b] pos) k_ := PB.is (t_cmp op_lt (opd_I fun _ => .bl _) ha hb) hk_
theorem t_ge {k_ : Bool} (ha : PD X E γ a (.int i)) (hb : PD X E γ b (.int j)) (hk_ : (decide (j ≤ i)) = k_ := by rfl) : PB X E γ (.Compare a [.GtE] [b] pos) k_ := PB.is (t_cmp op_ge (opd_I fun _ => .bl _) ha hb) hk_
theorem t_gt {k_ : Bool} (ha : PD X E γ a (.int i)) (hb : PD X E γ b (.int j)) (hk_ : (decide (j < i)) = k_ := by rfl) : PB X E γ (.Compare a [.Gt] [b] pos) k_ := PB.is (t_cmp op_gt (opd_I fun _ => .bl _) ha hb) hk_
theorem t_le {k_ : Bool} (ha : PD X E γ a (.int i)) (hb : PD X E γ b (.int j)) (hk_ : (decide (i ≤ j)) = k_ := by rfl) : PB X E γ (.Compare a [.LtE] [b] pos) k_ := PB.is (t_cmp op_le (opd_I fun _ => .bl _) ha hb) hk_
end
/-- == of flat values -/
def eqF : PyData → PyData → Option Bool
  | .none, .none => some true
  | .bool x, .bool y => some (decide (x = y))
  | .int x, .int y => some (decide (x = y))
  | .str x, .str y => some (decide (x = y))
  | _, _ => none
theorem opd_eq {k : Bool} (h : eqF d1 d2 = some k) : OpD X.K rEq d1 d2 (.bool k) := fun B H v w Q e x1 x2 q => by
  cases x1 <;> cases x2 <;> simp only [eqF, reduceCtorEq, Option.some.injEq] at h <;> refine ⟨by first | rfl | simp [scal], ?_⟩ <;> refine q _ B H (Gr.refl e) ?_ <;> subst h <;> first | exact .bl _ | (simp only [V.bl.injEq, V.int.injEq, V.str.injEq, decide_true]; exact .bl _)
theorem opd_ne {k : Bool} (h : eqF d1 d2 = some k) : OpD X.K rNe d1 d2 (.bool (!k)) := fun B H v w Q e x1 x2 q => by
  cases x1 <;> cases x2 <;> simp only [eqF, reduceCtorEq, Option.some.injEq] at h <;> refine ⟨by first | rfl | simp [scal], ?_⟩ <;> refine q _ B H (Gr.refl e) ?_ <;> subst h <;> first | exact .bl _ | (simp only [V.bl.injEq, V.int.injEq, V.str.injEq, decide_true]; exact .bl _)
theorem d_eq {k : Bool} (ha : PD X E γ a d1) (hb : PD X E γ b d2) (h : eqF d1 d2 = some k := by rfl) : PD X E γ (.Compare a [.Eq] [b] pos) (.bool k) := d_cmp op_eq (opd_eq h) ha hb
theorem t_eq {k : Bool} (ha : PD X E γ a d1) (hb : PD X E γ b d2) (h : eqF d1 d2 = some k := by rfl) : PB X E γ (.Compare a [.Eq] [b] pos) k := t_cmp op_eq (opd_eq h) ha hb
theorem d_ne {k_ : Bool} {k : Bool} (ha : PD X E γ a d1) (hb : PD X E γ b d2) (h : eqF d1 d2 = some k := by rfl) (hk_ : (!k) = k_ := by rfl) : PD X E γ (.Compare a [.NotEq] [b] pos) (.bool k_) := PD.is (d_cmp op_ne (opd_ne h) ha hb) (congrArg _ hk_)
theorem t_ne {k_ : Bool} {k : Bool} (ha : PD X E γ a d1) (hb : PD X E γ b d2) (h : eqF d1 d2 = some k := by rfl) (hk_ : (!k) = k_ := by rfl) : PB X E γ (.Compare a [.NotEq] [b] pos) k_ := PB.is (t_cmp op_ne (opd_ne h) ha hb) hk_
/-- == of data at any depth -/
theorem opd_eqD (s1 : SeqAt.shaped d1 = true) (s2 : SeqAt.shaped d2 = true) : OpD X.K (rEqD X.K) d1 d2 (.bool (PyData.eqv d1 d2)) := fun B H v w Q e x1 x2 q =>
  ⟨d1, d2, (x1.up e).dp, (x2.up e).dp, s1, s2, q _ B H (Gr.refl e) (.bl _)⟩
theorem opd_neD (s1 : SeqAt.shaped d1 = true) (s2 : SeqAt.shaped d2 = true) : OpD X.K (rNeD X.K) d1 d2 (.bool (!PyData.eqv d1 d2)) := fun B H v w Q e x1 x2 q =>
  ⟨d1, d2, (x1.up e).dp, (x2.up e).dp, s1, s2, q _ B H (Gr.refl e) (.bl _)⟩
theorem d_eqD {k_ : Bool} (hu : X.A.units + 64 < cLine) (ha : PD X E γ a d1) (hb : PD X E γ b d2) (s1 : SeqAt.shaped d1 = true) (s2 : SeqAt.shaped d2 = true) (hk_ : (PyData.eqv d1 d2) = k_ := by rfl) : PD X E γ (.Compare a [.Eq] [b] pos) (.bool k_) := PD.is (d_cmp (op_eqD hu) (opd_eqD s1 s2) ha hb) (congrArg _ hk_)
theorem t_eqD {k_ : Bool} (hu : X.A.units + 64 < cLine) (ha : PD X E γ a d1) (hb : PD X E γ b d2) (s1 : SeqAt.shaped d1 = true) (s2 : SeqAt.shaped d2 = true) (hk_ : (PyData.eqv d1 d2) = k_ := by rfl) : PB X E γ (.Compare a [.Eq] [b] pos) k_ := PB.is (t_cmp (op_eqD hu) (opd_eqD s1 s2) ha hb) hk_
theorem d_neD {k_ : Bool} (hu : X.A.units + 64 < cLine) (ha : PD X E γ a d1) (hb : PD X E γ b d2) (s1 : SeqAt.shaped d1 = true) (s2 : SeqAt.shaped d2 = true) (hk_ : (!PyData.eqv d1 d2) = k_ := by rfl) : PD X E γ (.Compare a [.NotEq] [b] pos) (.bool k_) := PD.is (d_cmp (op_neD hu) (opd_neD s1 s2) ha hb) (congrArg _ hk_)
theorem t_neD {k_ : Bool} (hu : X.A.units + 64 < cLine) (ha : PD X E γ a d1) (hb : PD X E γ b d2) (s1 : SeqAt.shaped d1 = true) (s2 : SeqAt.shaped d2 = true) (hk_ : (!PyData.eqv d1 d2) = k_ := by rfl) : PB X E γ (.Compare a [.NotEq] [b] pos) k_ := PB.is (t_cmp (op_neD hu) (opd_neD s1 s2) ha hb) hk_
/-- is None -/
def isN : PyData → Bool
  | .none => true
  | _ => false
theorem d_isN {k_ : Bool} {j p} (ha : PD X E γ a d) (hk_ : (isN d) = k_ := by rfl) : PD X E γ (.Compare a [.Is] [.Constant .none j p] pos) (.bool k_) := PD.is ((pe_cmp (pc_isN ha) (nomark _)).weak fun σ H Q ⟨B, s, q⟩ => ⟨B, s, fun v B' H' g x => q _ B' H' g (by cases x <;> exact .bl _)⟩) (congrArg _ hk_)
theorem t_isN {k_ : Bool} {j p} (ha : PD X E γ a d) (hk_ : (isN d) = k_ := by rfl) : PB X E γ (.Compare a [.Is] [.Constant .none j p] pos) k_ := PB.is ((pt_cmp (pc_isN ha) (nomark _)).weak fun σ H Q ⟨B, s, q⟩ => ⟨B, s, fun v B' H' g x => ⟨_, rfl, (by cases x <;> exact q B' H' g)⟩⟩) hk_
theorem d_notN {k_ : Bool} {j p} (ha : PD X E γ a d) (hk_ : (!isN d) = k_ := by rfl) : PD X E γ (.Compare a [.IsNot] [.Constant .none j p] pos) (.bool k_) := PD.is ((pe_cmp (pc_notN ha) (nomark _)).weak fun σ H Q ⟨B, s, q⟩ => ⟨B, s, fun v B' H' g x => q _ B' H' g (by cases x <;> exact .bl _)⟩) (congrArg _ hk_)
theorem t_notN {k_ : Bool} {j p} (ha : PD X E γ a d) (hk_ : (!isN d) = k_ := by rfl) : PB X E γ (.Compare a [.IsNot] [.Constant .none j p] pos) k_ := PB.is ((pt_cmp (pc_notN ha) (nomark _)).weak fun σ H Q ⟨B, s, q⟩ => ⟨B, s, fun v B' H' g x => ⟨_, rfl, (by cases x <;> exact q B' H' g)⟩⟩) hk_
/-- a value's truth as a test -/
theorem t_val {k : Bool} (h : PD X E γ a (.bool k)) (he : ∀ whole, isTrue a X.env whole = (do let v ← whole; standAt a.pos; holding [v] (truthy v)) := by intro _; rfl) : PB X E γ a k :=
  (pt_val h he).weak fun σ H Q ⟨B, s, q⟩ => ⟨B, s, fun v B' H' g x => by
    cases x
    exact ⟨k, rfl, q B' H' g⟩⟩
theorem t_truL {k_ : Bool} {ds : List PyData} (h : PD X E γ a (.list ds)) (he : ∀ whole, isTrue a X.env whole = (do let v ← whole; standAt a.pos; holding [v] (truthy v)) := by intro _; rfl) (hk_ : (!ds.isEmpty) = k_ := by rfl) : PB X E γ a k_ := PB.is ((pt_truth h he).weak fun σ H Q ⟨B, s, q⟩ => ⟨B, s, fun v B' H' g x => by
    cases x with
    | lst h1 h2 => exact ⟨_, .inl ⟨_, SqL.of (g.bh _ _ h1), rfl⟩, (by cases h2 <;> exact q B' H' g)⟩⟩) hk_
theorem t_truT {k_ : Bool} {ds : List PyData} (h : PD X E γ a (.tuple ds)) (he : ∀ whole, isTrue a X.env whole = (do let v ← whole; standAt a.pos; holding [v] (truthy v)) := by intro _; rfl) (hk_ : (!ds.isEmpty) = k_ := by rfl) : PB X E γ a k_ := PB.is ((pt_truth h he).weak fun σ H Q ⟨B, s, q⟩ => ⟨B, s, fun v B' H' g x => by
    cases x with
    | tup h1 h2 => exact ⟨_, .inr (.inl ⟨_, same_sqt g.bh h1, rfl⟩), (by cases h2 <;> exact q B' H' g)⟩⟩) hk_
/-! and, or, not, if else -/
variable {k1 k2 : Bool} {rest : List Expr}
theorem t_not {k_ : Bool} (h : PB X E γ a k1) (hk_ : (!k1) = k_ := by rfl) : PB X E γ (.UnaryOp .Not a pos) k_ := PB.is ((pt_not h).weak fun σ H Q ⟨B, s, q⟩ => ⟨B, s, q⟩) hk_
theorem t_and1 (h : PB X E γ a k1) : PBW X E γ (.BoolOp .And [a] pos) k1 := pw_and1 h
theorem t_or1 (h : PB X E γ a k1) : PBW X E γ (.BoolOp .Or [a] pos) k1 := pw_or1 h
theorem tB_and {t u : TT} (ht : t = tB' X.K E γ true) (hu : u = tB' X.K E γ k2) (σ : St) (H : Hp) (Q : Bool → Hp → Prop) (h : tB' X.K E γ k2 σ H Q) : tAnd t u σ H Q := by
  subst ht hu
  obtain ⟨B, s, q⟩ := h
  exact ⟨B, s, fun B1 H1 g1 => iteT ⟨B1, s.up g1, fun B2 H2 g2 => q B2 H2 (g1.trans g2)⟩⟩
theorem t_andT (h : PB X E γ a true) (h2 : PBW X E γ (.BoolOp .And (b :: rest) pos) k2) : PBW X E γ (.BoolOp .And (a :: b :: rest) pos) k2 := (pw_and h h2).weak (tB_and rfl rfl)
theorem pw_never {op : BoolOp} : PW X (.BoolOp op (b :: rest) pos) (fun _ _ _ => False) := ⟨fun _ _ _ _ _ _ _ h => h.elim⟩
theorem t_andF (h : PB X E γ a false) : PBW X E γ (.BoolOp .And (a :: b :: rest) pos) false := (pw_and h pw_never).weak fun σ H Q ⟨B, s, q⟩ => ⟨B, s, fun B1 H1 g1 => iteF (q B1 H1 g1)⟩
theorem t_orT (h : PB X E γ a true) : PBW X E γ (.BoolOp .Or (a :: b :: rest) pos) true := (pw_or h pw_never).weak fun σ H Q ⟨B, s, q⟩ => ⟨B, s, fun B1 H1 g1 => iteT (q B1 H1 g1)⟩
theorem t_orF (h : PB X E γ a false) (h2 : PBW X E γ (.BoolOp .Or (b :: rest) pos) k2) : PBW X E γ (.BoolOp .Or (a :: b :: rest) pos) k2 := (pw_or h h2).weak fun σ H Q ⟨B, s, q⟩ => ⟨B, s, fun B1 H1 g1 => by
  refine iteF ?_
  exact ⟨B1, s.up g1, fun B2 H2 g2 => q B2 H2 (g1.trans g2)⟩⟩
theorem t_and {k_ : Bool} (h : PB X E γ a k1) (h2 : k1 = true → PBW X E γ (.BoolOp .And (b :: rest) pos) k2) (hk_ : (k1 && k2) = k_ := by rfl) : PBW X E γ (.BoolOp .And (a :: b :: rest) pos) k_ := by
  refine PBW.is ?_ hk_
  cases k1 with
  | true => exact t_andT h (h2 rfl)
  | false => exact t_andF h
theorem t_or {k_ : Bool} (h : PB X E γ a k1) (h2 : k1 = false → PBW X E γ (.BoolOp .Or (b :: rest) pos) k2) (hk_ : (k1 || k2) = k_ := by rfl) : PBW X E γ (.BoolOp .Or (a :: b :: rest) pos) k_ := by
  refine PBW.is ?_ hk_
  cases k1 with
  | true => exact t_orT h
  | false => exact t_orF h (h2 rfl)
/-- .. as values, all of them bools -/
theorem d_one {op} (h : PD X E γ a d) : PD X E γ (.BoolOp op [a] pos) d := pe_one h
theorem pe_never {e : Expr} : PE X e (fun _ _ _ => False) := ⟨fun _ _ _ _ _ _ h => h.elim⟩
theorem d_andT (h : PD X E γ a (.bool true)) (h2 : PD X E γ (.BoolOp .And (b :: rest) pos) d) : PD X E γ (.BoolOp .And (a :: b :: rest) pos) d := (pe_and h h2).weak fun σ H Q ⟨B, s, q⟩ => ⟨B, s, fun v B1 H1 g1 x => by
  cases x
  exact ⟨true, rfl, iteT ⟨B1, s.up g1, fun u B2 H2 g2 y => q u B2 H2 (g1.trans g2) y⟩⟩⟩
theorem d_andF (h : PD X E γ a (.bool false)) : PD X E γ (.BoolOp .And (a :: b :: rest) pos) (.bool false) := (pe_and h pe_never).weak fun σ H Q ⟨B, s, q⟩ => ⟨B, s, fun v B1 H1 g1 x => by
  cases x
  exact ⟨false, rfl, iteF (q _ B1 H1 g1 (.bl false))⟩⟩
theorem d_orF (h : PD X E γ a (.bool false)) (h2 : PD X E γ (.BoolOp .Or (b :: rest) pos) d) : PD X E γ (.BoolOp .Or (a :: b :: rest) pos) d := (pe_or h h2).weak fun σ H Q ⟨B, s, q⟩ => ⟨B, s, fun v B1 H1 g1 x => by
  cases x
  exact ⟨false, rfl, iteF ⟨B1, s.up g1, fun u B2 H2 g2 y => q u B2 H2 (g1.trans g2) y⟩⟩⟩
theorem d_orT (h : PD X E γ a (.bool true)) : PD X E γ (.BoolOp .Or (a :: b :: rest) pos) (.bool true) := (pe_or h pe_never).weak fun σ H Q ⟨B, s, q⟩ => ⟨B, s, fun v B1 H1 g1 x => by
  cases x
  exact ⟨true, rfl, iteT (q _ B1 H1 g1 (.bl true))⟩⟩
theorem d_and {k_ : Bool} (h : PD X E γ a (.bool k1)) (h2 : k1 = true → PD X E γ (.BoolOp .And (b :: rest) pos) (.bool k2)) (hk_ : (k1 && k2) = k_ := by rfl) : PD X E γ (.BoolOp .And (a :: b :: rest) pos) (.bool k_) := PD.is (by
  cases k1 with
  | true => exact d_andT h (h2 rfl)
  | false => exact d_andF h) (congrArg _ hk_)
theorem d_or {k_ : Bool} (h : PD X E γ a (.bool k1)) (h2 : k1 = false → PD X E γ (.BoolOp .Or (b :: rest) pos) (.bool k2)) (hk_ : (k1 || k2) = k_ := by rfl) : PD X E γ (.BoolOp .Or (a :: b :: rest) pos) (.bool k_) := PD.is (by
  cases k1 with
  | true => exact d_orT h
  | false => exact d_orF h (h2 rfl)) (congrArg _ hk_)
theorem d_not {k_ : Bool} (h : PD X E γ a (.bool k1)) (hk_ : (!k1) = k_ := by rfl) : PD X E γ (.UnaryOp .Not a pos) (.bool k_) := PD.is ((pe_not h).weak fun σ H Q ⟨B, s, q⟩ => ⟨B, s, fun v B1 H1 g1 x => by
  cases x
  exact ⟨k1, rfl, q _ B1 H1 g1 (.bl _)⟩⟩) (congrArg _ hk_)
theorem d_ifT (hc : PB X E γ c true) (ha : PD X E γ a d) : PD X E γ (.IfExp c a b pos) d := (pe_ifExp hc ha pe_never).weak fun σ H Q ⟨B, s, q⟩ => ⟨B, s, fun B1 H1 g1 => by
  refine iteT ?_
  exact ⟨B1, s.up g1, fun u B2 H2 g2 y => q u B2 H2 (g1.trans g2) y⟩⟩
theorem d_ifF (hc : PB X E γ c false) (hb : PD X E γ b d) : PD X E γ (.IfExp c a b pos) d := (pe_ifExp hc pe_never hb).weak fun σ H Q ⟨B, s, q⟩ => ⟨B, s, fun B1 H1 g1 => by
  refine iteF ?_
  exact ⟨B1, s.up g1, fun u B2 H2 g2 y => q u B2 H2 (g1.trans g2) y⟩⟩
theorem d_if (hc : PB X E γ c k1) (ha : k1 = true → PD X E γ a d1) (hb : k1 = false → PD X E γ b d2) : PD X E γ (.IfExp c a b pos) (if k1 = true then d1 else d2) := by
  cases k1 with
  | true => exact d_ifT hc (ha rfl)
  | false => exact d_ifF hc (hb rfl)
/-! argument lists, displays -/
variable {es : List Expr} {l : List PyData}
theorem a_nil : PDs X E γ [] [] := pa_nil.weak fun σ H Q ⟨B, s, q⟩ => q [] B H s.refl .nil
theorem a_cons (ha : PD X E γ a d) (h : PDs X E γ es l) (hs : starEach (a :: es) X.env = (false, eval a X.env) :: starEach es X.env := by rfl) : PDs X E γ (a :: es) (d :: l) :=
  (pa_cons ha h hs).weak fun σ H Q ⟨B, s, q⟩ => ⟨B, s, fun v B1 H1 g1 x1 => ⟨B1, s.up g1, fun vs B2 H2 g2 x2 => q _ B2 H2 (g1.trans g2) (.cons (x1.up g2.bb) x2)⟩⟩
theorem sizeLine_is : sizeLine = 16777216 := sizeLine_eq
theorem d_tup {x1} (h : PDs X E γ es l) (hz : l.length ≤ sizeLine := by exact Nat.le_of_ble_eq_true rfl) : PD X E γ (.Tuple es x1 pos) (.tuple l) :=
  (pe_tup h).weak fun σ H Q ⟨B, s, q⟩ => ⟨B, s, fun vs B1 H1 g1 x1 => ⟨by rw [x1.length]; exact hz, fun p hp => by
    have g2 := Gr.new g1.bh hp (.tup vs)
    exact q _ _ _ (g1.trans g2) (.tup (SqT.of upd_same) (x1.up g2.bb))⟩⟩
theorem d_lst (h : PDs X E γ es l) (hz : l.length ≤ sizeLine := by exact Nat.le_of_ble_eq_true rfl) : PD X E γ (.List es pos) (.list l) :=
  (pe_lst h).weak fun σ H Q ⟨B, s, q⟩ => ⟨B, s, fun vs B1 H1 g1 x1 => ⟨by rw [x1.length]; exact hz, fun p hp => by
    have g2 := Gr.new g1.bh hp (.lst vs)
    exact q _ _ _ (g1.trans g2) (.lst upd_same (x1.up g2.bb))⟩⟩
/-! items -/
theorem atI_len {α β : Type} {xs : List α} {ys : List β} (h : xs.length = ys.length) (i : Int) : ixN xs.length i = ixN ys.length i := by rw [h]
theorem DtL.at {K : PySem.W.Frag} {B : Hp} {vs : List V} {ds : List PyData} {i : Int} {d : PyData} (h : DtL K B vs ds) (e : atI ds i = some d) : ∃ v, atI vs i = some v ∧ Dt K B v d := by
  unfold atI at e ⊢
  rw [h.length]
  cases q : ixN ds.length i with
  | none => rw [q] at e; cases e
  | some j =>
    rw [q] at e
    exact h.get e
theorem opd_ixT {i : Int} {ds : List PyData} (e : atI ds i = some d) : OpD X.K (rIxT X.K) (.tuple ds) (.int i) d := fun B H v w Q bh x1 x2 q => by
  cases x2
  cases x1 with
  | tup h1 h2 =>
    obtain ⟨u, hu, du⟩ := h2.at e
    exact ⟨_, _, i, u, rfl, rfl, same_sqt bh h1, hu, q u B H (Gr.refl bh) du⟩
theorem opd_ixL {i : Int} {ds : List PyData} (e : atI ds i = some d) : OpD X.K (rIxL X.K) (.list ds) (.int i) d := fun B H v w Q bh x1 x2 q => by
  cases x2
  cases x1 with
  | lst h1 h2 =>
    obtain ⟨u, hu, du⟩ := h2.at e
    exact ⟨_, _, i, u, rfl, rfl, SqL.of (bh _ _ h1), hu, q u B H (Gr.refl bh) du⟩
theorem d_ixT {i : Int} {ds : List PyData} (ha : PD X E γ a (.tuple ds)) (hb : PD X E γ b (.int i)) (e : atI ds i = some d := by rfl) (hs : PlainIx b := by exact fun _ _ => rfl) : PD X E γ (.Subscript a b pos) d := d_ixR ix_tup (opd_ixT e) ha hb hs
theorem d_ixL {i : Int} {ds : List PyData} (ha : PD X E γ a (.list ds)) (hb : PD X E γ b (.int i)) (e : atI ds i = some d := by rfl) (hs : PlainIx b := by exact fun _ _ => rfl) : PD X E γ (.Subscript a b pos) d := d_ixR ix_list (opd_ixL e) ha hb hs
/-! in, not in: flat items -/
def flatD : PyData → Bool
  | .none => true
  | .bool _ => true
  | .int _ => true
  | .str _ => true
  | _ => false
theorem flat_of {K : PySem.W.Frag} {B : Hp} {v : V} {d : PyData} (h : Dt K B v d) (f : flatD d = true) : flatV v = true := by
  cases h <;> first | rfl | cases f
theorem eqV_of {K : PySem.W.Frag} {B : Hp} {v w : V} {d e : PyData} (h : Dt K B v d) (h' : Dt K B w e) (f : flatD d = true) (f' : flatD e = true) : eqV v w = PyData.eqv d e := by
  cases h <;> cases h' <;> first | rfl | cases f | cases f' | (simp [eqV, PyData.eqv]) | skip
def inD (d : PyData) (l : List PyData) : Bool := l.any fun z => PyData.eqv z d
theorem inV_of {K : PySem.W.Frag} {B : Hp} {v : V} {d : PyData} (h : Dt K B v d) (f : flatD d = true) : ∀ {vs : List V} {l : List PyData}, DtL K B vs l → l.all flatD = true → inV v vs = inD d l
  | _, _, .nil, _ => rfl
  | _, _, .cons h1 h2, fl => by
    rw [List.all_cons, Bool.and_eq_true] at fl
    have ih := inV_of h f h2 fl.2
    unfold inV inD at ih ⊢
    rw [List.any_cons, List.any_cons, ih, eqV_of h1 h fl.1 f]
theorem allFlat {K : PySem.W.Frag} {B : Hp} : ∀ {vs : List V} {l : List PyData}, DtL K B vs l → l.all flatD = true → vs.all flatV = true
  | _, _, .nil, _ => rfl
  | _, _, .cons h1 h2, fl => by
    rw [List.all_cons, Bool.and_eq_true] at fl
    rw [List.all_cons, flat_of h1 fl.1, allFlat h2 fl.2]; rfl
theorem opd_inT {neg : Bool} (f : flatD d = true) (fl : l.all flatD = true) : OpD X.K (rIn X.K neg) d (.tuple l) (.bool (if neg then !inD d l else inD d l)) := fun B H v w Q bh x1 x2 q => by
  cases x2 with
  | tup h1 h2 =>
    refine ⟨_, _, rfl, .inr (same_sqt bh h1), flat_of x1 f, allFlat h2 fl, ?_⟩
    rw [inV_of x1 f h2 fl]
    exact q _ B H (Gr.refl bh) (.bl _)
theorem opd_inL {neg : Bool} (f : flatD d = true) (fl : l.all flatD = true) : OpD X.K (rIn X.K neg) d (.list l) (.bool (if neg then !inD d l else inD d l)) := fun B H v w Q bh x1 x2 q => by
  cases x2 with
  | lst h1 h2 =>
    refine ⟨_, _, rfl, .inl (SqL.of (bh _ _ h1)), flat_of x1 f, allFlat h2 fl, ?_⟩
    rw [inV_of x1 f h2 fl]
    exact q _ B H (Gr.refl bh) (.bl _)
theorem d_inT {k_ : Bool} (ha : PD X E γ a d) (hb : PD X E γ b (.tuple l)) (f : flatD d = true := by rfl) (fl : l.all flatD = true := by rfl) (hm : behindInMarks .In b = false := by rfl) (hk_ : (inD d l) = k_ := by rfl) : PD X E γ (.Compare a [.In] [b] pos) (.bool k_) := PD.is (d_cmp op_in_seq (opd_inT (neg := false) f fl) ha hb hm) (congrArg _ hk_)
theorem d_inL {k_ : Bool} (ha : PD X E γ a d) (hb : PD X E γ b (.list l)) (f : flatD d = true := by rfl) (fl : l.all flatD = true := by rfl) (hm : behindInMarks .In b = false := by rfl) (hk_ : (inD d l) = k_ := by rfl) : PD X E γ (.Compare a [.In] [b] pos) (.bool k_) := PD.is (d_cmp op_in_seq (opd_inL (neg := false) f fl) ha hb hm) (congrArg _ hk_)
theorem d_ninT {k_ : Bool} (ha : PD X E γ a d) (hb : PD X E γ b (.tuple l)) (f : flatD d = true := by rfl) (fl : l.all flatD = true := by rfl) (hm : behindInMarks .NotIn b = false := by rfl) (hk_ : (!inD d l) = k_ := by rfl) : PD X E γ (.Compare a [.NotIn] [b] pos) (.bool k_) := PD.is (d_cmp op_notIn_seq (opd_inT (neg := true) f fl) ha hb hm) (congrArg _ hk_)
theorem d_ninL {k_ : Bool} (ha : PD X E γ a d) (hb : PD X E γ b (.list l)) (f : flatD d = true := by rfl) (fl : l.all flatD = true := by rfl) (hm : behindInMarks .NotIn b = false := by rfl) (hk_ : (!inD d l) = k_ := by rfl) : PD X E γ (.Compare a [.NotIn] [b] pos) (.bool k_) := PD.is (d_cmp op_notIn_seq (opd_inL (neg := true) f fl) ha hb hm) (congrArg _ hk_)
theorem t_inT {k_ : Bool} (ha : PD X E γ a d) (hb : PD X E γ b (.tuple l)) (f : flatD d = true := by rfl) (fl : l.all flatD = true := by rfl) (hm : behindInMarks .In b = false := by rfl) (hk_ : (inD d l) = k_ := by rfl) : PB X E γ (.Compare a [.In] [b] pos) k_ := PB.is (t_cmp op_in_seq (opd_inT (neg := false) f fl) ha hb hm) hk_
theorem t_inL {k_ : Bool} (ha : PD X E γ a d) (hb : PD X E γ b (.list l)) (f : flatD d = true := by rfl) (fl : l.all flatD = true := by rfl) (hm : behindInMarks .In b = false := by rfl) (hk_ : (inD d l) = k_ := by rfl) : PB X E γ (.Compare a [.In] [b] pos) k_ := PB.is (t_cmp op_in_seq (opd_inL (neg := false) f fl) ha hb hm) hk_
theorem t_ninT {k_ : Bool} (ha : PD X E γ a d) (hb : PD X E γ b (.tuple l)) (f : flatD d = true := by rfl) (fl : l.all flatD = true := by rfl) (hm : behindInMarks .NotIn b = false := by rfl) (hk_ : (!inD d l) = k_ := by rfl) : PB X E γ (.Compare a [.NotIn] [b] pos) k_ := PB.is (t_cmp op_notIn_seq (opd_inT (neg := true) f fl) ha hb hm) hk_
theorem t_ninL {k_ : Bool} (ha : PD X E γ a d) (hb : PD X E γ b (.list l)) (f : flatD d = true := by rfl) (fl : l.all flatD = true := by rfl) (hm : behindInMarks .NotIn b = false := by rfl) (hk_ : (!inD d l) = k_ := by rfl) : PB X E γ (.Compare a [.NotIn] [b] pos) k_ := PB.is (t_cmp op_notIn_seq (opd_inL (neg := true) f fl) ha hb hm) hk_
/-! + of tuples, of lists -/
theorem DtL.nil_iff {K : PySem.W.Frag} {B : Hp} {vs : List V} {l : List PyData} (h : DtL K B vs l) : vs = [] ↔ l = [] := by
  cases h with
  | nil => simp
  | cons _ _ => simp
variable {l2 : List PyData}
theorem opd_catT (hz : l.length + l2.length ≤ sizeLine) : OpD X.K (rCatA X.K) (.tuple l) (.tuple l2) (.tuple (l ++ l2)) := fun B H v w Q bh x1 x2 q => by
  cases x1 with
  | tup h1 y1 =>
    cases x2 with
    | tup h2 y2 =>
      refine ⟨_, _, _, _, rfl, rfl, same_sqt bh h1, same_sqt bh h2, by rw [y1.length, y2.length]; exact hz, fun z => ?_, fun z z2 => ?_, fun z z2 p hp => ?_⟩
      · subst z
        cases y1
        exact q _ B H (Gr.refl bh) (.tup h2 y2)
      · subst z2
        cases y2
        rw [List.append_nil] at q
        exact q _ B H (Gr.refl bh) (.tup h1 y1)
      · exact q _ _ _ (Gr.new bh hp _) (.tup (SqT.of upd_same) ((y1.append y2).up (Gr.new bh hp _).bb))
theorem d_catT {k_ : List PyData} (ha : PD X E γ a (.tuple l)) (hb : PD X E γ b (.tuple l2)) (hz : l.length + l2.length ≤ sizeLine) (hk_ : (l ++ l2) = k_ := by rfl) : PD X E γ (.BinOp a .Add b pos) (.tuple k_) := PD.is (d_op op_catA (opd_catT hz) ha hb) (congrArg _ hk_)
theorem opd_catL (hz : l.length + l2.length ≤ sizeLine) : OpD X.K rCat (.list l) (.list l2) (.list (l ++ l2)) := fun B H v w Q bh x1 x2 q => by
  cases x1 with
  | lst h1 y1 =>
    cases x2 with
    | lst h2 y2 =>
      refine ⟨_, _, _, _, rfl, rfl, bh _ _ h1, bh _ _ h2, by rw [y1.length, y2.length]; exact hz, fun p hp => ?_⟩
      exact q _ _ _ (Gr.new bh hp _) (.lst upd_same ((y1.append y2).up (Gr.new bh hp _).bb))
theorem d_catL {k_ : List PyData} (ha : PD X E γ a (.list l)) (hb : PD X E γ b (.list l2)) (hz : l.length + l2.length ≤ sizeLine) (hk_ : (l ++ l2) = k_ := by rfl) : PD X E γ (.BinOp a .Add b pos) (.list k_) := PD.is (d_op op_cat (opd_catL hz) ha hb) (congrArg _ hk_)
/-! calls of built-ins -/
def CalD (K : PySem.W.Frag) (r : List V → Hp → VK → Prop) (ds : List PyData) (d : PyData) : Prop := ∀ (B H : Hp) (vs : List V) (Q : VK), Same B H → DtL K B vs ds → (∀ u B' H', Gr B H B' H' → Dt K B' u d → Q u H') → r vs H Q
theorem tCB_of {r : List V → Hp → VK → Prop} (o : CalD X.K r l d) (σ : St) (H : Hp) (Q : VK) (h : tD X.K E γ d σ H Q) : tCB r (tA X.K E γ l) σ H Q := by
  obtain ⟨B, s, q⟩ := h
  exact ⟨B, s, fun vs B1 H1 g1 x1 => o B1 H1 vs Q g1.bh x1 fun u B2 H2 g2 x2 => q u B2 H2 (g1.trans g2) x2⟩
theorem d_callB {x : Str} {id : String} {e : Expr} {p : Pos} {r : List V → Hp → VK → Prop} (hc : CallR X (.builtin id) r) (o : CalD X.K r l d) (hm : X.mg x = none) (ha : PDs X E γ (e :: es) l) (hv : bootBuiltins x = some (.builtin id)) (hg : Gl X x := by rfl)
    (hn : x ≠ "__name__" := by decide) (hdb : (x == ("__debug__" : Str)) = false := by decide) (he : starEach (e :: es) X.env = (false, eval e X.env) :: starEach es X.env := by rfl) (hpl : (backTo pos (starEach es X.env)).any (·.1) = false := by rfl) : PD X E γ (.Call (.Name x p) (e :: es) [] pos) d :=
  (pe_callB hc hg hm hv ha hn hdb he hpl).weak (tCB_of o)
theorem d_callTy {x : Str} {T : String} {e : Expr} {p : Pos} {r : List V → Hp → VK → Prop} (hc : CallR X (.type T) r) (o : CalD X.K r l d) (hm : X.mg x = none) (ha : PDs X E γ (e :: es) l) (hv : bootBuiltins x = some (.type T)) (hg : Gl X x := by rfl)
    (hn : x ≠ "__name__" := by decide) (hdb : (x == ("__debug__" : Str)) = false := by decide) (he : starEach (e :: es) X.env = (false, eval e X.env) :: starEach es X.env := by rfl) (hpl : (backTo pos (starEach es X.env)).any (·.1) = false := by rfl) : PD X E γ (.Call (.Name x p) (e :: es) [] pos) d :=
  (pe_callTy hc hg hm hv ha hn hdb he hpl).weak (tCB_of o)

/-! the built-ins that are called -/
section
variable {x : Str} {p : Pos} {e e2 : Expr}
theorem dtl1 {K : PySem.W.Frag} {B : Hp} {vs : List V} {d : PyData} (h : DtL K B vs [d]) : ∃ v, vs = [v] ∧ Dt K B v d := by
  cases h with
  | cons h1 h2 => cases h2; exact ⟨_, rfl, h1⟩
theorem dtl2 {K : PySem.W.Frag} {B : Hp} {vs : List V} {d d' : PyData} (h : DtL K B vs [d, d']) : ∃ v w, vs = [v, w] ∧ Dt K B v d ∧ Dt K B w d' := by
  cases h with
  | cons h1 h2 =>
    obtain ⟨w, rfl, h3⟩ := dtl1 h2
    exact ⟨_, _, rfl, h1, h3⟩
/-- len -/
def seqOf : PyData → Option (List PyData)
  | .list l => some l
  | .tuple l => some l
  | _ => none
theorem cald_len (h : seqOf d = some l) : CalD X.K (fun xs H Q => ∃ p ys, xs = [.ref p] ∧ (SqL X.K H p ys ∨ SqT X.K H p ys) ∧ Q (.int ys.length) H) [d] (.int l.length) := fun B H vs Q bh x q => by
  obtain ⟨v, rfl, x1⟩ := dtl1 x
  cases x1 with
  | lst h1 h2 =>
    have e := Option.some.inj h
    subst e
    refine ⟨_, _, rfl, .inl (SqL.of (bh _ _ h1)), ?_⟩
    rw [h2.length]
    exact q _ B H (Gr.refl bh) (.int _)
  | tup h1 h2 =>
    have e := Option.some.inj h
    subst e
    refine ⟨_, _, rfl, .inr (same_sqt bh h1), ?_⟩
    rw [h2.length]
    exact q _ B H (Gr.refl bh) (.int _)
  | _ => cases h
theorem d_len {k_ : Int} (hm : X.mg "len" = none) (h : PD X E γ e d) (hs : seqOf d = some l := by rfl) (hg : Gl X "len" := by rfl) (hst : starEach [e] X.env = (false, eval e X.env) :: starEach [] X.env := by rfl) (hk_ : l.length = k_ := by rfl) : PD X E γ (.Call (.Name "len" p) [e] [] pos) (.int k_) := PD.is (d_callB call_len_seq (cald_len hs) hm (a_cons h a_nil hst) PySem.boot_len hg (he := hst)) (congrArg _ hk_)
/-- isinstance with a built-in class -/
def tyD : PyData → String
  | .none => "NoneType"
  | .bool _ => "bool"
  | .int _ => "int"
  | .str _ => "str"
  | .list _ => "list"
  | .tuple _ => "tuple"
  | .dict _ => "dict"
theorem tyx_of {K : PySem.W.Frag} {B H : Hp} {v : V} (bh : Same B H) (h : Dt K B v d) : TyX K H v (.type (tyD d)) := by
  cases h with
  | non => exact .base .non
  | bl b => exact .base (.bl b)
  | int i => exact .base (.int i)
  | str z => exact .base (.str z)
  | lst h1 _ => exact .base (.lst (bh _ _ h1))
  | tup h1 _ =>
    rcases h1 with h1 | ⟨o, its, n, h1, h2, _⟩
    · rcases h1 with h1 | ⟨o, h1⟩
      · exact .base (.tup (bh _ _ h1))
      · exact .fTuple (bh _ _ h1)
    · exact .kTuple h1 h2
theorem d_isi {T : String} {k : Bool} (hm : X.mg "isinstance" = none) (hT : X.mg (Str.ofString T) = none) (h : PD X E γ e d) (hk : kitB (tyD d) T = some k) {p2 : Pos} (hv : bootBuiltins (Str.ofString T) = some (.type T)) (hg : Gl X "isinstance" := by rfl) (hg2 : Gl X (Str.ofString T) := by rfl)
    (hn : (Str.ofString T) ≠ "__name__" := by decide) (hd : ((Str.ofString T) == ("__debug__" : Str)) = false := by decide)
    (hst : starEach [e, .Name (Str.ofString T) p2] X.env = (false, eval e X.env) :: starEach [.Name (Str.ofString T) p2] X.env := by rfl) (hst2 : starEach [.Name (Str.ofString T) p2] X.env = (false, eval (.Name (Str.ofString T) p2) X.env) :: starEach [] X.env := by rfl)
    (hpl : (backTo pos (starEach [.Name (Str.ofString T) p2] X.env)).any (·.1) = false := by rfl) : PD X E γ (.Call (.Name "isinstance" p) [e, .Name (Str.ofString T) p2] [] pos) (.bool k) := by
  have h2 : PE X (.Name (Str.ofString T) p2) (tC (.ty T)) := pe_bltn (v := .ty T) hg2 hT hv rfl hn hd
  refine PE.weak (pe_callB call_isi hg hm (by decide +kernel) (pa_cons h (pa_cons h2 pa_nil hst2) hst) (he := hst) (hpl := hpl)) fun σ H Q ⟨B, s, q⟩ => ?_
  exact ⟨B, s, fun v B' H' g y => ⟨v, .ty T, _, _, k, rfl, .ty T, tyx_of g.bh y, kit_ty hk, q _ B' H' g (.bl k)⟩⟩
/-- all, any over a list of bools -/
theorem cald_all {bs : List Bool} : CalD X.K (rAll X.K) [.list (bs.map .bool)] (.bool (bs.all id)) := fun B H vs Q bh y q => by
  obtain ⟨v, rfl, x1⟩ := dtl1 y
  cases x1 with
  | lst h1 h2 =>
    have e := h2.bools
    subst e
    exact ⟨_, bs, rfl, SqL.of (bh _ _ h1), q _ B H (Gr.refl bh) (.bl _)⟩
theorem d_all {k_ : Bool} {bs : List Bool} (hc : X.calm = true) (hm : X.mg "all" = none) (h : PD X E γ e (.list (bs.map .bool))) (hg : Gl X "all" := by rfl) (hst : starEach [e] X.env = (false, eval e X.env) :: starEach [] X.env := by rfl) (hk_ : (bs.all id) = k_ := by rfl) : PD X E γ (.Call (.Name "all" p) [e] [] pos) (.bool k_) := PD.is (d_callB (cr_all hc) cald_all hm (a_cons h a_nil hst) (by decide +kernel) hg (he := hst)) (congrArg _ hk_)
/-- tuple(..) of a list, of a tuple -/
theorem d_tuple (hm : X.mg "tuple" = none) (h : PD X E γ e d) (hs : seqOf d = some l := by rfl) (hg : Gl X "tuple" := by rfl) (hst : starEach [e] X.env = (false, eval e X.env) :: starEach [] X.env := by rfl) : PD X E γ (.Call (.Name "tuple" p) [e] [] pos) (.tuple l) :=
  (pe_tupleOf hg hm h hst).weak fun σ H Q ⟨B, s, q⟩ => ⟨B, s, fun v B' H' g y => by
    cases y with
    | lst h1 h2 =>
      have e := Option.some.inj hs
      subst e
      refine .inl ⟨_, _, rfl, SqL.of (g.bh _ _ h1), fun p hp => ?_⟩
      exact q _ _ _ (g.trans (Gr.new g.bh hp _)) (.tup (SqT.of upd_same) (h2.up (Gr.new g.bh hp _).bb))
    | tup h1 h2 =>
      have e := Option.some.inj hs
      subst e
      exact .inr ⟨_, _, rfl, same_sqt g.bh h1, q _ B' H' g (.tup h1 h2)⟩
    | _ => cases hs⟩
/-- tuple(range(n)), list(range(n)) -/
def rgD (n : Nat) : List PyData := (List.range n).map fun (i : Nat) => PyData.int (i : Int)
theorem rgV_D {K : PySem.W.Frag} {B : Hp} (n : Nat) : DtL K B (rgV 0 (n : Int)) (rgD n) := by
  have e : rgV 0 (n : Int) = ((List.range n).map fun (i : Nat) => (i : Int)).map V.int := by
    unfold rgV
    rw [List.map_map]
    have e1 : ((n : Int) - 0).toNat = n := by omega
    rw [e1]
    apply List.map_congr_left
    intro i _
    show V.int (0 + (i : Int)) = V.int (i : Int)
    rw [Int.zero_add]
  have e2 : rgD n = ((List.range n).map fun (i : Nat) => (i : Int)).map PyData.int := by
    unfold rgD
    rw [List.map_map]
    rfl
  rw [e, e2]
  exact DtL.ofInts _
theorem d_tupRg {n : Nat} {p2 : Pos} (hc : X.calm = true) (hm : X.mg "tuple" = none) (hm2 : X.mg "range" = none) (h : PD X E γ e (.int n)) (hn : n ≤ 1000) (hg : Gl X "tuple" := by rfl) (hg2 : Gl X "range" := by rfl) (hst : starEach [e] X.env = (false, eval e X.env) :: starEach [] X.env := by rfl)
    (hst2 : starEach [.Call (.Name "range" p2) [e] [] pos] X.env = (false, eval (.Call (.Name "range" p2) [e] [] pos) X.env) :: starEach [] X.env := by rfl) {pos2 : Pos} : PD X E γ (.Call (.Name "tuple" p) [.Call (.Name "range" p2) [e] [] pos] [] pos2) (.tuple (rgD n)) :=
  (pe_tupRg hc hg hm (prg_1 hg2 hm2 h hst) hst2).weak fun σ H Q ⟨B, s, q⟩ => ⟨B, s, fun v B' H' g y => by
    cases y
    refine ⟨_, rfl, ⟨by omega, by omega, by omega, by omega, by omega⟩, fun z hz => ?_⟩
    exact q _ _ _ (g.trans (Gr.new g.bh hz _)) (.tup (SqT.of upd_same) (rgV_D n))⟩
theorem d_lstRg {n : Nat} {p2 : Pos} (hc : X.calm = true) (hm : X.mg "list" = none) (hm2 : X.mg "range" = none) (h : PD X E γ e (.int n)) (hn : n ≤ 1000) (hg : Gl X "list" := by rfl) (hg2 : Gl X "range" := by rfl) (hst : starEach [e] X.env = (false, eval e X.env) :: starEach [] X.env := by rfl)
    (hst2 : starEach [.Call (.Name "range" p2) [e] [] pos] X.env = (false, eval (.Call (.Name "range" p2) [e] [] pos) X.env) :: starEach [] X.env := by rfl) {pos2 : Pos} : PD X E γ (.Call (.Name "list" p) [.Call (.Name "range" p2) [e] [] pos] [] pos2) (.list (rgD n)) :=
  (pe_listRg hc hg hm (prg_1 hg2 hm2 h hst) hst2).weak fun σ H Q ⟨B, s, q⟩ => ⟨B, s, fun v B' H' g y => by
    cases y
    refine ⟨_, rfl, ⟨by omega, by omega, by omega, by omega, by omega⟩, fun z hz => ?_⟩
    exact q _ _ _ (g.trans (Gr.new g.bh hz _)) (.lst upd_same (rgV_D n))⟩
/-- int(of a bool), int(of an int) -/
theorem d_intB {k_ : Int} {k : Bool} (hm : X.mg "int" = none) (h : PD X E γ e (.bool k)) (hg : Gl X "int" := by rfl) (hst : starEach [e] X.env = (false, eval e X.env) :: starEach [] X.env := by rfl) (hk_ : (if k then 1 else 0) = k_ := by rfl) : PD X E γ (.Call (.Name "int" p) [e] [] pos) (.int k_) := PD.is (d_callTy call_int1 (fun B H vs Q bh y q => by
    obtain ⟨v, rfl, x1⟩ := dtl1 y
    cases x1
    exact .inr ⟨k, rfl, q _ B H (Gr.refl bh) (.int _)⟩) hm (a_cons h a_nil hst) (by decide +kernel) hg (he := hst)) (congrArg _ hk_)
theorem d_intI {i : Int} (hm : X.mg "int" = none) (h : PD X E γ e (.int i)) (hg : Gl X "int" := by rfl) (hst : starEach [e] X.env = (false, eval e X.env) :: starEach [] X.env := by rfl) : PD X E γ (.Call (.Name "int" p) [e] [] pos) (.int i) :=
  d_callTy call_int1 (fun B H vs Q bh y q => by
    obtain ⟨v, rfl, x1⟩ := dtl1 y
    cases x1
    exact .inl ⟨i, rfl, q _ B H (Gr.refl bh) (.int _)⟩) hm (a_cons h a_nil hst) (by decide +kernel) hg (he := hst)
/-- abs, min of two -/
theorem d_abs {k_ : Int} {i : Int} (hm : X.mg "abs" = none) (h : PD X E γ e (.int i)) (hg : Gl X "abs" := by rfl) (hst : starEach [e] X.env = (false, eval e X.env) :: starEach [] X.env := by rfl) (hk_ : (if i < 0 then -i else i) = k_ := by rfl) : PD X E γ (.Call (.Name "abs" p) [e] [] pos) (.int k_) := PD.is (d_callB call_abs (fun B H vs Q bh y q => by
    obtain ⟨v, rfl, x1⟩ := dtl1 y
    cases x1
    exact ⟨i, rfl, q _ B H (Gr.refl bh) (.int _)⟩) hm (a_cons h a_nil hst) (by decide +kernel) hg (he := hst)) (congrArg _ hk_)
theorem d_min2 {k_ : Int} {i j : Int} (hc : X.calm = true) (hm : X.mg "min" = none) (h : PD X E γ e (.int i)) (h2 : PD X E γ e2 (.int j)) (hg : Gl X "min" := by rfl) (hst : starEach [e, e2] X.env = (false, eval e X.env) :: starEach [e2] X.env := by rfl) (hst2 : starEach [e2] X.env = (false, eval e2 X.env) :: starEach [] X.env := by rfl)
    (hpl : (backTo pos (starEach [e2] X.env)).any (·.1) = false := by rfl) (hk_ : (if j < i then j else i) = k_ := by rfl) : PD X E γ (.Call (.Name "min" p) [e, e2] [] pos) (.int k_) := PD.is (d_callB (call_min2 hc) (fun B H vs Q bh y q => by
    obtain ⟨v, w, rfl, x1, x2⟩ := dtl2 y
    cases x1
    cases x2
    exact ⟨i, j, rfl, q _ B H (Gr.refl bh) (.int _)⟩) hm (a_cons h (a_cons h2 a_nil hst2) hst) (by decide +kernel) hg (he := hst) (hpl := hpl)) (congrArg _ hk_)
/-- min of a list of ints: some least one -/
theorem least_is {ns : List Int} {m : Int} (h : m ∈ ns) (hl : ∀ y, y ∈ ns → m ≤ y) {k : Int} (hk : k ∈ ns) (hl' : ∀ y, y ∈ ns → k ≤ y) : m = k := Int.le_antisymm (hl k hk) (hl' m h)
theorem d_minL {ns : List Int} {k : Int} (hc : X.calm = true) (hm : X.mg "min" = none) (h : PD X E γ e (.list (ns.map .int))) (hk : k ∈ ns) (hl : ∀ y, y ∈ ns → k ≤ y) (hg : Gl X "min" := by rfl) (hst : starEach [e] X.env = (false, eval e X.env) :: starEach [] X.env := by rfl) :
    PD X E γ (.Call (.Name "min" p) [e] [] pos) (.int k) :=
  d_callB (cr_min hc) (fun B H vs Q bh y q => by
    obtain ⟨v, rfl, x1⟩ := dtl1 y
    cases x1 with
    | lst h1 h2 =>
      have e := h2.ints
      subst e
      refine ⟨_, ns, rfl, SqL.of (bh _ _ h1), List.length_pos_of_mem hk, fun m hm hlm => ?_⟩
      rw [least_is hm hlm hk hl]
      exact q _ B H (Gr.refl bh) (.int _)) hm (a_cons h a_nil hst) (by decide +kernel) hg (he := hst)
/-- sorted of a list of ints (fewer than 64): the one that is in order -/
theorem sorted_one {ms ns : List Int} (h : ms.Perm ns) (ho : ms.Pairwise (· ≤ ·)) {ks : List Int} (hk : ks.Perm ns) (hko : ks.Pairwise (· ≤ ·)) : ms = ks :=
  List.Perm.eq_of_pairwise (le := (· ≤ ·)) (fun a b _ _ h1 h2 => Int.le_antisymm h1 h2) ho hko (h.trans hk.symm)
theorem d_sorted {ns ks : List Int} (hm : X.mg "sorted" = none) (h : PD X E γ e (.list (ns.map .int))) (hz : ns.length < 64) (hk : ks.Perm ns) (hko : ks.Pairwise (· ≤ ·)) (hg : Gl X "sorted" := by rfl) (hst : starEach [e] X.env = (false, eval e X.env) :: starEach [] X.env := by rfl) :
    PD X E γ (.Call (.Name "sorted" p) [e] [] pos) (.list (ks.map .int)) :=
  d_callB cr_sorted (fun B H vs Q bh y q => by
    obtain ⟨v, rfl, x1⟩ := dtl1 y
    cases x1 with
    | lst h1 h2 =>
      have e := h2.ints
      subst e
      refine ⟨_, ns, rfl, SqL.of (bh _ _ h1), hz, ?_⟩
      intro ms z hp ho hn
      rw [sorted_one hp ho hk hko]
      exact q _ _ _ (Gr.new bh hn _) (.lst upd_same (DtL.ofInts _))) hm (a_cons h a_nil hst) (by decide +kernel) hg (he := hst)
end
end
end Tb

set_option maxHeartbeats 1000000
/-! Data: statements, loops, comprehensions, defs. -/
namespace Tb
open PySem PySem.Spec PyProof.Rows
open L2
section
variable {X : Cx} {E : Hp × Hp} {γ γ1 γ2 : List Slot} {pos : Pos} {a b c e : Expr} {d d1 d2 : PyData} {r : Res} {st : Stmt} {rest body orelse : List Stmt} {l : List PyData}
/-! ### statements -/
theorem r_nil : PRs X E γ [] (.next γ) := pss_nil.weak fun D σ H ⟨B, s, q⟩ => q σ B H (Same.refl B) s
theorem r_cons (h1 : PR X E γ st (.next γ1)) (h2 : PRs X E γ1 rest r) : PRs X E γ (st :: rest) r :=
  (pss_cons h1 h2).weak fun D σ H h => by
    obtain ⟨B, s, q⟩ := h
    exact ⟨B, s, fun σ' B' H' e s' => ⟨B', s', q.mono e⟩⟩
theorem r_ret (h : PR X E γ st (.ret d)) : PRs X E γ (st :: rest) (.ret d) := (pss_cons h pss_never).weak fun D σ H ⟨B, s, q⟩ => ⟨B, s, q⟩
theorem r_one (h : PR X E γ st r) : PRs X E γ [st] r := pss_one h
theorem s_ret (h : PD X E γ e d) : PR X E γ (.Return (some e) pos) (.ret d) := (ps_ret h).weak fun D σ H ⟨B, s, q⟩ => ⟨B, s, fun v B' H' g x => q v B' H' (s.gr.trans g) x⟩
theorem s_ifT (hc : PB X E γ c true) (hb : PRs X E γ body r) : PR X E γ (.If c body orelse pos) r := (ps_if hc hb pss_never).weak fun D σ H h => by
  obtain ⟨B, s, q⟩ := h
  exact ⟨B, s, fun B' H' g => iteT ⟨B', s.up g, q.mono g.bb⟩⟩
theorem s_ifF (hc : PB X E γ c false) (hb : PRs X E γ orelse r) : PR X E γ (.If c body orelse pos) r := (ps_if hc pss_never hb).weak fun D σ H h => by
  obtain ⟨B, s, q⟩ := h
  exact ⟨B, s, fun B' H' g => iteF ⟨B', s.up g, q.mono g.bb⟩⟩
theorem s_set (i : Nat) {x : Str} {pos' : Pos} (hN : X.N.Nodup) (h : PD X E γ e d) (hi : X.N[i]? = some x := by rfl) (hx : Loc X.env.scope x := by first | exact Or.inl rfl | exact Or.inr rfl) (hs : swapsWith e (some (.Name x pos')) pos.line X.env = pure false := by rfl)
    (hf : X.fn x = true ∨ X.env.scope.names.lookup x = some .local := by first | exact .inl rfl | exact .inr rfl) : PR X E γ (.Assign [.Name x pos'] e pos) (.next (γ.set i (.dat d))) :=
  (ps_set hN hi hx h hs hf).weak fun D σ H ⟨B, s, q⟩ => ⟨B, s, fun v B' H' g y => q _ B' H' g.bb ((s.up g).set y)⟩
theorem s_expr (h : PD X E γ e d) (hs : swapsWith e none pos.line X.env = pure false := by rfl) : PR X E γ (.Expr e pos) (.next γ) := (ps_expr h hs).weak fun D σ H ⟨B, s, q⟩ => ⟨B, s, fun v B' H' g y => q _ B' H' g.bb (s.up g)⟩
/-! ### targets -/
/-- what a target does with a datum -/
abbrev Tgt := PyData → List Slot → List Slot → Prop
def gD (K : PySem.W.Frag) (E : Hp × Hp) (T : Tgt) : TG := fun v σ H Q => ∃ B d γ γ1, S K E γ σ B H ∧ Dt K B v d ∧ T d γ γ1 ∧ ∀ σ', S K E γ1 σ' B H → Q σ' H
def T1 (i : Nat) : Tgt := fun d γ γ1 => γ1 = γ.set i (.dat d)
def T2 (i j : Nat) : Tgt := fun d γ γ1 => ∃ a b, d = .tuple [a, b] ∧ γ1 = (γ.set i (.dat a)).set j (.dat b)
def T3 (i j k : Nat) : Tgt := fun d γ γ1 => ∃ a b c, d = .tuple [a, b, c] ∧ γ1 = ((γ.set i (.dat a)).set j (.dat b)).set k (.dat c)
theorem _root_.L2.PG.weak {tg : Expr} {t t' : TG} (h : PG X tg t) (k : ∀ v σ H Q, t' v σ H Q → t v σ H Q) : PG X tg t' := ⟨fun pins s σ H v u Q I r q => h.run pins s σ H v u Q I r (k v σ H Q q)⟩
theorem g1 (i : Nat) {x : Str} {pos' : Pos} (hN : X.N.Nodup) (hi : X.N[i]? = some x := by rfl) (hx : Loc X.env.scope x := by first | exact Or.inl rfl | exact Or.inr rfl) (hf : X.fn x = true ∨ X.env.scope.names.lookup x = some .local := by first | exact .inl rfl | exact .inr rfl) : PG X (.Name x pos') (gD X.K E (T1 i)) :=
  (pg_name hN hi hx hf).weak fun v σ H Q ⟨B, d, γ, γ1, s, y, t, q⟩ => by
    cases t
    exact q _ (s.set y)
theorem dtl3 {K : PySem.W.Frag} {B : Hp} {vs : List V} {d d' d'' : PyData} (h : DtL K B vs [d, d', d'']) : ∃ u v w, vs = [u, v, w] ∧ Dt K B u d ∧ Dt K B v d' ∧ Dt K B w d'' := by
  cases h with
  | cons h1 h2 =>
    obtain ⟨v, w, rfl, h3, h4⟩ := dtl2 h2
    exact ⟨_, _, _, rfl, h1, h3, h4⟩
theorem g2 (i j : Nat) {x1 x2 : Str} {p1 p2 : Pos} {k : Nat} (hc : X.calm = true) (hN : X.N.Nodup) (h1 : PG X (.Name x1 p1) (gName i)) (h2 : PG X (.Name x2 p2) (gName j))
    (hs1 : (assignEach [.Name x1 p1, .Name x2 p2] X.env).map (·.2) = assign (.Name x1 p1) X.env :: (assignEach [.Name x2 p2] X.env).map (·.2) := by rfl) (hs2 : (assignEach [.Name x2 p2] X.env).map (·.2) = assign (.Name x2 p2) X.env :: (assignEach [] X.env).map (·.2) := by rfl)
    (hn : (assignEach [.Name x1 p1, .Name x2 p2] X.env).length = 2 := by rfl) (hst : (assignEach [.Name x1 p1, .Name x2 p2] X.env).findIdx? (·.1) = none := by rfl) : PG X (.Tuple [.Name x1 p1, .Name x2 p2] k pos) (gD X.K E (T2 i j)) :=
  (pg_tup hc (pgs_cons h1 (pgs_cons h2 pgs_nil hs2) hs1) hn hst).weak fun v σ H Q ⟨B, d, γ, γ1, s, y, t, q⟩ => by
    obtain ⟨a, b, rfl, rfl⟩ := t
    cases y with
    | tup h1 h2 =>
      obtain ⟨u, w, rfl, y1, y2⟩ := dtl2 h2
      exact ⟨_, _, rfl, same_sqt s.bh h1, rfl, _, _, rfl, _, _, rfl, rfl, q _ ((s.set y1).set y2)⟩
theorem g3 (i j l : Nat) {x1 x2 x3 : Str} {p1 p2 p3 : Pos} {k : Nat} (hc : X.calm = true) (hN : X.N.Nodup) (h1 : PG X (.Name x1 p1) (gName i)) (h2 : PG X (.Name x2 p2) (gName j)) (h3 : PG X (.Name x3 p3) (gName l))
    (hs1 : (assignEach [.Name x1 p1, .Name x2 p2, .Name x3 p3] X.env).map (·.2) = assign (.Name x1 p1) X.env :: (assignEach [.Name x2 p2, .Name x3 p3] X.env).map (·.2) := by rfl) (hs2 : (assignEach [.Name x2 p2, .Name x3 p3] X.env).map (·.2) = assign (.Name x2 p2) X.env :: (assignEach [.Name x3 p3] X.env).map (·.2) := by rfl)
    (hs3 : (assignEach [.Name x3 p3] X.env).map (·.2) = assign (.Name x3 p3) X.env :: (assignEach [] X.env).map (·.2) := by rfl)
    (hn : (assignEach [.Name x1 p1, .Name x2 p2, .Name x3 p3] X.env).length = 3 := by rfl) (hst : (assignEach [.Name x1 p1, .Name x2 p2, .Name x3 p3] X.env).findIdx? (·.1) = none := by rfl) : PG X (.Tuple [.Name x1 p1, .Name x2 p2, .Name x3 p3] k pos) (gD X.K E (T3 i j l)) :=
  (pg_tup hc (pgs_cons h1 (pgs_cons h2 (pgs_cons h3 pgs_nil hs3) hs2) hs1) hn hst).weak fun v σ H Q ⟨B, d, γ, γ1, s, y, t, q⟩ => by
    obtain ⟨a, b, c, rfl, rfl⟩ := t
    cases y with
    | tup h1 h2 =>
      obtain ⟨u, w, z, rfl, y1, y2, y3⟩ := dtl3 h2
      exact ⟨_, _, rfl, same_sqt s.bh h1, rfl, _, _, rfl, _, _, rfl, _, _, rfl, rfl, q _ (((s.set y1).set y2).set y3)⟩
/-- (a, b, ..) = e -/
theorem s_tgt {tg : Expr} {T : Tgt} (h : PD X E γ e d) (hg : PG X tg (gD X.K E T)) (ht : T d γ γ1) (hs : swapsWithSole [tg] e pos.line X.env = pure false := by rfl) (hw : swappedStores [tg] e X.env = pure none := by rfl) (h1 : (assignEach [tg] X.env).map (·.2) = [assign tg X.env] := by rfl) :
    PR X E γ (.Assign [tg] e pos) (.next γ1) :=
  (ps_asg h hg hs hw h1).weak fun D σ H ⟨B, s, q⟩ => ⟨B, s, fun v B' H' g y => ⟨B', d, γ, γ1, s.up g, y, ht, fun σ' s' => q σ' B' H' g.bb s'⟩⟩
/-! ### for -/
def tBody (X : Cx) (E : Hp × Hp) (body : List Stmt) : TS := fun D σ H => ∃ γ r, PRs X E γ body r ∧ tR X.K E γ r D σ H
theorem pss_body : PSs X body (tBody X E body) := ⟨fun pins s σ H D I ⟨γ, r, h, t⟩ => h.run pins s σ H D I t⟩
inductive Loop (X : Cx) (E : Hp × Hp) (T : Tgt) (body : List Stmt) : List PyData → List Slot → Res → Prop where
  | nil {γ : List Slot} : Loop X E T body [] γ (.next γ)
  | next {d : PyData} {l : List PyData} {γ γ1 γ2 : List Slot} {r : Res} (t : T d γ γ1) (h : PRs X E γ1 body (.next γ2)) (k : Loop X E T body l γ2 r) : Loop X E T body (d :: l) γ r
  | ret {d d' : PyData} {l : List PyData} {γ γ1 : List Slot} (t : T d γ γ1) (h : PRs X E γ1 body (.ret d')) : Loop X E T body (d :: l) γ (.ret d')
/-- one turn of a loop by its relation -/
theorem loop_turn {T : Tgt} {K : PySem.W.Frag} (hK : X.K = K) {l : List PyData} {i : Nat} {x : V} {γ0 : List Slot} {D : Ends} {B B1 H' : Hp} {σ' : St} {Pn : St → Hp → Prop}
    (q : Fin K E r D B)
    (hl : ∃ d, l[i]? = some d ∧ Dt K B1 x d) {B' : Hp} (e1 : Same B1 B') (s' : S K E γ0 σ' B' H') (k : Loop X E T body (l.drop i) γ0 r)
    (again : ∀ γ2 σ2 B2 H2, S K E γ2 σ2 B2 H2 → Same B' B2 → Loop X E T body (l.drop (i + 1)) γ2 r → Pn σ2 H2) :
    gD K E T x σ' H' fun σ2 H2 => tBody X E body { D with nx := Pn, ct := Pn, bk := D.nx } σ2 H2 := by
  subst hK
  obtain ⟨d, hd, xd⟩ := hl
  have hi := (List.getElem?_eq_some_iff.mp hd).1
  have ed : l.drop i = d :: l.drop (i + 1) := by
    rw [List.drop_eq_getElem_cons hi]
    congr 1
    exact (List.getElem?_eq_some_iff.mp hd).2
  rw [ed] at k
  cases k with
  | next t h k =>
    exact ⟨B', d, γ0, _, s', xd.up e1, t, fun σ2 s2 => ⟨_, _, h, B', s2, fun σ3 B3 H3 e3 s3 => again _ σ3 B3 H3 s3 e3 k⟩⟩
  | ret t h =>
    exact ⟨B', d, γ0, _, s', xd.up e1, t, fun σ2 s2 => ⟨_, _, h, B', s2, q⟩⟩
theorem loop_end {T : Tgt} {K : PySem.W.Frag} {l : List PyData} {n : Nat} (hn : l.length ≤ n) {γ0 : List Slot} {D : Ends} {B B' H' : Hp} {σ' : St} (q : Fin K E r D B) (e : Same B B') (s' : S K E γ0 σ' B' H') (k : Loop X E T body (l.drop n) γ0 r) : D.nx σ' H' := by
  rw [List.drop_eq_nil_of_le hn] at k
  cases k
  exact q σ' B' H' e s'
theorem s_forT {tg : Expr} {T : Tgt} (hp : PassesOwn (model X.prog X.w) X.A X.env X.xe) (hc : X.calm = true) (h : PD X E γ e (.tuple l)) (hg : PG X tg (gD X.K E T)) (k : Loop X E T body l γ r)
    (hs : ∀ x, foldedSetIterable e X.env x = pure x := by intro _; rfl) : PR X E γ (.For tg e body [] pos) r :=
  (ps_for hp hc (pi_tup h) hg (pss_body (body := body)) hs).weak fun D σ H w => by
    obtain ⟨B, s, q⟩ := w
    refine ⟨B, s, fun v B1 H1 g1 x1 => ?_⟩
    cases x1 with
    | @tup a xs _ h1 h2 =>
      refine ⟨a, rfl, ⟨xs, same_sqt g1.bh h1⟩, for_tup (xs := xs) (fun i σ' H' => ∃ B' γ', S X.K E γ' σ' B' H' ∧ Same B1 B' ∧ Loop X E T body (l.drop i) γ' r)
        ⟨B1, γ, s.up g1, Same.refl B1, k⟩ (fun i σ' H' _ ⟨B', γ', s', e', _⟩ => same_sqt (e'.trans s'.bh) h1) ?_ ?_⟩
      · rintro i x σ' H' hx ⟨B', γ', s', e', k'⟩
        refine loop_turn rfl q (h2.getV hx) e' s' k' fun γ2 σ2 B2 H2 s2 e2 k2 => ⟨B2, γ2, s2, e'.trans e2, k2⟩
      · rintro σ' H' ⟨B', γ', s', e', k'⟩
        exact loop_end (by rw [h2.length]; exact Nat.le_refl _) q (g1.bb.trans e') s' k'
theorem s_forL {tg : Expr} {T : Tgt} (hp : PassesOwn (model X.prog X.w) X.A X.env X.xe) (hc : X.calm = true) (h : PD X E γ e (.list l)) (hg : PG X tg (gD X.K E T)) (k : Loop X E T body l γ r)
    (hs : ∀ x, foldedSetIterable e X.env x = pure x := by intro _; rfl) : PR X E γ (.For tg e body [] pos) r :=
  (ps_for hp hc (pi_list h) hg (pss_body (body := body)) hs).weak fun D σ H w => by
    obtain ⟨B, s, q⟩ := w
    refine ⟨B, s, fun v B1 H1 g1 x1 => ?_⟩
    cases x1 with
    | @lst a xs _ h1 h2 =>
      refine ⟨a, rfl, ⟨xs, SqL.of (g1.bh _ _ h1)⟩, for_list (xs := xs) (fun i σ' H' => ∃ B' γ', S X.K E γ' σ' B' H' ∧ Same B1 B' ∧ Loop X E T body (l.drop i) γ' r)
        ⟨B1, γ, s.up g1, Same.refl B1, k⟩ (fun i σ' H' _ ⟨B', γ', s', e', _⟩ => SqL.of (s'.bh _ _ (e' _ _ h1))) ?_ ?_⟩
      · rintro i x σ' H' hx ⟨B', γ', s', e', k'⟩
        refine loop_turn rfl q (h2.getV hx) e' s' k' fun γ2 σ2 B2 H2 s2 e2 k2 => ⟨B2, γ2, s2, e'.trans e2, k2⟩
      · rintro σ' H' ⟨B', γ', s', e', k'⟩
        exact loop_end (by rw [h2.length]; exact Nat.le_refl _) q (g1.bb.trans e') s' k'
theorem rgD_get {n i : Nat} (h : i < n) : (rgD n)[i]? = some (.int (i : Int)) := by
  unfold rgD
  rw [List.getElem?_map, List.getElem?_range h]
  rfl
theorem rgD_len (n : Nat) : (rgD n).length = n := by unfold rgD; rw [List.length_map, List.length_range]
theorem s_forR {tg : Expr} {T : Tgt} {n : Nat} {p2 p3 : Pos} (hp : PassesOwn (model X.prog X.w) X.A X.env X.xe) (hc : X.calm = true) (hm : X.mg "range" = none) (h : PD X E γ e (.int (n : Int))) (hn : n ≤ 1000) (hg : PG X tg (gD X.K E T)) (k : Loop X E T body (rgD n) γ r) (hgl : Gl X "range" := by rfl)
    (hst : starEach [e] X.env = (false, eval e X.env) :: starEach [] X.env := by rfl)
    (hs : ∀ x, foldedSetIterable (.Call (.Name "range" p2) [e] [] p3) X.env x = pure x := by intro _; rfl) : PR X E γ (.For tg (.Call (.Name "range" p2) [e] [] p3) body [] pos) r :=
  (ps_for hp hc (pi_range1 hgl hm (a_cons h a_nil hst) hst) hg (pss_body (body := body)) hs).weak fun D σ H w => by
    obtain ⟨B, s, q⟩ := w
    refine ⟨B, s, fun vs B1 H1 g1 x1 => ?_⟩
    obtain ⟨v, rfl, y⟩ := dtl1 x1
    cases y
    refine ⟨(n : Int), rfl, by omega, by omega, ?_⟩
    have en : ((n : Int)).toNat = n := by omega
    rw [en]
    refine for_range (lo := 0) (n := n) (fun i σ' H' => ∃ B' γ', S X.K E γ' σ' B' H' ∧ Same B1 B' ∧ Loop X E T body ((rgD n).drop i) γ' r)
        ⟨B1, γ, s.up g1, Same.refl B1, k⟩ ?_ ?_
    · rintro i σ' H' hi ⟨B', γ', s', e', k'⟩
      refine loop_turn (B1 := B') rfl q ⟨_, rgD_get hi, ?_⟩ (Same.refl B') s' k' fun γ2 σ2 B2 H2 s2 e2 k2 => ⟨B2, γ2, s2, e'.trans e2, k2⟩
      rw [Int.zero_add]
      exact .int _
    · rintro σ' H' ⟨B', γ', s', e', k'⟩
      exact loop_end (by rw [rgD_len]; exact Nat.le_refl _) q (g1.bb.trans e') s' k'
/-! ### while -/
def tTst (X : Cx) (E : Hp × Hp) (c : Expr) : TT := fun σ H Q => ∃ γ b, PB X E γ c b ∧ tB' X.K E γ b σ H Q
theorem pt_tst : PT X c (tTst X E c) := ⟨fun pins s σ H Q I ⟨γ, b, h, t⟩ => h.run pins s σ H Q I t⟩
inductive WLoop (X : Cx) (E : Hp × Hp) (c : Expr) (body : List Stmt) : Nat → List Slot → Res → Prop where
  | stop {n : Nat} {γ : List Slot} (h : PB X E γ c false) : WLoop X E c body n γ (.next γ)
  | turn {n : Nat} {γ γ1 : List Slot} {r : Res} (h : PB X E γ c true) (b : PRs X E γ body (.next γ1)) (k : WLoop X E c body n γ1 r) : WLoop X E c body (n + 1) γ r
  | ret {n : Nat} {γ : List Slot} {d : PyData} (h : PB X E γ c true) (b : PRs X E γ body (.ret d)) : WLoop X E c body n γ (.ret d)
theorem WLoop.inv {n : Nat} (k : WLoop X E c body n γ r) : (PB X E γ c false ∧ r = .next γ) ∨ (PB X E γ c true ∧ ∃ m γ1, n = m + 1 ∧ PRs X E γ body (.next γ1) ∧ WLoop X E c body m γ1 r) ∨ (PB X E γ c true ∧ PRs X E γ body r ∧ ∃ d, r = .ret d) := by
  cases k with
  | stop h => exact .inl ⟨h, rfl⟩
  | turn h b k => exact .inr (.inl ⟨h, _, _, rfl, b, k⟩)
  | ret h b => exact .inr (.inr ⟨h, b, _, rfl⟩)
theorem s_while {n : Nat} (hp : PassesOwn (model X.prog X.w) X.A X.env X.xe) (k : WLoop X E c body n γ r) : PR X E γ (.While c body [] pos) r :=
  (ps_while hp (pt_tst (E := E)) (pss_body (E := E) (body := body))).weak fun D σ H w => by
    obtain ⟨B, s, q⟩ := w
    refine ⟨fun m σ' H' => ∃ B' γ', S X.K E γ' σ' B' H' ∧ Same B B' ∧ WLoop X E c body m γ' r, ⟨n, B, γ, s, Same.refl B, k⟩, ?_⟩
    rintro m σ' H' ⟨B', γ', s', e', k'⟩
    rcases k'.inv with ⟨h, e⟩ | ⟨h, m', γ1, rfl, b, k2⟩ | ⟨h, b, d, e⟩
    · rw [e] at q
      exact ⟨_, _, h, B', s', fun B2 H2 g2 => iteF (q σ' B2 H2 (e'.trans g2.bb) (s'.up g2))⟩
    · refine ⟨_, _, h, B', s', fun B2 H2 g2 => iteT ⟨fun σ3 H3 => ∃ B3 γ3, S X.K E γ3 σ3 B3 H3 ∧ Same B B3 ∧ WLoop X E c body m' γ3 r, fun σ3 H3 w3 => ⟨m', Nat.lt_succ_self _, w3⟩, ?_⟩⟩
      exact ⟨_, _, b, B2, s'.up g2, fun σ3 B3 H3 e3 s3 => ⟨B3, γ1, s3, (e'.trans g2.bb).trans e3, k2⟩⟩
    · refine ⟨_, _, h, B', s', fun B2 H2 g2 => iteT ⟨fun _ _ => False, fun _ _ z => z.elim, ?_⟩⟩
      rw [e] at q b
      exact ⟨_, _, b, B2, s'.up g2, q⟩
/-! ### a growing list -/
theorem s_newOwn (i : Nat) {x : Str} {pos' p : Pos} (hN : X.N.Nodup) (hi : X.N[i]? = some x := by rfl) (hx : Loc X.env.scope x := by first | exact Or.inl rfl | exact Or.inr rfl) (hs : swapsWith (.List [] p) (some (.Name x pos')) pos.line X.env = pure false := by rfl)
    (hf : X.fn x = true ∨ X.env.scope.names.lookup x = some .local := by first | exact .inl rfl | exact .inr rfl) : PR X E γ (.Assign [.Name x pos'] (.List [] p) pos) (.next (γ.set i (.own []))) :=
  (ps_set hN hi hx (pe_lst pa_nil) hs hf).weak fun D σ H ⟨B, s, q⟩ => ⟨Nat.zero_le _, fun z hz => by
    have bz : B z = none := s.bh.free hz
    have ez : E.2 z = none := s.gr.hh.free hz
    refine q _ B _ (Same.refl B) ⟨⟨s.gr.bb, fun b o h => ?_, fun b o h => ?_, s.gr.fr⟩, Slots.set (s := .own []) ⟨z, [], rfl, ez, bz, upd_same, .nil⟩ i ?_⟩
    · rw [upd_ne (ne_of_none h ez)]; exact s.gr.hh b o h
    · rw [upd_ne (ne_of_none h bz)]; exact s.bh b o h
    · exact Paired.mapP s.sl fun sl o h => by
        cases sl with
        | no => trivial
        | dat d => exact h
        | raw v => exact h
        | own ds =>
          obtain ⟨a, vs, h1, h2, h3, h4, h5⟩ := h
          exact ⟨a, vs, h1, h2, h3, by rw [upd_ne (ne_of_none h4 hz)]; exact h4, h5⟩
        | keys ks =>
          obtain ⟨a, h1, h2, h3, h4⟩ := h
          exact ⟨a, h1, h2, h3, by rw [upd_ne (ne_of_none h4 hz)]; exact h4⟩⟩
/-- .. with one datum in it -/
theorem s_newOwn1 (i : Nat) {x : Str} {pos' p : Pos} (hN : X.N.Nodup) (h : PD X E γ e d) (hi : X.N[i]? = some x := by rfl) (hx : Loc X.env.scope x := by first | exact Or.inl rfl | exact Or.inr rfl) (hs : swapsWith (.List [e] p) (some (.Name x pos')) pos.line X.env = pure false := by rfl)
    (hf : X.fn x = true ∨ X.env.scope.names.lookup x = some .local := by first | exact .inl rfl | exact .inr rfl) (hst : starEach [e] X.env = (false, eval e X.env) :: starEach [] X.env := by rfl) : PR X E γ (.Assign [.Name x pos'] (.List [e] p) pos) (.next (γ.set i (.own [d]))) :=
  (ps_set hN hi hx (pe_lst (a_cons h a_nil hst)) hs hf).weak fun D σ H ⟨B, s0, q⟩ => ⟨B, s0, fun vs B1 H1 g1 y => ⟨by rw [y.length]; show 1 ≤ sizeLine; decide, fun z hz => by
    have s := s0.up g1
    have bz : B1 z = none := s.bh.free hz
    have ez : E.2 z = none := s.gr.hh.free hz
    refine q _ B1 _ g1.bb ⟨⟨s.gr.bb, fun b o h => ?_, fun b o h => ?_, s.gr.fr⟩, Slots.set (s := .own [d]) ⟨z, vs, rfl, ez, bz, upd_same, y⟩ i ?_⟩
    · rw [upd_ne (ne_of_none h ez)]; exact s.gr.hh b o h
    · rw [upd_ne (ne_of_none h bz)]; exact s.bh b o h
    · exact Paired.mapP s.sl fun sl o h => by
        cases sl with
        | no => trivial
        | dat d => exact h
        | raw v => exact h
        | own ds =>
          obtain ⟨a, vs, h1, h2, h3, h4, h5⟩ := h
          exact ⟨a, vs, h1, h2, h3, by rw [upd_ne (ne_of_none h4 hz)]; exact h4, h5⟩
        | keys ks =>
          obtain ⟨a, h1, h2, h3, h4⟩ := h
          exact ⟨a, h1, h2, h3, by rw [upd_ne (ne_of_none h4 hz)]; exact h4⟩⟩⟩
theorem S.change {K : PySem.W.Frag} {σ : St} {B H : Hp} {i : Nat} {es : List PyData} {z : Addr} {vs vs0 : List V} (s : S K E γ σ B H) (ho : soleOwn i γ = true) (h1 : σ[i]? = some (some (.ref z))) (h2 : E.2 z = none) (h3 : B z = none) (h4 : H z = some (.lst vs0)) (h5 : DtL K B vs es) :
    S K E (γ.set i (.own es)) σ B (upd H z (.lst vs)) := by
  refine ⟨⟨s.gr.bb, fun b o h => ?_, fun b o h => ?_, s.gr.fr⟩, Slots.change (s := .own es) (fun a ks e => by rw [upd_ne (fun q => by rw [q, h4] at e; cases e)]; exact e) ⟨z, vs, rfl, h2, h3, upd_same, h5⟩ ho h1 s.sl⟩
  · rw [upd_ne (ne_of_none h h2)]; exact s.gr.hh b o h
  · rw [upd_ne (ne_of_none h h3)]; exact s.bh b o h
theorem s_append (i : Nat) {x : Str} {p1 p2 p3 : Pos} {ds : List PyData} (h : PD X E γ e d) (hz : ds.length < 1000) (hN : X.N[i]? = some x := by rfl) (hγ : γ[i]? = some (.own ds) := by rfl) (ho : soleOwn i γ = true := by rfl) (hv : Vis X.env.scope x := by first | exact Or.inl rfl | exact Or.inr (Or.inl rfl) | exact Or.inr (Or.inr rfl))
    (hd : (x == ("__debug__" : Str)) = false := by decide) (hcd : (x == ("__classdict__" : Str)) = false := by decide) (hs : swapsWith (.Call (.Attribute (.Name x p1) "append" p2) [e] [] p3) none pos.line X.env = pure false := by rfl)
    (hst : starEach [e] X.env = (false, eval e X.env) :: starEach [] X.env := by rfl) (hbase : attributeBase (.Name x p1) "append" X.env (eval (.Name x p1) X.env) = eval (.Name x p1) X.env := by rfl)
    (hfew : ((backTo p3 (starEach [e] X.env)).all (fun x => !x.1) && (backToKw p3 (keywordEach [] X.env)).all (fun x => x.1.isSome) && decide ([e].length + ([] : List Keyword).length + (if ([] : List Keyword).isEmpty then 0 else 1) < 30)) = true := by rfl)
    (hline : (p2.endLine == p3.line) = true := by rfl) :
    PR X E γ (.Expr (.Call (.Attribute (.Name x p1) "append" p2) [e] [] p3) pos) (.next (γ.set i (.own (ds ++ [d])))) :=
  (ps_expr (pe_bm PySem.F.plainAttrs_list PySem.F.slot_list_append PySem.F.type_list_append mt_append (pe_var hN hv hd hcd) (a_cons h a_nil hst) hbase hfew hline hst) hs).weak fun D σ H ⟨B, s, q⟩ => by
    obtain ⟨z, vs, h1, h2, h3, h4, h5⟩ := s.own hγ
    refine ⟨_, h1, .inl ⟨rfl, _, SqL.of h4⟩, B, s, fun ws B1 H1 g1 y => ?_⟩
    obtain ⟨w, rfl, yw⟩ := dtl1 y
    refine ⟨z, vs, w, rfl, rfl, g1.hh _ _ h4, Nat.lt_of_lt_of_le (by rw [h5.length]; exact hz) (by decide), ?_⟩
    have s1 := s.up g1
    refine q σ B1 _ g1.bb (s1.change ho h1 h2 (g1.fr z h3 (by rw [h4]; exact fun z => nomatch z)) (g1.hh _ _ h4) ((h5.up g1.bb).append (.cons yw .nil)))
theorem s_extend (i : Nat) {x : Str} {p1 p2 p3 : Pos} {ds : List PyData} (h : PD X E γ e (.list l)) (hz : ds.length + l.length ≤ 1000) (hN : X.N[i]? = some x := by rfl) (hγ : γ[i]? = some (.own ds) := by rfl) (ho : soleOwn i γ = true := by rfl) (hv : Vis X.env.scope x := by first | exact Or.inl rfl | exact Or.inr (Or.inl rfl) | exact Or.inr (Or.inr rfl))
    (hd : (x == ("__debug__" : Str)) = false := by decide) (hcd : (x == ("__classdict__" : Str)) = false := by decide) (hst : starEach [e] X.env = (false, eval e X.env) :: starEach [] X.env := by rfl) (hs : swapsWith (.Call (.Attribute (.Name x p1) "extend" p2) [e] [] p3) none pos.line X.env = pure false := by rfl)
    (hbase : attributeBase (.Name x p1) "extend" X.env (eval (.Name x p1) X.env) = eval (.Name x p1) X.env := by rfl)
    (hfew : ((backTo p3 (starEach [e] X.env)).all (fun x => !x.1) && (backToKw p3 (keywordEach [] X.env)).all (fun x => x.1.isSome) && decide ([e].length + ([] : List Keyword).length + (if ([] : List Keyword).isEmpty then 0 else 1) < 30)) = true := by rfl)
    (hline : (p2.endLine == p3.line) = true := by rfl) :
    PR X E γ (.Expr (.Call (.Attribute (.Name x p1) "extend" p2) [e] [] p3) pos) (.next (γ.set i (.own (ds ++ l)))) :=
  (ps_expr (pe_bm PySem.F.plainAttrs_list PySem.F.slot_list_extend PySem.F.type_list_extend mt_extend (pe_var hN hv hd hcd) (a_cons h a_nil hst) hbase hfew hline hst) hs).weak fun D σ H ⟨B, s, q⟩ => by
    obtain ⟨z, vs, h1, h2, h3, h4, h5⟩ := s.own hγ
    refine ⟨_, h1, .inl ⟨rfl, _, SqL.of h4⟩, B, s, fun ws B1 H1 g1 y => ?_⟩
    obtain ⟨w, rfl, yw⟩ := dtl1 y
    cases yw with
    | lst k1 k2 =>
      refine ⟨z, _, vs, _, rfl, rfl, g1.hh _ _ h4, g1.bh _ _ k1, Nat.le_trans (by rw [h5.length, k2.length]; exact hz) (by decide), ?_⟩
      have s1 := s.up g1
      exact q σ B1 _ g1.bb (s1.change ho h1 h2 (g1.fr z h3 (by rw [h4]; exact fun z => nomatch z)) (g1.hh _ _ h4) ((h5.up g1.bb).append k2))
theorem SlotR.datOnly {K : PySem.W.Frag} {B B' H : Hp} (e : Same B B') (hk : ∀ a ks, H a = some (keysV ks) → B a = none → B' a = none) : ∀ {s : Slot} {o : Option V}, notOwn s = true → SlotR K E B H s o → SlotR K E B' H s o
  | .no, _, _, _ => trivial
  | .dat d, _, _, ⟨v, h1, h2⟩ => ⟨v, h1, h2.up e⟩
  | .raw v, _, _, h => h
  | .own _, _, n, _ => nomatch n
  | .keys ks, _, _, ⟨a, h1, h2, h3, h4⟩ => ⟨a, h1, h2, hk a ks h4 h3, h4⟩
theorem Slots.datOnly {K : PySem.W.Frag} {B B' H : Hp} (e : Same B B') (hk : ∀ a ks, H a = some (keysV ks) → B a = none → B' a = none) : ∀ {γ : List Slot} {σ : St}, γ.all notOwn = true → Slots K E B H γ σ → Slots K E B' H γ σ
  | _, _, _, .nil => .nil
  | _, _, n, .cons h t => by
    rw [List.all_cons, Bool.and_eq_true] at n
    exact .cons (h.datOnly e hk n.1) (Slots.datOnly e hk n.2 t)
/-- it grows no more: it is data -/
theorem S.freeze {K : PySem.W.Frag} {σ : St} {B H : Hp} {i : Nat} {ds : List PyData} (s : S K E γ σ B H) (hγ : γ[i]? = some (.own ds)) (ho : soleOwn i γ = true) : ∃ B', Same B B' ∧ S K E (γ.set i (.dat (.list ds))) σ B' H := by
  obtain ⟨z, vs, h1, h2, h3, h4, h5⟩ := s.own hγ
  have e1 : Same B (upd B z (.lst vs)) := same_new h3 _
  have hkk : ∀ a ks, H a = some (keysV ks) → B a = none → upd B z (.lst vs) a = none := fun a ks e n => by rw [upd_ne (fun q => by rw [q, h4] at e; cases e)]; exact n
  have bh : Same (upd B z (.lst vs)) H := fun b o h => by
    by_cases hb : b = z
    · subst hb; rw [upd_same] at h; rw [h4]; exact h
    · rw [upd_ne hb] at h; exact s.bh b o h
  have hz : ∀ {γ : List Slot} {σ : St} {i : Nat}, soleOwn i γ = true → σ[i]? = some (some (.ref z)) → Slots K E B H γ σ → Slots K E (upd B z (.lst vs)) H (γ.set i (.dat (.list ds))) σ := by
    intro γ σ i
    induction γ generalizing σ i with
    | nil => intro _ _ h; cases h; exact .nil
    | cons s g ih =>
      intro n e h
      cases h with
      | cons h t =>
        cases i with
        | zero =>
          simp at e
          subst e
          exact .cons ⟨_, rfl, .lst upd_same (h5.up e1)⟩ (Slots.datOnly e1 hkk n t)
        | succ i =>
          have n' : (notOwn s && soleOwn i g) = true := n
          rw [Bool.and_eq_true] at n'
          refine .cons ?_ (ih n'.2 (by simpa using e) t)
          cases s with
          | no => trivial
          | dat d => obtain ⟨v, q1, q2⟩ := h; exact ⟨v, q1, q2.up e1⟩
          | raw v => exact h
          | own es => exact absurd n'.1 (fun z => nomatch z)
          | keys ks => obtain ⟨a, q1, q2, q3, q4⟩ := h; exact ⟨a, q1, q2, hkk a ks q4 q3, q4⟩
  refine ⟨upd B z (.lst vs), e1, ⟨s.gr.bb.trans e1, s.gr.hh, bh, fun a ha hn => ?_⟩, hz ho h1 s.sl⟩
  have haz : a ≠ z := fun w => hn (by rw [w]; exact h2)
  rw [upd_ne haz]
  exact s.gr.fr a ha hn
/-! ### keys, and a list that is emptied from its end -/
theorem S.laid {K : PySem.W.Frag} {σ : St} {B H : Hp} (s : S K E γ σ B H) {z : Addr} (hz : H z = none) (o : HO) : S K E γ σ B (upd H z o) := by
  have bz : B z = none := s.bh.free hz
  have ez : E.2 z = none := s.gr.hh.free hz
  refine ⟨⟨s.gr.bb, fun b o h => ?_, fun b o h => ?_, s.gr.fr⟩, Paired.mapP s.sl fun sl o h => ?_⟩
  · rw [upd_ne (ne_of_none h ez)]; exact s.gr.hh b o h
  · rw [upd_ne (ne_of_none h bz)]; exact s.bh b o h
  · cases sl with
    | no => trivial
    | dat d => exact h
    | raw v => exact h
    | own ds =>
      obtain ⟨a, vs, h1, h2, h3, h4, h5⟩ := h
      exact ⟨a, vs, h1, h2, h3, by rw [upd_ne (ne_of_none h4 hz)]; exact h4, h5⟩
    | keys ks =>
      obtain ⟨a, h1, h2, h3, h4⟩ := h
      exact ⟨a, h1, h2, h3, by rw [upd_ne (ne_of_none h4 hz)]; exact h4⟩
/-- x = {e: True} -/
theorem s_newKeys (i : Nat) {x : Str} {pos' p p2 : Pos} {j : Nat} {n : Int} (hN : X.N.Nodup) (h : PD X E γ e (.int n)) (hi : X.N[i]? = some x := by rfl) (hx : Loc X.env.scope x := by first | exact Or.inl rfl | exact Or.inr rfl)
    (hs : swapsWith (.Dict [some e] [.Constant (.bool true) j p2] p) (some (.Name x pos')) pos.line X.env = pure false := by rfl)
    (hf : X.fn x = true ∨ X.env.scope.names.lookup x = some .local := by first | exact .inl rfl | exact .inr rfl) : PR X E γ (.Assign [.Name x pos'] (.Dict [some e] [.Constant (.bool true) j p2] p) pos) (.next (γ.set i (.keys [n]))) :=
  (ps_set hN hi hx (pe_disp (pps_cons h dbl pps_nil) rfl rfl (by simp) (by simp)) hs hf).weak fun D σ H ⟨B, s, q⟩ => fun z hz => by
    have bz : B z = none := s.bh.free hz
    have ez : E.2 z = none := s.gr.hh.free hz
    have s1 := s.laid hz (.dK [])
    have nz : (upd H z (.dK [])) z ≠ none := by rw [upd_same]; exact fun q => nomatch q
    refine ⟨B, s1, fun v B1 H1 g1 y => ⟨B1, s1.up g1, fun v2 B2 H2 g2 y2 => ?_⟩⟩
    cases y
    cases y2
    have s2 := (s1.up g1).up g2
    have g12 := g1.trans g2
    have hz2 : H2 z = some (.dK []) := g12.hh _ _ upd_same
    have bz2 : B2 z = none := g12.fr z bz nz
    refine ⟨hz2, [(Sum.inl n, .bl true)], rfl, by simp, ?_⟩
    refine q _ B2 _ g12.bb ⟨⟨s2.gr.bb, fun b o h => ?_, fun b o h => ?_, s2.gr.fr⟩, Slots.set (s := .keys [n]) ⟨z, rfl, ez, bz2, upd_same⟩ i ?_⟩
    · rw [upd_ne (ne_of_none h ez)]; exact s2.gr.hh b o h
    · rw [upd_ne (ne_of_none h bz2)]; exact s2.bh b o h
    · exact Paired.mapP s.sl fun sl o h => by
        cases sl with
        | no => trivial
        | dat d => obtain ⟨v, q1, q2⟩ := h; exact ⟨v, q1, q2.up g12.bb⟩
        | raw v => exact h
        | own ds =>
          obtain ⟨a, vs, h1, h2, h3, h4, h5⟩ := h
          have ne := ne_of_none h4 hz
          have e1 : (upd H z (.dK [])) a = some (.lst vs) := by rw [upd_ne ne]; exact h4
          exact ⟨a, vs, h1, h2, g12.fr a h3 (by rw [e1]; exact fun z => nomatch z), by rw [upd_ne ne]; exact g12.hh _ _ e1, h5.up g12.bb⟩
        | keys ks =>
          obtain ⟨a, h1, h2, h3, h4⟩ := h
          have ne := ne_of_none h4 hz
          have e1 : (upd H z (.dK [])) a = some (keysV ks) := by rw [upd_ne ne]; exact h4
          exact ⟨a, h1, h2, g12.fr a h3 (by rw [e1]; exact fun z => nomatch z), by rw [upd_ne ne]; exact g12.hh _ _ e1⟩
theorem keys_val (k : Int) : ∀ ks : List Int, (valV (κ := Key) (ks.map fun k => (Sum.inl k, V.bl true)) (Sum.inl k)).isSome = decide (k ∈ ks)
  | [] => rfl
  | m :: ks => by
    rw [List.map_cons]
    by_cases h : m = k
    · subst h
      rw [valV_pos rfl]
      simp
    · rw [valV_neg (fun e => h (Sum.inl.inj e)), keys_val k ks]
      have h' : ¬ k = m := fun e => h e.symm
      simp [h']
/-- e not in x -/
theorem t_ninK {k_ : Bool} (i : Nat) {x : Str} {p1 : Pos} {n : Int} {ks : List Int} (hu : X.A.units + 1 < cLine) (ha : PD X E γ a (.int n)) (hN : X.N[i]? = some x := by rfl) (hγ : γ[i]? = some (.keys ks) := by rfl) (hv : Vis X.env.scope x := by first | exact Or.inl rfl | exact Or.inr (Or.inl rfl) | exact Or.inr (Or.inr rfl)) (hd : (x == ("__debug__" : Str)) = false := by decide)
    (hcd : (x == ("__classdict__" : Str)) = false := by decide) (hm : behindInMarks .NotIn (.Name x p1) = false := by rfl) (hk_ : (!decide (n ∈ ks)) = k_ := by rfl) : PB X E γ (.Compare a [.NotIn] [.Name x p1] pos) k_ :=
  PB.is ((pt_cmp (pc_dnotin hu ha (pe_var hN hv hd hcd)) hm).weak fun σ H Q ⟨B, s, q⟩ => ⟨B, s, fun v B1 H1 g1 y => by
    cases y
    obtain ⟨z, h1, h2, h3, h4⟩ := (s.up g1).keys hγ
    refine ⟨_, h1, z, _, rfl, DGet.k (k := Sum.inl n) h4, ?_⟩
    exact ⟨_, rfl, (by rw [keys_val]; exact q B1 H1 g1)⟩⟩) hk_
/-- x[e] = True of a key that is not there -/
theorem s_putK (i : Nat) {x : Str} {p1 p2 p3 : Pos} {j : Nat} {n : Int} {ks : List Int} (hu : X.A.units + 1 < cLine) (hb : PD X E γ b (.int n)) (hn : n ∉ ks) (hz : ks.length < 1000) (hN : X.N[i]? = some x := by rfl) (hγ : γ[i]? = some (.keys ks) := by rfl) (ho : soleKey i γ = true := by rfl)
    (hv : Vis X.env.scope x := by first | exact Or.inl rfl | exact Or.inr (Or.inl rfl) | exact Or.inr (Or.inr rfl)) (hd : (x == ("__debug__" : Str)) = false := by decide) (hcd : (x == ("__classdict__" : Str)) = false := by decide)
    (hs : swapsWith (.Constant (.bool true) j p2) (some (.Subscript (.Name x p1) b p3)) pos.line X.env = pure false := by rfl) : PR X E γ (.Assign [.Subscript (.Name x p1) b p3] (.Constant (.bool true) j p2) pos) (.next (γ.set i (.keys (ks ++ [n])))) :=
  (ps_dput hu (pe_var hN hv hd hcd) hb (dbl (E := E) (γ := γ)) hs).weak fun D σ H ⟨B, s, q⟩ => by
    refine ⟨B, s, fun v B1 H1 g1 y => ?_⟩
    cases y
    have s1 := s.up g1
    obtain ⟨z, h1, h2, h3, h4⟩ := s1.keys hγ
    refine ⟨_, h1, B1, s1, fun v B2 H2 g2 y => ?_⟩
    cases y
    have s2 := s1.up g2
    have h4' := g2.hh _ _ h4
    have b2 : B2 z = none := g2.fr z h3 (by rw [h4]; exact fun q => nomatch q)
    refine ⟨z, _, rfl, DPut.k (k := Sum.inl n) h4' (by rw [List.length_map, sizeLine_eq]; omega), ?_⟩
    have e : putK (κ := Key) (ks.map fun k => (Sum.inl k, V.bl true)) (Sum.inl n) (V.bl true) = (ks ++ [n]).map fun k => (Sum.inl k, V.bl true) := by
      rw [putK_new, List.map_append]
      · rfl
      · have hk := keys_val n ks
        rw [decide_eq_false hn] at hk
        exact Option.not_isSome_iff_eq_none.mp (by rw [hk]; exact Bool.false_ne_true)
    rw [e]
    refine q _ B2 _ (g1.trans g2).bb ⟨⟨s2.gr.bb, fun b o h => ?_, fun b o h => ?_, s2.gr.fr⟩, Slots.changeK (s := .keys (ks ++ [n])) (fun a vs q => by rw [upd_ne (fun w => by rw [w, h4'] at q; cases q)]; exact q) ⟨z, rfl, h2, b2, upd_same⟩ ho h1 s2.sl⟩
    · rw [upd_ne (ne_of_none h h2)]; exact s2.gr.hh b o h
    · rw [upd_ne (ne_of_none h b2)]; exact s2.bh b o h
/-- while x -/
theorem t_truO {k_ : Bool} (i : Nat) {x : Str} {ds : List PyData} (hN : X.N[i]? = some x := by rfl) (hγ : γ[i]? = some (.own ds) := by rfl) (hv : Vis X.env.scope x := by first | exact Or.inl rfl | exact Or.inr (Or.inl rfl) | exact Or.inr (Or.inr rfl)) (hd : (x == ("__debug__" : Str)) = false := by decide)
    (hcd : (x == ("__classdict__" : Str)) = false := by decide) (he : ∀ whole, isTrue (.Name x pos) X.env whole = (do let v ← whole; standAt pos; holding [v] (truthy v)) := by intro _; rfl) (hk_ : (!ds.isEmpty) = k_ := by rfl) : PB X E γ (.Name x pos) k_ :=
  PB.is ((pt_truth (pe_var hN hv hd hcd) he).weak fun σ H Q ⟨B, s, q⟩ => by
    obtain ⟨z, vs, h1, h2, h3, h4, h5⟩ := s.own hγ
    exact ⟨_, h1, _, .inl ⟨_, SqL.of h4, rfl⟩, (by cases h5 <;> exact q B H s.refl)⟩) hk_
/-- y = x.pop() -/
theorem s_pop (i j : Nat) {x y : Str} {pos' p1 p2 p3 : Pos} {ds0 : List PyData} (hNd : X.N.Nodup) (hγ : γ[i]? = some (.own (ds0 ++ [d])) := by rfl) (hN : X.N[i]? = some x := by rfl) (hNj : X.N[j]? = some y := by rfl) (ho : soleOwn i γ = true := by rfl) (hv : Vis X.env.scope x := by first | exact Or.inl rfl | exact Or.inr (Or.inl rfl) | exact Or.inr (Or.inr rfl))
    (hd : (x == ("__debug__" : Str)) = false := by decide) (hcd : (x == ("__classdict__" : Str)) = false := by decide) (hy : Loc X.env.scope y := by first | exact Or.inl rfl | exact Or.inr rfl)
    (hs : swapsWith (.Call (.Attribute (.Name x p1) "pop" p2) [] [] p3) (some (.Name y pos')) pos.line X.env = pure false := by rfl) (hf : X.fn y = true ∨ X.env.scope.names.lookup y = some .local := by first | exact .inl rfl | exact .inr rfl)
    (hbase : attributeBase (.Name x p1) "pop" X.env (eval (.Name x p1) X.env) = eval (.Name x p1) X.env := by rfl) (hline : (p2.endLine == p3.line) = true := by rfl) :
    PR X E γ (.Assign [.Name y pos'] (.Call (.Attribute (.Name x p1) "pop" p2) [] [] p3) pos) (.next ((γ.set i (.own ds0)).set j (.dat d))) :=
  (ps_set hNd hNj hy (pe_bm0 PySem.F.plainAttrs_list PySem.F.slot_list_pop PySem.F.type_list_pop mt_pop (pe_var hN hv hd hcd) hbase hline) hs hf).weak fun D σ H ⟨B, s, q⟩ => by
    obtain ⟨z, vs, h1, h2, h3, h4, h5⟩ := s.own hγ
    have hlen := h5.length
    rw [List.length_append, List.length_singleton] at hlen
    have hlast : (ds0 ++ [d])[vs.length - 1]? = some d := by
      rw [hlen, Nat.add_sub_cancel, List.getElem?_append_right (Nat.le_refl _), Nat.sub_self]
      rfl
    obtain ⟨u, hu, du⟩ := h5.get hlast
    refine ⟨_, h1, .inl ⟨rfl, _, SqL.of h4⟩, z, vs, u, rfl, rfl, h4, hu, ?_⟩
    have h6 : DtL X.K B vs.dropLast ds0 := by
      have := h5.take (vs.length - 1)
      rw [← List.dropLast_eq_take] at this
      rw [hlen, Nat.add_sub_cancel, List.take_left] at this
      exact this
    exact q _ B _ (Same.refl B) ((s.change ho h1 h2 h3 h4 h6).set du)
/-- sorted(x) of the keys -/
theorem d_sortedK {ks ms : List Int} (i : Nat) {x : Str} {p p2 : Pos} (hc : X.calm = true) (hm : X.mg "sorted" = none) (hz : ks.length < 64) (hk : ms.Perm ks) (hko : ms.Pairwise (· ≤ ·)) (hN : X.N[i]? = some x := by rfl) (hγ : γ[i]? = some (.keys ks) := by rfl) (hv : Vis X.env.scope x := by first | exact Or.inl rfl | exact Or.inr (Or.inl rfl) | exact Or.inr (Or.inr rfl))
    (hd : (x == ("__debug__" : Str)) = false := by decide) (hcd : (x == ("__classdict__" : Str)) = false := by decide) (hg : Gl X "sorted" := by rfl) (hst : starEach [.Name x p2] X.env = (false, eval (.Name x p2) X.env) :: starEach [] X.env := by rfl) : PD X E γ (.Call (.Name "sorted" p) [.Name x p2] [] pos) (.list (ms.map .int)) :=
  (pe_callB (call_sortedDI hc) hg hm (by decide +kernel) (pa_cons (pe_var hN hv hd hcd) pa_nil hst) (he := hst)).weak fun σ H Q ⟨B, s, q⟩ => by
    obtain ⟨z, h1, h2, h3, h4⟩ := s.keys hγ
    refine ⟨_, h1, z, _, ks, rfl, .inl h4, by rw [List.map_map]; rfl, hz, fun ys p hp ho hn => ?_⟩
    rw [sorted_one hp ho hk hko]
    exact q _ _ _ (Gr.new s.bh hn _) (.lst upd_same (DtL.ofInts _))
end
end Tb

set_option maxHeartbeats 1000000
/-! Data: growing lists read, comprehensions, the defs' promises. -/
namespace Tb
open PySem PySem.Spec PyProof.Rows
open L2
section
variable {X : Cx} {E : Hp × Hp} {γ γ1 γ2 : List Slot} {pos : Pos} {a b c e : Expr} {d d1 d2 : PyData} {r : Res} {st : Stmt} {rest body orelse : List Stmt} {l es : List PyData}
/-! ### a growing list, read -/
theorem r_freeze (i : Nat) {ds : List PyData} (h : PRs X E (γ.set i (.dat (.list ds))) body r) (hγ : γ[i]? = some (.own ds) := by rfl) (ho : soleOwn i γ = true := by rfl) : PRs X E γ body r :=
  h.weak fun D σ H ⟨B, s, q⟩ => by
    obtain ⟨B', e', s'⟩ := s.freeze hγ ho
    exact ⟨B', s', q.mono e'⟩
theorem s_freeze (i : Nat) {ds : List PyData} (h : PR X E (γ.set i (.dat (.list ds))) st r) (hγ : γ[i]? = some (.own ds) := by rfl) (ho : soleOwn i γ = true := by rfl) : PR X E γ st r :=
  h.weak fun D σ H ⟨B, s, q⟩ => by
    obtain ⟨B', e', s'⟩ := s.freeze hγ ho
    exact ⟨B', s', q.mono e'⟩
section
variable {x : Str} {p1 p2 : Pos} {i : Nat} {ds : List PyData}
theorem d_lenO {k_ : Int} (i : Nat) (hm : X.mg "len" = none) (hN : X.N[i]? = some x := by rfl) (hγ : γ[i]? = some (.own ds) := by rfl) (hv : Vis X.env.scope x := by first | exact Or.inl rfl | exact Or.inr (Or.inl rfl) | exact Or.inr (Or.inr rfl)) (hd : (x == ("__debug__" : Str)) = false := by decide)
    (hcd : (x == ("__classdict__" : Str)) = false := by decide) (hg : Gl X "len" := by rfl) (hst : starEach [.Name x p1] X.env = (false, eval (.Name x p1) X.env) :: starEach [] X.env := by rfl) (hk_ : ds.length = k_ := by rfl) : PD X E γ (.Call (.Name "len" p2) [.Name x p1] [] pos) (.int k_) := PD.is ((pe_callB call_len_seq hg hm PySem.boot_len (pa_cons (pe_var hN hv hd hcd) pa_nil hst) (he := hst)).weak fun σ H Q ⟨B, s, q⟩ => by
    obtain ⟨z, vs, h1, h2, h3, h4, h5⟩ := s.own hγ
    refine ⟨_, h1, _, _, rfl, .inl (SqL.of h4), ?_⟩
    rw [h5.length]
    exact q _ B H s.refl (.int _)) (congrArg _ hk_)
theorem d_ixO (i : Nat) {k : Int} (hb : PD X E γ b (.int k)) (hk : atI ds k = some d) (hN : X.N[i]? = some x := by rfl) (hγ : γ[i]? = some (.own ds) := by rfl) (hv : Vis X.env.scope x := by first | exact Or.inl rfl | exact Or.inr (Or.inl rfl) | exact Or.inr (Or.inr rfl)) (hd : (x == ("__debug__" : Str)) = false := by decide)
    (hcd : (x == ("__classdict__" : Str)) = false := by decide) (hs : PlainIx b := by exact fun _ _ => rfl) : PD X E γ (.Subscript (.Name x p1) b pos) d :=
  (pe_ix ix_list (pe_var hN hv hd hcd) hb hs).weak fun σ H Q ⟨B, s, q⟩ => by
    obtain ⟨z, vs, h1, h2, h3, h4, h5⟩ := s.own hγ
    refine ⟨_, h1, B, s, fun v B1 H1 g1 y => ?_⟩
    cases y
    obtain ⟨u, hu, du⟩ := h5.at hk
    exact ⟨z, vs, k, u, rfl, rfl, SqL.of (g1.hh _ _ h4), hu, q u B1 H1 g1 (du.up g1.bb)⟩
theorem t_ninO {k_ : Bool} (i : Nat) (ha : PD X E γ a d) (f : flatD d = true) (fl : ds.all flatD = true) (hN : X.N[i]? = some x := by rfl) (hγ : γ[i]? = some (.own ds) := by rfl) (hv : Vis X.env.scope x := by first | exact Or.inl rfl | exact Or.inr (Or.inl rfl) | exact Or.inr (Or.inr rfl)) (hd : (x == ("__debug__" : Str)) = false := by decide)
    (hcd : (x == ("__classdict__" : Str)) = false := by decide) (hm : behindInMarks .NotIn (.Name x p1) = false := by rfl) (hk_ : (!inD d ds) = k_ := by rfl) : PB X E γ (.Compare a [.NotIn] [.Name x p1] pos) k_ := PB.is ((pt_cmpR op_notIn_seq ha (pe_var hN hv hd hcd) hm).weak fun σ H Q ⟨B, s, q⟩ => ⟨B, s, fun v B1 H1 g1 y => by
    obtain ⟨z, vs, h1, h2, h3, h4, h5⟩ := (s.up g1).own hγ
    refine ⟨_, h1, z, vs, rfl, .inl (SqL.of h4), flat_of y f, allFlat h5 fl, ?_⟩
    rw [inV_of y f h5 fl]
    exact ⟨_, rfl, q B1 H1 g1⟩⟩) hk_
end
/-! ### list.index of True -/
theorem d_indexT {bs : List Bool} {j : Nat} {k_ : Int} {p1 : Pos} {jb : Nat} {pb : Pos} (he : PD X E γ e (.list (bs.map .bool))) (hj : bs[j]? = some true) (hlt : ∀ m, m < j → bs[m]? = some false)
    (hst : starEach [.Constant (.bool true) jb pb] X.env = (false, eval (.Constant (.bool true) jb pb) X.env) :: starEach [] X.env := by rfl) (hbase : attributeBase e "index" X.env (eval e X.env) = eval e X.env := by rfl)
    (hfew : ((backTo pos (starEach [.Constant (.bool true) jb pb] X.env)).all (fun x => !x.1) && (backToKw pos (keywordEach [] X.env)).all (fun x => x.1.isSome) && decide ([Expr.Constant (.bool true) jb pb].length + ([] : List Keyword).length + (if ([] : List Keyword).isEmpty then 0 else 1) < 30)) = true := by rfl)
    (hline : (p1.endLine == pos.line) = true := by rfl) (hk_ : (j : Int) = k_ := by rfl) : PD X E γ (.Call (.Attribute e "index" p1) [.Constant (.bool true) jb pb] [] pos) (.int k_) :=
  PD.is (PE.weak (pe_bm PySem.F.plainAttrs_list PySem.F.slot_list_index PySem.F.type_list_index mt_index he (a_cons dbl a_nil hst) hbase hfew hline hst) (fun σ H Q ⟨B, s, q⟩ => ⟨B, s, fun v B1 H1 g1 y => by
    cases y with
    | @lst z xs _ h1 h2 =>
      have ex := h2.bools
      subst ex
      refine ⟨.inl ⟨rfl, _, SqL.of (g1.bh _ _ h1)⟩, B1, s.up g1, fun ws B2 H2 g2 y2 => ?_⟩
      obtain ⟨w, rfl, yw⟩ := dtl1 y2
      cases yw
      refine ⟨z, bs.map V.bl, .bl true, j, .bl true, rfl, rfl, SqL.of (g2.hh _ _ (g1.bh _ _ h1)), rfl, ?_, ?_, rfl, ?_, q _ B2 H2 (g1.trans g2) (.int _)⟩
      · rw [List.all_map]; exact List.all_eq_true.mpr fun x _ => rfl
      · rw [List.getElem?_map, hj]; rfl
      · intro m z' hm hz
        rw [List.getElem?_map, hlt m hm] at hz
        cases hz
        rfl⟩)) (congrArg PyData.int hk_)
/-! ### comprehensions -/
abbrev Blk (X : Cx) (scope : Scope) (s : Shared) (H : Hp) (C : Addr) (cl : List (Str × Addr)) (fp : List Addr) : Cx := X.blk s H scope (compEnvC scope cl C X.env) fp
inductive Lc (X : Cx) (E : Hp × Hp) (scope : Scope) (T : Tgt) (ifs : List Expr) (elt : Expr) (γ0 : List Slot) : List PyData → List PyData → Prop where
  | nil : Lc X E scope T ifs elt γ0 [] []
  | keep {d e : PyData} {l es : List PyData} {γ1 : List Slot} (t : T d γ0 γ1) (ht : ∀ s H C cl fp, PTs (Blk X scope s H C cl fp) ifs (tB' X.K E γ1 true)) (he : ∀ s H C cl fp, PD (Blk X scope s H C cl fp) E γ1 elt e) (k : Lc X E scope T ifs elt γ0 l es) : Lc X E scope T ifs elt γ0 (d :: l) (e :: es)
  | skip {d : PyData} {l es : List PyData} {γ1 : List Slot} (t : T d γ0 γ1) (ht : ∀ s H C cl fp, PTs (Blk X scope s H C cl fp) ifs (tB' X.K E γ1 false)) (k : Lc X E scope T ifs elt γ0 l es) : Lc X E scope T ifs elt γ0 (d :: l) es
def tElt (X : Cx) (E : Hp × Hp) (scope : Scope) (elt : Expr) : TE := fun σ H Q => ∃ γ d, (∀ s H C cl fp, PD (Blk X scope s H C cl fp) E γ elt d) ∧ tD X.K E γ d σ H Q
def tIfs (X : Cx) (E : Hp × Hp) (scope : Scope) (ifs : List Expr) : TT := fun σ H Q => ∃ γ b, (∀ s H C cl fp, PTs (Blk X scope s H C cl fp) ifs (tB' X.K E γ b)) ∧ tB' X.K E γ b σ H Q
theorem pts0 {Y : Cx} : PTs Y [] (tB' Y.K E γ true) := ⟨fun pins s σ H Q I ⟨B, st, q⟩ => pts_nil.run pins s σ H Q I (q B H st.refl)⟩
theorem pts1 {Y : Cx} {k : Bool} (h : PB Y E γ c k) : PTs Y [c] (tB' Y.K E γ k) := pts_one h
theorem wipe_get (σ : St) (j : Nat) : ∀ vs : List Nat, (wipe σ vs)[j]? = if j ∈ vs ∧ j < σ.length then some none else σ[j]?
  | [] => by simp [wipe]
  | v :: vs => by
    unfold wipe
    by_cases hv : v = j
    · subst hv
      by_cases hl : v < σ.length
      · rw [List.getElem?_set_self (by rw [wipe_length]; exact hl), if_pos ⟨by simp, hl⟩]
      · rw [List.getElem?_eq_none (by rw [List.length_set, wipe_length]; omega), if_neg (fun h => hl h.2), List.getElem?_eq_none (by omega)]
    · rw [List.getElem?_set_ne hv, wipe_get σ j vs]
      have : (j ∈ v :: vs) ↔ j ∈ vs := by simp only [List.mem_cons]; constructor
                                          · rintro (h | h)
                                            · exact absurd h.symm hv
                                            · exact h
                                          · exact Or.inr
      simp only [this]
theorem wipe_set {σ : St} {i : Nat} {o : Option V} {vs : List Nat} (h : i ∈ vs) : wipe (σ.set i o) vs = wipe σ vs := by
  apply List.ext_getElem?
  intro j
  rw [wipe_get, wipe_get, List.length_set]
  by_cases hj : j ∈ vs ∧ j < σ.length
  · rw [if_pos hj, if_pos hj]
  · rw [if_neg hj, if_neg hj]
    by_cases hij : i = j
    · subst hij
      have : σ.length ≤ i := by
        apply Nat.le_of_not_lt
        intro w
        exact hj ⟨h, w⟩
      rw [List.getElem?_eq_none (by rw [List.length_set]; exact this), List.getElem?_eq_none this]
    · rw [List.getElem?_set_ne hij]
theorem wipe_wipe (σ : St) (vs : List Nat) : wipe (wipe σ vs) vs = wipe σ vs := by
  apply List.ext_getElem?
  intro j
  rw [wipe_get, wipe_length, wipe_get]
  by_cases hj : j ∈ vs ∧ j < σ.length
  · rw [if_pos hj, if_pos hj]
  · rw [if_neg hj]
/-- a target in a comprehension, by what it does with a datum -/
def TgOk (K : PySem.W.Frag) (E : Hp × Hp) (g : TG) (T : Tgt) (vs : List Nat) : Prop :=
  ∀ (x : V) (σ : St) (B H : Hp) (Q : St → Hp → Prop) (d : PyData) (γ0 γ1 : List Slot), S K E γ0 (wipe σ vs) B H → Dt K B x d → T d γ0 γ1 → (∀ σ2, S K E γ1 σ2 B H → wipe σ2 vs = wipe σ vs → Q σ2 H) → g x (wipe σ vs) H Q
theorem tg1 {K : PySem.W.Frag} {i : Nat} {vs : List Nat} (h : i ∈ vs) : TgOk K E (gName i) (T1 i) vs := fun x σ B H Q d γ0 γ1 s y t q => by
  cases t
  exact q _ (s.set y) ((wipe_set h).trans (wipe_wipe σ vs))
theorem tg3 {K : PySem.W.Frag} {i j k : Nat} {vs : List Nat} (h : i ∈ vs) (h2 : j ∈ vs) (h3 : k ∈ vs) : TgOk K E (gTup K 3 (gCons (gName i) (gCons (gName j) (gCons (gName k) gNil)))) (T3 i j k) vs := fun x σ B H Q d γ0 γ1 s y t q => by
  obtain ⟨a, b, c, rfl, rfl⟩ := t
  cases y with
  | tup h1 y1 =>
    obtain ⟨u, w, z, rfl, y1, y2, y3⟩ := dtl3 y1
    refine ⟨_, _, rfl, same_sqt s.bh h1, rfl, _, _, rfl, _, _, rfl, _, _, rfl, rfl, q _ (((s.set y1).set y2).set y3) ?_⟩
    rw [wipe_set h3, wipe_set h2, wipe_set h, wipe_wipe]
/-- what a comprehension over l keeps between its turns -/
structure LcAt (X : Cx) (E : Hp × Hp) (scope : Scope) (T : Tgt) (ifs : List Expr) (elt : Expr) (γ0 : List Slot) (l es : List PyData) (B1 H1 : Hp) (D : Addr) (k : Nat) (H' : Hp) : Prop where
  ex : ∃ B' vs done es', Gr B1 H1 B' H' ∧ B' D = none ∧ H' D = some (.lst vs) ∧ DtL X.K B' vs done ∧ done.length ≤ k ∧ Lc X E scope T ifs elt γ0 (l.drop k) es' ∧ done ++ es' = es
section
variable {scope : Scope} {own : List (Str × Nat)} {T : Tgt} {ifs : List Expr} {elt tg iter : Expr} {g : TG} {vs0 : List Nat} {B1 H1 H' : Hp} {D : Addr} {σ : St}
theorem LcAt.start {γ0 : List Slot} (e : Same B1 H1) (hD : H1 D = none) (k : Lc X E scope T ifs elt γ0 l es) : LcAt X E scope T ifs elt γ0 l es B1 H1 D 0 (upd H1 D (.lst [])) :=
  ⟨B1, [], [], es, ⟨Same.refl B1, same_new hD _, Gr.side e (e.free hD) _, fun _ z _ => z⟩, e.free hD, upd_same, .nil, Nat.le_refl 0, k, rfl⟩
theorem LcAt.turn {k : Nat} {x : V} (w : LcAt X E scope T ifs elt (wipeG γ vs0) l es B1 H1 D k H') (hD : H1 D = none) (s : S X.K E γ σ B1 H1) (tk : TgOk X.K E g T vs0) (hz : k < 1000000)
    (hx : ∃ d, l[k]? = some d ∧ Dt X.K B1 x d) : g x (wipe σ vs0) H' fun σ2 H2 => wipe σ2 vs0 = wipe σ vs0 ∧ tIfs X E scope ifs σ2 H2 fun b H3 =>
      if b = true then tElt X E scope elt σ2 H3 fun y H4 => ∃ acc, H4 D = some (.lst acc) ∧ acc.length < sizeLine ∧ LcAt X E scope T ifs elt (wipeG γ vs0) l es B1 H1 D (k + 1) (upd H4 D (.lst (acc ++ [y]))) else LcAt X E scope T ifs elt (wipeG γ vs0) l es B1 H1 D (k + 1) H3 := by
  obtain ⟨B', vs, done, es', g1, bD, hD', hd, hlen, lk, hes⟩ := w.ex
  obtain ⟨d, hdk, yd⟩ := hx
  have hk := (List.getElem?_eq_some_iff.mp hdk).1
  have ed : l.drop k = d :: l.drop (k + 1) := by
    rw [List.drop_eq_getElem_cons hk]
    congr 1
    exact (List.getElem?_eq_some_iff.mp hdk).2
  rw [ed] at lk
  have s0 : S X.K E (wipeG γ vs0) (wipe σ vs0) B' H' := (s.up g1).wipe vs0
  cases lk with
  | keep t ht he lk =>
    refine tk x σ B' H' _ d _ _ s0 (yd.up g1.bb) t fun σ2 s2 ew => ⟨ew, _, true, ht, B', s2, fun B2 H2 g2 => iteT ⟨_, _, he, B2, s2.up g2, fun y B3 H3 g3 yy => ?_⟩⟩
    have g23 := g2.trans g3
    have nH : H' D ≠ none := by rw [hD']; exact fun z => nomatch z
    have b3 : B3 D = none := g23.fr D bD nH
    have h3 : H3 D = some (.lst vs) := g23.hh _ _ hD'
    have gg := g1.trans g23
    refine ⟨vs, h3, Nat.lt_of_lt_of_le (by rw [hd.length]; exact Nat.lt_of_le_of_lt hlen hz) (by rw [sizeLine_eq]; decide), ⟨B3, vs ++ [y], done ++ [_], _, ⟨gg.bb, fun b o q => ?_, Gr.side gg.bh b3 _, gg.fr⟩, b3, upd_same, (hd.up g23.bb).append (.cons yy .nil), by rw [List.length_append]; exact Nat.succ_le_succ hlen, lk, by rw [← hes, List.append_assoc]; rfl⟩⟩
    rw [upd_ne (ne_of_none q hD)]
    exact gg.hh b o q
  | skip t ht lk =>
    refine tk x σ B' H' _ d _ _ s0 (yd.up g1.bb) t fun σ2 s2 ew => ⟨ew, _, false, ht, B', s2, fun B2 H2 g2 => iteF ?_⟩
    have nH : H' D ≠ none := by rw [hD']; exact fun z => nomatch z
    exact ⟨B2, vs, done, es', g1.trans g2, g2.fr D bD nH, g2.hh _ _ hD', hd.up g2.bb, Nat.le_succ_of_le hlen, lk, hes⟩
theorem LcAt.fin {B H : Hp} {n : Nat} {γ0 : List Slot} {Q : VK} (hn : l.length ≤ n) (w : LcAt X E scope T ifs elt γ0 l es B1 H1 D n H') (g0 : Gr B H B1 H1) (hD : H1 D = none) (q : ∀ v B' H', Gr B H B' H' → Dt X.K B' v (.list es) → Q v H') : Q (.ref D) H' := by
  obtain ⟨B', vs, done, es', g1, bD, hD', hd, hlen, lk, hes⟩ := w.ex
  rw [List.drop_eq_nil_of_le hn] at lk
  cases lk
  rw [List.append_nil] at hes
  subst hes
  have gg := g0.trans g1
  have e1 : Same B' (upd B' D (.lst vs)) := same_new bD _
  refine q _ (upd B' D (.lst vs)) H' ⟨gg.bb.trans e1, gg.hh, fun b o h => ?_, fun a ha hn => ?_⟩ (.lst upd_same (hd.up e1))
  · by_cases hb : b = D
    · subst hb; rw [upd_same] at h; rw [hD']; exact h
    · rw [upd_ne hb] at h; exact gg.bh b o h
  · have : a ≠ D := fun z => hn (by rw [z]; exact g0.hh.free hD)
    rw [upd_ne this]
    exact gg.fr a ha hn
theorem pe_elt (s : Shared) (H : Hp) (C : Addr) (cl : List (Str × Addr)) (fp : List Addr) : PE (Blk X scope s H C cl fp) elt (tElt X E scope elt) := ⟨fun pins s' σ H' Q I ⟨γ, d, h, t⟩ => (h s H C cl fp).run pins s' σ H' Q I t⟩
theorem pt_ifs (s : Shared) (H : Hp) (C : Addr) (cl : List (Str × Addr)) (fp : List Addr) : PTs (Blk X scope s H C cl fp) ifs (tIfs X E scope ifs) := ⟨fun pins s' σ H' Q I ⟨γ, b, h, t⟩ => (h s H C cl fp).run pins s' σ H' Q I t⟩
theorem lc_tL (h : PD X E γ iter (.list l)) (tk : TgOk X.K E g T (own.map (·.2))) (hz : l.length ≤ 100000) (k : Lc X E scope T ifs elt (wipeG γ (own.map (·.2))) l es) (σ : St) (H : Hp) (Q : VK) (w : tD X.K E γ (.list es) σ H Q) :
    tLc (iList X.K (tD X.K E γ (.list l))) g (tIfs X E scope ifs) (tElt X E scope elt) (own.map (·.2)) σ H Q := by
  obtain ⟨B, s, q⟩ := w
  refine ⟨B, s, fun v B1 H1 g1 x1 => ?_⟩
  cases x1 with
  | @lst a xs _ h1 h2 =>
    refine ⟨a, rfl, ⟨xs, SqL.of (g1.bh _ _ h1)⟩, fun D hD => lc_list (xs := xs) (fun k H' => LcAt X E scope T ifs elt (wipeG γ (own.map (·.2))) l es B1 H1 D k H') (.start g1.bh hD k) (fun i H' _ w => ?_) (fun i x H' hx w => ?_) fun H' w => ?_⟩
    · obtain ⟨B', vs, done, es', g2, _⟩ := w.ex
      exact SqL.of (g2.hh _ _ (g1.bh _ _ h1))
    · exact w.turn hD (s.up g1) tk (by have := (List.getElem?_eq_some_iff.mp hx).1; rw [h2.length] at this; omega) (h2.getV hx)
    · exact w.fin (by rw [h2.length]; exact Nat.le_refl _) g1 hD q
theorem lc_tT (h : PD X E γ iter (.tuple l)) (tk : TgOk X.K E g T (own.map (·.2))) (hz : l.length ≤ 100000) (k : Lc X E scope T ifs elt (wipeG γ (own.map (·.2))) l es) (σ : St) (H : Hp) (Q : VK) (w : tD X.K E γ (.list es) σ H Q) :
    tLc (iTup X.K (tD X.K E γ (.tuple l))) g (tIfs X E scope ifs) (tElt X E scope elt) (own.map (·.2)) σ H Q := by
  obtain ⟨B, s, q⟩ := w
  refine ⟨B, s, fun v B1 H1 g1 x1 => ?_⟩
  cases x1 with
  | @tup a xs _ h1 h2 =>
    refine ⟨a, rfl, ⟨xs, same_sqt g1.bh h1⟩, fun D hD => lc_tup (xs := xs) (fun k H' => LcAt X E scope T ifs elt (wipeG γ (own.map (·.2))) l es B1 H1 D k H') (.start g1.bh hD k) (fun i H' _ w => ?_) (fun i x H' hx w => ?_) fun H' w => ?_⟩
    · obtain ⟨B', vs, done, es', g2, _⟩ := w.ex
      exact same_sqt g2.hh (same_sqt g1.bh h1)
    · exact w.turn hD (s.up g1) tk (by have := (List.getElem?_eq_some_iff.mp hx).1; rw [h2.length] at this; omega) (h2.getV hx)
    · exact w.fin (by rw [h2.length]; exact Nat.le_refl _) g1 hD q
theorem lc_tR {n : Nat} (h : PD X E γ iter (.int (n : Int))) (hn : n ≤ 1000) (tk : TgOk X.K E g T (own.map (·.2))) (k : Lc X E scope T ifs elt (wipeG γ (own.map (·.2))) (rgD n) es) (σ : St) (H : Hp) (Q : VK) (w : tD X.K E γ (.list es) σ H Q) :
    tLc (iRng1 (tA X.K E γ [.int (n : Int)])) g (tIfs X E scope ifs) (tElt X E scope elt) (own.map (·.2)) σ H Q := by
  obtain ⟨B, s, q⟩ := w
  refine ⟨B, s, fun vs B1 H1 g1 x1 => ?_⟩
  obtain ⟨v, rfl, y⟩ := dtl1 x1
  cases y
  refine ⟨(n : Int), rfl, by omega, by omega, fun D hD => ?_⟩
  have en : ((n : Int)).toNat = n := by omega
  rw [en]
  refine lc_range (lo := 0) (n := n) (fun k H' => LcAt X E scope T ifs elt (wipeG γ (own.map (·.2))) (rgD n) es B1 H1 D k H') (.start g1.bh hD k) (fun i H' hi w => ?_) fun H' w => ?_
  · exact w.turn hD (s.up g1) tk (by omega) ⟨_, rgD_get hi, by rw [Int.zero_add]; exact .int _⟩
  · exact w.fin (by rw [rgD_len]; exact Nat.le_refl _) g1 hD q
/-- [elt for tg in iter if ..] over a list, a tuple, a range -/
theorem d_lcL (own : List (Str × Nat)) (hc : X.calm = true) (hN : X.N.Nodup) (h : PD X E γ iter (.list l)) (ok : blkC X.N X.env.scope scope own = true) (hg : ∀ s H C cl fp, PG (Blk X scope s H C cl fp) tg g) (tk : TgOk X.K E g T (own.map (·.2))) (hz : l.length ≤ 100000)
    (k : Lc X E scope T ifs elt (wipeG γ (own.map (·.2))) l es) (hs : ∀ x, foldedSetIterable iter X.env x = pure x := by intro _; rfl) : PD X E γ (.ListComp elt [⟨tg, iter, ifs, 0⟩] scope pos) (.list es) :=
  (pe_lc hc hN (pi_list h) (blkOk_by ok) hg (fun s H C cl fp => pt_ifs (E := E) s H C cl fp) (fun s H C cl fp => pe_elt (E := E) s H C cl fp) hs).weak fun σ H Q w => lc_tL h tk hz k σ H Q w
theorem d_lcT (own : List (Str × Nat)) (hc : X.calm = true) (hN : X.N.Nodup) (h : PD X E γ iter (.tuple l)) (ok : blkC X.N X.env.scope scope own = true) (hg : ∀ s H C cl fp, PG (Blk X scope s H C cl fp) tg g) (tk : TgOk X.K E g T (own.map (·.2))) (hz : l.length ≤ 100000)
    (k : Lc X E scope T ifs elt (wipeG γ (own.map (·.2))) l es) (hs : ∀ x, foldedSetIterable iter X.env x = pure x := by intro _; rfl) : PD X E γ (.ListComp elt [⟨tg, iter, ifs, 0⟩] scope pos) (.list es) :=
  (pe_lc hc hN (pi_tup h) (blkOk_by ok) hg (fun s H C cl fp => pt_ifs (E := E) s H C cl fp) (fun s H C cl fp => pe_elt (E := E) s H C cl fp) hs).weak fun σ H Q w => lc_tT h tk hz k σ H Q w
theorem d_lcR (own : List (Str × Nat)) {n : Nat} {p2 p3 : Pos} (hc : X.calm = true) (hN : X.N.Nodup) (hm : X.mg "range" = none) (h : PD X E γ iter (.int (n : Int))) (hn : n ≤ 1000) (ok : blkC X.N X.env.scope scope own = true) (hg : ∀ s H C cl fp, PG (Blk X scope s H C cl fp) tg g) (tk : TgOk X.K E g T (own.map (·.2)))
    (k : Lc X E scope T ifs elt (wipeG γ (own.map (·.2))) (rgD n) es) (hgl : Gl X "range" := by rfl) (hst : starEach [iter] X.env = (false, eval iter X.env) :: starEach [] X.env := by rfl) (hs : ∀ x, foldedSetIterable (.Call (.Name "range" p2) [iter] [] p3) X.env x = pure x := by intro _; rfl) :
    PD X E γ (.ListComp elt [⟨tg, .Call (.Name "range" p2) [iter] [] p3, ifs, 0⟩] scope pos) (.list es) :=
  (pe_lc hc hN (pi_range1 hgl hm (a_cons h a_nil hst) hst) (blkOk_by ok) hg (fun s H C cl fp => pt_ifs (E := E) s H C cl fp) (fun s H C cl fp => pe_elt (E := E) s H C cl fp) hs).weak fun σ H Q w => lc_tR h hn tk k σ H Q w
/-- x = [..] on one line -/
theorem s_lcL (i : Nat) {y : Str} {py spos : Pos} (own : List (Str × Nat)) (hc : X.calm = true) (hN : X.N.Nodup) (h : PD X E γ iter (.list l)) (ok : blkC X.N X.env.scope scope own = true) (hg : ∀ s H C cl fp, PG (Blk X scope s H C cl fp) tg g) (tk : TgOk X.K E g T (own.map (·.2))) (hz : l.length ≤ 100000)
    (k : Lc X E scope T ifs elt (wipeG γ (own.map (·.2))) l es) (hy : X.N[i]? = some y := by rfl) (hyl : X.env.scope.names.lookup y = some .local := by rfl) (hsw : swapsWith (.ListComp elt [⟨tg, iter, ifs, 0⟩] scope pos) (some (.Name y py)) spos.line X.env = pure true := by exact sw_true rfl rfl rfl (by decide +kernel))
    (hs : ∀ x, foldedSetIterable iter X.env x = pure x := by intro _; rfl) : PR X E γ (.Assign [.Name y py] (.ListComp elt [⟨tg, iter, ifs, 0⟩] scope pos) spos) (.next (γ.set i (.dat (.list es)))) :=
  (ps_setLc hc hN hy hyl hsw (pi_list h) (blkOk_by ok) hg (fun s H C cl fp => pt_ifs (E := E) s H C cl fp) (fun s H C cl fp => pe_elt (E := E) s H C cl fp) hs).weak fun D σ H ⟨B, s, q⟩ =>
    lc_tL h tk hz k σ H _ ⟨B, s, fun v B' H' g x => q _ B' H' g.bb ((s.up g).set x)⟩
theorem s_lcT (i : Nat) {y : Str} {py spos : Pos} (own : List (Str × Nat)) (hc : X.calm = true) (hN : X.N.Nodup) (h : PD X E γ iter (.tuple l)) (ok : blkC X.N X.env.scope scope own = true) (hg : ∀ s H C cl fp, PG (Blk X scope s H C cl fp) tg g) (tk : TgOk X.K E g T (own.map (·.2))) (hz : l.length ≤ 100000)
    (k : Lc X E scope T ifs elt (wipeG γ (own.map (·.2))) l es) (hy : X.N[i]? = some y := by rfl) (hyl : X.env.scope.names.lookup y = some .local := by rfl) (hsw : swapsWith (.ListComp elt [⟨tg, iter, ifs, 0⟩] scope pos) (some (.Name y py)) spos.line X.env = pure true := by exact sw_true rfl rfl rfl (by decide +kernel))
    (hs : ∀ x, foldedSetIterable iter X.env x = pure x := by intro _; rfl) : PR X E γ (.Assign [.Name y py] (.ListComp elt [⟨tg, iter, ifs, 0⟩] scope pos) spos) (.next (γ.set i (.dat (.list es)))) :=
  (ps_setLc hc hN hy hyl hsw (pi_tup h) (blkOk_by ok) hg (fun s H C cl fp => pt_ifs (E := E) s H C cl fp) (fun s H C cl fp => pe_elt (E := E) s H C cl fp) hs).weak fun D σ H ⟨B, s, q⟩ =>
    lc_tT h tk hz k σ H _ ⟨B, s, fun v B' H' g x => q _ B' H' g.bb ((s.up g).set x)⟩
/-- its relation by functions -/
theorem lc_map {f : PyData → PyData} {γ0 : List Slot} : ∀ {l : List PyData} (h : ∀ d ∈ l, ∃ γ1, T d γ0 γ1 ∧ ∀ s H C cl fp, PD (Blk X scope s H C cl fp) E γ1 elt (f d)), Lc X E scope T [] elt γ0 l (l.map f)
  | [], _ => .nil
  | d :: l, h => by
    obtain ⟨γ1, t, he⟩ := h d (by simp)
    exact .keep t (fun s H C cl fp => pts0) he (lc_map fun x hx => h x (List.mem_cons_of_mem _ hx))
theorem lc_filter {p : PyData → Bool} {f : PyData → PyData} {γ0 : List Slot} {c : Expr} : ∀ {l : List PyData} (h : ∀ d ∈ l, ∃ γ1, T d γ0 γ1 ∧ (∀ s H C cl fp, PB (Blk X scope s H C cl fp) E γ1 c (p d)) ∧ (p d = true → ∀ s H C cl fp, PD (Blk X scope s H C cl fp) E γ1 elt (f d))), Lc X E scope T [c] elt γ0 l ((l.filter p).map f)
  | [], _ => .nil
  | d :: l, h => by
    obtain ⟨γ1, t, ht, he⟩ := h d (by simp)
    have ih := lc_filter (p := p) (f := f) fun x hx => h x (List.mem_cons_of_mem _ hx)
    cases hp : p d with
    | true =>
      rw [List.filter_cons_of_pos hp]
      rw [hp] at ht he
      exact .keep t (fun s H C cl fp => pts1 (ht s H C cl fp)) (he rfl) ih
    | false =>
      rw [List.filter_cons_of_neg (by rw [hp]; exact Bool.false_ne_true)]
      rw [hp] at ht
      exact .skip t (fun s H C cl fp => pts1 (ht s H C cl fp)) ih
end
/-! ### own defs -/
/-- the promise of a def that changes nothing: R tells what its answer is -/
def spR (K : PySem.W.Frag) (R : List PyData → PyData → Prop) : Sp := fun vs H Q _ => ∃ B ds d, Same B H ∧ DtL K B vs ds ∧ R ds d ∧ ∀ v B' H', Gr B H B' H' → Dt K B' v d → Q v H'
theorem d_call {x : Str} {p : Pos} {k j : Nat} {R : List PyData → PyData → Prop} {as : List Expr} (c : C8.Cal X.prog X.w X.K X.mg X.base k x (spR X.K R) []) (hr : Room j X.A) (hk : k ≤ j) (ha : PDs X E γ (e :: as) l) (h : R l d) (hg : Gl X x := by rfl)
    (hdb : (x == ("__debug__" : Str)) = false := by decide) (he : starEach (e :: as) X.env = (false, eval e X.env) :: starEach as X.env := by rfl) (hpl : (backTo pos (starEach as X.env)).any (·.1) = false := by rfl) : PD X E γ (.Call (.Name x p) (e :: as) [] pos) d :=
  (C8.pe_c c hr hk hg ha hdb he hpl).weak fun σ H Q ⟨B, s, q⟩ => ⟨B, s, fun vs B1 H1 g1 x1 => ⟨B1, l, d, g1.bh, by rw [List.append_nil]; exact x1, h, fun v B2 H2 g2 y => q v B2 H2 (g1.trans g2) y⟩⟩
end
def γ0 (N : List Str) (ds : List PyData) : List Slot := ds.map .dat ++ List.replicate (N.length - ds.length) .no
theorem slots_start {K : PySem.W.Frag} {E : Hp × Hp} {B H : Hp} {N : List Str} {vs : List V} {ds : List PyData} (h : DtL K B vs ds) : Slots K E B H (γ0 N ds) (L2.start N vs) := by
  have hl := h.length
  unfold γ0 L2.start
  rw [hl]
  generalize N.length - ds.length = n
  clear hl
  induction h using DtL.rec (motive_1 := fun _ _ _ => True) with
  | nil =>
    induction n with
    | zero => exact .nil
    | succ n ih => exact .cons (show SlotR K E B H .no none from trivial) ih
  | cons h1 h2 _ ih => exact .cons ⟨_, rfl, h1⟩ ih
  | _ => trivial
section
variable {P : Program} {w : World} {K : PySem.W.Frag} {mg : Str → Option Value} {base : Heap}
/-- a def of the top: under the name x stands the def st of the name nm -/
structure Dfn (K : PySem.W.Frag) (mg : Str → Option Value) (x nm : Str) (st : Stmt) : Prop where
  ex : ∃ f fd, FunD K nm nm (defArgs st) (defBody st) (defScope st) [] [] f fd ∧ mg x = some (.ref f)
abbrev CxD (P : Program) (w : World) (K : PySem.W.Frag) (mg : Str → Option Value) (base : Heap) (N : List Str) (nm : Str) (st : Stmt) (f : Addr) (cdv : Value) (A : Around) (outer : List Env) (s : Shared) (H0 : Hp) (Ex : XK) : Cx := (cxOf CX0 P w K mg base N nm (defScope st) f cdv A outer s H0 Ex).nox
theorem cal_of {x nm : Str} {st : Stmt} {N ps : List Str} {k : Nat} {R : List PyData → PyData → Prop} (F : Dfn K mg x nm st) (Sc : FnScope N ps (defScope st))
    (hb : ∀ (kV doc pm : Value) (an : Option Addr) (cdv ct : Value) (us : List Value), us.length = ps.length → bindArgs (PySem.W.fnOf nm nm (defArgs st) (defBody st) (defScope st) .none kV doc pm an cdv ct) ⟨us, []⟩ = pure (ps.zip us))
    (len : ∀ ds d, R ds d → ds.length = ps.length)
    (body : ∀ (f : Addr) (cdv : Value) (A : Around) (outer : List Env) (s : Shared) (H0 : Hp) (Ex : XK), Room k (A.deeper (envOfC nm (defScope st) s.heap.objs.size f cdv)) → ∀ ds d, R ds d → ∀ E : Hp × Hp, PRs (CxD P w K mg base N nm st f cdv A outer s H0 Ex) E (γ0 N ds) (defBody st) (.ret d)) :
    C8.Cal P w K mg base (k + 1) x (spR K R) [] := by
  obtain ⟨f, fd, FD, hm⟩ := F.ex
  refine ⟨f, fd, ps, [], FD.ok Sc (fun vs H Q E h => ?_) (fun cdv A outer s H vs Q E hr h => ?_), hm, FD.kp, FD.bindsN hb, .nil⟩
  · obtain ⟨B, ds, d, _, h1, h2, _⟩ := h
    rw [h1.length]
    exact len ds d h2
  · obtain ⟨B, ds, d, e, h1, h2, q⟩ := h
    refine ⟨_, (body f cdv A outer s H E hr ds d h2 (B, H)).nox, ?_⟩
    exact ⟨B, ⟨Gr.refl e, slots_start h1⟩, fun v B' H' g y => q v B' H' g y⟩
/-! .. whose last arguments are values that are no data -/
def spX (K : PySem.W.Frag) (R : List PyData → List V → PyData → Prop) : Sp := fun vs H Q _ => ∃ B ds us ws d, Same B H ∧ vs = us ++ ws ∧ DtL K B us ds ∧ R ds ws d ∧ ∀ v B' H', Gr B H B' H' → Dt K B' v d → Q v H'
def γX (N : List Str) (ds : List PyData) (ws : List V) : List Slot := ds.map .dat ++ (ws.map .raw ++ List.replicate (N.length - (ds.length + ws.length)) .no)
theorem slots_startX {K : PySem.W.Frag} {E : Hp × Hp} {B H : Hp} {N : List Str} {us ws : List V} {ds : List PyData} (h : DtL K B us ds) : Slots K E B H (γX N ds ws) (L2.start N (us ++ ws)) := by
  have hl := h.length
  unfold γX L2.start
  rw [List.length_append, hl, List.map_append, List.append_assoc]
  generalize N.length - (ds.length + ws.length) = n
  clear hl
  induction h using DtL.rec (motive_1 := fun _ _ _ => True) with
  | nil =>
    show Slots K E B H (ws.map .raw ++ _) (ws.map some ++ _)
    induction ws with
    | nil =>
      induction n with
      | zero => exact .nil
      | succ n ih => exact .cons (show SlotR K E B H .no none from trivial) ih
    | cons w ws ih => exact .cons (show SlotR K E B H (.raw w) (some w) from rfl) ih
  | cons h1 h2 _ ih => exact .cons ⟨_, rfl, h1⟩ ih
  | _ => trivial
theorem cal_ofX {x nm : Str} {st : Stmt} {N ps : List Str} {k : Nat} {R : List PyData → List V → PyData → Prop} (F : Dfn K mg x nm st) (Sc : FnScope N ps (defScope st))
    (hb : ∀ (kV doc pm : Value) (an : Option Addr) (cdv ct : Value) (us : List Value), us.length = ps.length → bindArgs (PySem.W.fnOf nm nm (defArgs st) (defBody st) (defScope st) .none kV doc pm an cdv ct) ⟨us, []⟩ = pure (ps.zip us))
    (len : ∀ ds ws d, R ds ws d → ds.length + ws.length = ps.length)
    (body : ∀ (f : Addr) (cdv : Value) (A : Around) (outer : List Env) (s : Shared) (H0 : Hp) (Ex : XK), Room k (A.deeper (envOfC nm (defScope st) s.heap.objs.size f cdv)) → ∀ ds ws d, R ds ws d → ∀ E : Hp × Hp, PRs (CxD P w K mg base N nm st f cdv A outer s H0 Ex) E (γX N ds ws) (defBody st) (.ret d)) :
    C8.Cal P w K mg base (k + 1) x (spX K R) [] := by
  obtain ⟨f, fd, FD, hm⟩ := F.ex
  refine ⟨f, fd, ps, [], FD.ok Sc (fun vs H Q E h => ?_) (fun cdv A outer s H vs Q E hr h => ?_), hm, FD.kp, FD.bindsN hb, .nil⟩
  · obtain ⟨B, ds, us, ws, d, _, rfl, h1, h2, _⟩ := h
    rw [List.length_append, h1.length]
    exact len ds ws d h2
  · obtain ⟨B, ds, us, ws, d, e, rfl, h1, h2, q⟩ := h
    refine ⟨_, (body f cdv A outer s H E hr ds ws d h2 (B, H)).nox, ?_⟩
    exact ⟨B, ⟨Gr.refl e, slots_startX h1⟩, fun v B' H' g y => q v B' H' g y⟩
end
section
variable {X : Cx} {E : Hp × Hp} {γ : List Slot} {pos : Pos} {e : Expr} {as es : List Expr} {l : List PyData} {ws : List V} {d : PyData}
def tAX (K : PySem.W.Frag) (E : Hp × Hp) (γ : List Slot) (ds : List PyData) (ws : List V) : TA := fun σ H Q => ∃ B, S K E γ σ B H ∧ ∀ vs B' H', Gr B H B' H' → DtL K B' vs ds → Q (vs ++ ws) H'
theorem ax_name {x : Str} {p : Pos} {f : Addr} (hm : X.mg x = some (.ref f)) (hg : Gl X x := by rfl) (hd : (x == ("__debug__" : Str)) = false := by decide) (hs : starEach [.Name x p] X.env = (false, eval (.Name x p) X.env) :: starEach [] X.env := by rfl) : PA X [.Name x p] (tAX X.K E γ [] [.ref f]) :=
  (pa_cons (pe_glob (v := .ref f) hg hm rfl hd) pa_nil hs).weak fun σ H Q ⟨B, s, q⟩ => q [] B H s.refl .nil
theorem ax_cons (ha : PD X E γ e d) (h : PA X es (tAX X.K E γ l ws)) (hs : starEach (e :: es) X.env = (false, eval e X.env) :: starEach es X.env := by rfl) : PA X (e :: es) (tAX X.K E γ (d :: l) ws) :=
  (pa_cons ha h hs).weak fun σ H Q ⟨B, s, q⟩ => ⟨B, s, fun v B1 H1 g1 x1 => ⟨B1, s.up g1, fun vs B2 H2 g2 x2 => q (v :: vs) B2 H2 (g1.trans g2) (.cons (x1.up g2.bb) x2)⟩⟩
theorem d_callX {x : Str} {p : Pos} {k j : Nat} {R : List PyData → List V → PyData → Prop} (c : C8.Cal X.prog X.w X.K X.mg X.base k x (spX X.K R) []) (hr : Room j X.A) (hk : k ≤ j) (ha : PA X (e :: as) (tAX X.K E γ l ws)) (h : R l ws d) (hg : Gl X x := by rfl)
    (hdb : (x == ("__debug__" : Str)) = false := by decide) (he : starEach (e :: as) X.env = (false, eval e X.env) :: starEach as X.env := by rfl) (hpl : (backTo pos (starEach as X.env)).any (·.1) = false := by rfl) : PD X E γ (.Call (.Name x p) (e :: as) [] pos) d :=
  (C8.pe_c c hr hk hg ha hdb he hpl).weak fun σ H Q ⟨B, s, q⟩ => ⟨B, s, fun vs B1 H1 g1 x1 => ⟨B1, l, vs, ws, d, g1.bh, by rw [List.append_nil], x1, h, fun v B2 H2 g2 y => q v B2 H2 (g1.trans g2) y⟩⟩
/-- a local name that holds a def, called -/
theorem d_callV {x : Str} {p : Pos} {i k j : Nat} {f : Addr} {R : List PyData → PyData → Prop} (c : C8.CalAt X.prog X.w X.K X.mg X.base k f (spR X.K R)) (hr : Room j X.A) (hk : k ≤ j) (ha : PDs X E γ (e :: as) l) (h : R l d) (hN : X.N[i]? = some x := by rfl) (hγ : γ[i]? = some (.raw (.ref f)) := by rfl)
    (hv : Vis X.env.scope x := by first | exact Or.inl rfl | exact Or.inr (Or.inl rfl) | exact Or.inr (Or.inr rfl)) (hd : (x == ("__debug__" : Str)) = false := by decide) (hcd : (x == ("__classdict__" : Str)) = false := by decide)
    (he : starEach (e :: as) X.env = (false, eval e X.env) :: starEach as X.env := by rfl) (hpl : (backTo pos (starEach as X.env)).any (·.1) = false := by rfl) : PD X E γ (.Call (.Name x p) (e :: as) [] pos) d :=
  (C8.pe_cv c c hr hk hk hN hv ha hd hcd he hpl).weak fun σ H Q ⟨B, s, q⟩ => .inl ⟨s.raw hγ, B, s, fun vs B1 H1 g1 x1 => ⟨B1, l, d, g1.bh, x1, h, fun v B2 H2 g2 y => q v B2 H2 (g1.trans g2) y⟩⟩
end
end Tb

set_option maxHeartbeats 1000000
/-! sorted(xs, key=f) of data, f a def of the program that answers ints. -/
namespace Tb
open PySem PySem.Spec PyProof.Rows PySem.Calls
open L2
section
variable {prog : Program} {w : World} {A : Around} {E : Value → Shared → Prop} {s : Shared} {a kS : Addr} {vs : List Value} {kz : List Int} {keys : Array Value} {e e1 : Nat} {P : PySem.Fin → Shared → Prop}
theorem skd_tail {st : SortSt} (nk : s.heap.get? kS = some (seqObj "list" keys e)) (na : s.heap.get? a = some (seqObj "list" #[] e1)) (hka : kS ≠ a) (hk : IntsAre keys.toList kz) (hlen : kz.length = vs.length) (h64 : vs.length < 64)
    (hp : (arrOf st).Perm (keys.zip vs.toArray)) (hs : SortedTo (arrOf st) (arrOf st).size) (hfl : failedOf st = none)
    (h : ∀ out : Array Value, KskOut false kz vs out.toList → out.size = vs.length → P (.done (.ret .none)) { s with heap := (s.heap.update kS (Obj.mapSeq fun _ => (#[] : Array Value))).update a (Obj.mapSeq fun _ => out) }) :
    wpAny (model prog w) A (ksk_tail a false e1 (.ref kS) st) P E s := by
  have hsz : keys.size = vs.length := by
    have h1 := hk.length
    rw [Array.length_toList] at h1
    omega
  have hsz2 : ((arrOf st).map (·.2)).size = vs.length := by rw [Array.size_map, hp.size_eq, Array.size_zip, hsz, List.size_toArray, Nat.min_self]
  have na1 : (s.heap.update kS (Obj.mapSeq fun _ => (#[] : Array Value))).get? a = some (seqObj "list" #[] e1) := ((Heap.SameBut.update s.heap kS _).2 a hka.symm).trans na
  unfold ksk_tail
  try dsimp only
  refine wpAny_bind (listUpdate_at nk rfl ?_ (by rw [hsz, sizeLine_eq]; omega) (Nat.zero_le _))
  refine wpAny_bind (wpAny_letGo ?_)
  refine wpAny_bind (seqEpoch_at na1 rfl ?_)
  simp only [Bool.false_eq_true, if_false]
  refine wpAny_bind (listUpdate_at na1 rfl ?_ (Nat.zero_le _) (Nat.le_trans (Nat.le_of_eq hsz2) (by rw [sizeLine_eq]; omega)))
  rw [hfl]
  simp only [bne_self_eq_false, Bool.false_eq_true, if_false]
  have ho := ksk_out (b := false) hk hp hs
  simp only [Bool.false_eq_true, if_false] at ho
  exact wpAny_pure (h _ ho hsz2)
theorem skd_end (nk : s.heap.get? kS = some (seqObj "list" keys e)) (na : s.heap.get? a = some (seqObj "list" #[] e1)) (hka : kS ≠ a) (hk : IntsAre keys.toList kz) (hlen : kz.length = vs.length) (h64 : vs.length < 64)
    (h : ∀ out : Array Value, KskOut false kz vs out.toList → out.size = vs.length → P (.done (.ret .none)) { s with heap := (s.heap.update kS (Obj.mapSeq fun _ => (#[] : Array Value))).update a (Obj.mapSeq fun _ => out) }) :
    wpAny (model prog w) A (ksk_end a false vs.toArray e1 (.ref kS) keys) P E s := by
  have hsz : keys.size = vs.length := by
    have h1 := hk.length
    rw [Array.length_toList] at h1
    omega
  have hzs : (keys.zip vs.toArray).size = vs.length := by rw [Array.size_zip, hsz, List.size_toArray, Nat.min_self]
  unfold ksk_end
  try dsimp only
  simp only [Bool.false_eq_true, if_false]
  try rw [if_neg Bool.false_ne_true]
  by_cases h2 : vs.toArray.size < 2
  · rw [if_pos h2, if_pos h2]
    refine wpAny_bind (wpAny_pure ?_)
    rw [StateT.run_pure]
    refine wpAny_bind (wpAny_pure ?_)
    try dsimp only
    refine skd_tail (st := SortSt.mk' general' (keys.zip vs.toArray) #[] 7 none) nk na hka hk hlen h64 (Array.Perm.refl _) ?_ rfl h
    intro i j hij hj
    have hj2 : j < (keys.zip vs.toArray).size := hj
    rw [hzs] at hj2
    rw [List.size_toArray] at h2
    have : i = j := by omega
    subst this
    exact Int.le_refl _
  · rw [if_neg h2, if_neg h2]
    rw [List.size_toArray] at h2
    rw [ksk_kind hk (by rw [hsz]; omega)]
    refine wpAny_bind (wpAny_pure ?_)
    refine wpAny_bind (wpAny_mono (wpS_sortRuns (a₀ := keys.zip vs.toArray) (st := SortSt.mk' oneType' (keys.zip vs.toArray) #[] 7 none)
      (Q := fun _ st' => (arrOf st').Perm (keys.zip vs.toArray) ∧ failedOf st' = none ∧ SortedTo (arrOf st') (keys.zip vs.toArray).size)
      (ksk_intKeys hk) ⟨Array.Perm.refl _, rfl, rfl, rfl⟩ (by rw [hzs]; omega) (by rw [hzs]; exact h64) fun st' a1 a2 a3 => ⟨a1, a2, a3⟩) ?_ fun _ _ e => e)
    rintro ⟨⟨⟩, st'⟩ s' ⟨rfl, hp, hf, hs⟩
    try dsimp only
    exact skd_tail nk na hka hk hlen h64 hp (by rw [hp.size_eq]; exact hs) hf h
end
section
variable {X : Cx} {k : Nat} {f : Addr} {fd : FuncData} {ps : List Str} {sp : Sp} {pins : List (Addr × Obj)} {σ : St} {H : Hp} {s : Shared} {Q : VK} {us : List Value} {vs : List V} {E : Value → Shared → Prop}
theorem run_fn2 (F : FnOk X.prog X.w X.K X.mg X.base CX0 k f fd ps sp) (hr : Room (k + 2) X.A) (hb : Binds X.K fd ps []) (I : Inv X pins σ H s) (r : Vals vs us) (h : sp vs H Q E0) :
    wpAny (model X.prog X.w) X.A.in1.in1 (call (.ref f) us) (EP X pins σ Q) E s := by
  have r2 : Vals (vs ++ []) (us ++ []) := r.append .nil
  rw [List.append_nil, List.append_nil] at r2
  have hl : us.length = ps.length := by rw [← r2.length]; exact F.len _ _ _ _ h
  have hb2 := hb s us I.kIn (by rw [List.append_nil]; exact hl)
  rw [List.append_nil] at hb2
  refine wpAny_call (codeAny_mono (F.run X.A.in1.in1 X.stack s H ⟨us, []⟩ us vs Q E0 (Room.in1 (Room.in1 hr)) I.env0.in1.in1 hb2 r2 h) fun r s' hq => ?_)
  cases r with
  | error e => exact False.elim hq
  | ok fl =>
    cases fl with
    | ret u => exact I.after hq
    | next => exact False.elim hq
    | brk => exact False.elim hq
    | cont => exact False.elim hq
end
theorem perm_lift {α β : Type} {f : α → β} {ps qs : List β} (h : ps.Perm qs) : ∀ L : List α, L.map f = qs → ∃ L' : List α, L'.Perm L ∧ L'.map f = ps := by
  induction h with
  | nil => intro L e; exact ⟨L, List.Perm.refl _, e⟩
  | cons x _ ih =>
    intro L e
    cases L with
    | nil => cases e
    | cons a L =>
      rw [List.map_cons] at e
      injection e with e1 e2
      obtain ⟨L', p, m⟩ := ih L e2
      exact ⟨a :: L', p.cons a, by rw [List.map_cons, e1, m]⟩
  | swap x y l =>
    intro L e
    match L, e with
    | a :: b :: L, e =>
      rw [List.map_cons, List.map_cons] at e
      injection e with e1 e2
      injection e2 with e2 e3
      exact ⟨b :: a :: L, List.Perm.swap .., by rw [List.map_cons, List.map_cons, e1, e2, e3]⟩
  | trans _ _ ih1 ih2 =>
    intro L e
    obtain ⟨L2, p2, m2⟩ := ih2 L e
    obtain ⟨L1, p1, m1⟩ := ih1 L2 m2
    exact ⟨L1, p1.trans p2, m1⟩
theorem vals_at : ∀ {xs : List V} {its : List Value} {j : Nat} {v : V} {x : Value}, Vals xs its → xs[j]? = some v → its[j]? = some x → RelV v x
  | _, _, _, _, _, .nil, h, _ => by simp at h
  | _, _, 0, _, _, .cons r _, h, g => by
    simp at h g
    subst h g
    exact r
  | _, _, j + 1, _, _, .cons _ r, h, g => vals_at (j := j) r (by simpa using h) (by simpa using g)
/-- a key, a value, what it stands for twice over -/
abbrev Quad := Int × Value × V × PyData
def QOk (K : PySem.W.Frag) (B : Hp) (t : Quad) : Prop := RelV t.2.2.1 t.2.1 ∧ Dt K B t.2.2.1 t.2.2.2
theorem quads {K : PySem.W.Frag} {B : Hp} : ∀ {l : List PyData} {xs : List V} {its : List Value} {kz : List Int}, DtL K B xs l → Vals xs its → kz.length = l.length → ∃ L : List Quad, L.map (·.1) = kz ∧ L.map (·.2.1) = its ∧ L.map (·.2.2.1) = xs ∧ L.map (·.2.2.2) = l ∧ ∀ t ∈ L, QOk K B t
  | [], _, _, kz, h, r, hl => by
    cases h
    cases r
    have : kz = [] := List.length_eq_zero_iff.mp hl
    subst this
    exact ⟨[], rfl, rfl, rfl, rfl, by simp⟩
  | d :: l, _, _, kz, h, r, hl => by
    cases h with
    | cons h1 h2 =>
      cases r with
      | cons r1 r2 =>
        cases kz with
        | nil => cases hl
        | cons z kz =>
          obtain ⟨L, e1, e2, e3, e4, ok⟩ := quads h2 r2 (Nat.succ.inj hl)
          refine ⟨(z, _, _, d) :: L, by rw [List.map_cons, e1], by rw [List.map_cons, e2], by rw [List.map_cons, e3], by rw [List.map_cons, e4], fun t ht => ?_⟩
          rcases List.mem_cons.mp ht with rfl | ht
          · exact ⟨r1, h1⟩
          · exact ok t ht
theorem quads_vals {K : PySem.W.Frag} {B : Hp} : ∀ {L : List Quad}, (∀ t ∈ L, QOk K B t) → Vals (L.map (·.2.2.1)) (L.map (·.2.1)) ∧ DtL K B (L.map (·.2.2.1)) (L.map (·.2.2.2))
  | [], _ => ⟨.nil, .nil⟩
  | t :: L, h => by
    obtain ⟨h1, h2⟩ := quads_vals fun x hx => h x (List.mem_cons_of_mem _ hx)
    obtain ⟨a, b⟩ := h t (by simp)
    exact ⟨.cons a h1, .cons b h2⟩
section
variable {X : Cx} {k : Nat} {f a : Addr} {fd : FuncData} {ps : List Str} {R : List PyData → PyData → Prop} {pins : List (Addr × Obj)} {σ : St} {s : Shared} {E : Value → Shared → Prop} {l ms : List PyData} {kz : List Int} {B H1 : Hp} {xs : List V} {its : List Value} {n : Nat} {P : PySem.Fin → Shared → Prop}
/-- how far the keys are made -/
structure SkAt (X : Cx) (pins : List (Addr × Obj)) (σ : St) (B H1 : Hp) (a kS : Addr) (e1 : Nat) (ks : List Int) (s' : Shared) (B' H' : Hp) : Prop where
  inv : Inv X pins σ H' s'
  bb : Same B B'
  hh : ∀ b o, b ≠ a → H1 b = some o → H' b = some o
  bh : Same B' H'
  fr : ∀ b, B b = none → H1 b ≠ none → B' b = none
  ha : H' a = some (.frz (seqObj "list" #[] e1) (.lst []))
  ba : B' a = none
  hk : H' kS = some (.lst (ks.map V.int))
  bk : B' kS = none
theorem skd_sort (F : FnOk X.prog X.w X.K X.mg X.base CX0 k f fd ps (spR X.K R)) (hr : Room (k + 2) X.A) (hb : Binds X.K fd ps []) (hR : ∀ (i : Nat) d z, l[i]? = some d → kz[i]? = some z → R [d] (.int z)) (hlen : kz.length = l.length) (h64 : l.length < 64)
    (uniq : ∀ ps : List (Int × PyData), ps.Perm (kz.zip l) → ps.Pairwise (fun p q => p.1 ≤ q.1) → ps.map Prod.snd = ms)
    (I : Inv X pins σ H1 s) (ha : H1 a = some (.lst xs)) (rv : Vals xs its) (ho : s.heap.get? a = some (seqObj "list" its.toArray n)) (bh : Same B H1) (Ba : B a = none) (dl : DtL X.K B xs l)
    (q : ∀ (outV : List V) (B' Hf : Hp) (s' : Shared), Inv X pins σ Hf s' → Same B B' → B' a = none → (∀ b o, b ≠ a → H1 b = some o → Hf b = some o) → Same B' Hf → (∀ b, B b = none → H1 b ≠ none → B' b = none) → DtL X.K B' outV ms → Hf a = some (.lst outV) → P (.done (.ret .none)) s') :
    wpAny (model X.prog X.w) X.A.in1.in1 (ksk_tree a (.ref f) false) P E s := by
  have hl : its.length = l.length := by rw [← rv.length, dl.length]
  have hlx : xs.length = l.length := dl.length
  obtain ⟨e1, ho1⟩ : ∃ e1, (s.heap.update a (Obj.mapSeq fun _ => (#[] : Array Value))).get? a = some (seqObj "list" #[] e1) := ⟨_, get?_update_seq ho fun _ => #[]⟩
  unfold ksk_tree
  refine wpAny_bind (listItems_at ho rfl ?_)
  refine wpAny_bind (listUpdate_at ho rfl ?_ (by rw [List.size_toArray, sizeLine_eq]; omega) (Nat.zero_le _))
  refine wpAny_bind (seqEpoch_at ho1 rfl ?_)
  have I1 : Inv X pins σ (upd H1 a (.lst [])) { s with heap := s.heap.update a (Obj.mapSeq fun _ => (#[] : Array Value)) } := I.lset (its' := []) (t' := s.toks) ha ho rfl .nil (Nat.zero_le _)
  refine wpAny_bind (wpAny_newTuple ?_ (by show its.length ≤ _; rw [sizeLine_eq]; omega))
  have I2 := I1.kept (h' := (s.heap.update a (Obj.mapSeq fun _ => (#[] : Array Value))).push (seqObj "tuple" its.toArray 0)) (t' := s.toks) fun b o e => Heap.get?_push_of_some _ e
  refine wpAny_bind (wpAny_newList ?_ (Nat.zero_le _))
  have hn := I2.hok.fresh (Nat.le_refl _)
  have I3 := I2.lnew (its := []) (ys := []) (t' := s.toks) .nil (Nat.zero_le _)
  generalize hkS : ((s.heap.update a (Obj.mapSeq fun _ => (#[] : Array Value))).push (seqObj "tuple" its.toArray 0)).objs.size = kS at hn I3
  have hka : kS ≠ a := fun e => by rw [e, upd_same] at hn; cases hn
  have ha3 : (upd (upd H1 a (.lst [])) kS (.lst [])) a = some (.lst []) := by rw [upd_ne hka.symm, upd_same]
  have hnf := I3.nofrz ha3 True.intro
  obtain ⟨od, I4⟩ := I3.lock ha3 True.intro
  have hod : od = seqObj "list" #[] e1 := by
    obtain ⟨g1, _⟩ := I4.hok a _ upd_same
    have g2 := I3.hok a _ ha3
    have g3 : (((s.heap.update a (Obj.mapSeq fun _ => (#[] : Array Value))).push (seqObj "tuple" its.toArray 0)).push (seqObj "list" #[] 0)).get? a = some (seqObj "list" #[] e1) := Heap.get?_push_of_some _ (Heap.get?_push_of_some _ ho1)
    exact Option.some.inj (g1.symm.trans g3)
  subst hod
  have BkS : B kS = none := by
    have h1 : H1 kS = none := by rw [upd_ne hka] at hn; exact hn
    exact bh.free h1
  have h1k : H1 kS = none := by rw [upd_ne hka] at hn; exact hn
  have at0 : ∃ B' H', SkAt X pins σ B H1 a kS e1 [] { s with heap := ((s.heap.update a (Obj.mapSeq fun _ => (#[] : Array Value))).push (seqObj "tuple" its.toArray 0)).push (seqObj "list" #[] 0) } B' H' := by
    refine ⟨B, _, I4, Same.refl B, fun b o hb e => ?_, fun b o e => ?_, fun b e _ => e, upd_same, Ba, ?_, BkS⟩
    · rw [upd_ne hb, upd_ne (ne_of_none e h1k), upd_ne hb]; exact e
    · rw [upd_ne (ne_of_none e Ba), upd_ne (ne_of_none e BkS), upd_ne (ne_of_none e Ba)]; exact bh _ _ e
    · rw [upd_ne hka, upd_same]; rfl
  refine wpAny_holding ?_
  unfold ksk_rest
  refine wpAny_bind (wpAny_rule ?_)
  first
    | rw [List.forIn_toArray]
    | (rw [← Array.forIn_toList]; simp only [List.toList_toArray])
    | rw [← Array.forIn_toList]
  refine wpAny_bind (ksk_fold (fun i s' => ∃ B' H', SkAt X pins σ B H1 a kS e1 (kz.take i) s' B' H') its 0 _ ?start ?step ?done)
  case start => exact at0
  case step =>
    rintro j x s' hx ⟨B', H', w⟩
    rw [Nat.zero_add] at w ⊢
    have hj : j < its.length := (List.getElem?_eq_some_iff.mp hx).1
    obtain ⟨z, hz⟩ : ∃ z, kz[j]? = some z := ⟨_, List.getElem?_eq_getElem (by omega)⟩
    obtain ⟨d, hd⟩ : ∃ d, l[j]? = some d := ⟨_, List.getElem?_eq_getElem (by omega)⟩
    obtain ⟨v, hv, dv⟩ := dl.get hd
    have rx : RelV v x := vals_at rv hv hx
    refine wpAny_bind (wpAny_attempt (wpAny_mono (run_fn2 (Q := fun u H2 => u = .int z ∧ ∃ B2, Gr B' H' B2 H2) (E := fun _ _ => False) F hr hb w.inv (.cons rx .nil) ⟨B', [d], .int z, w.bh, .cons (dv.up w.bb) .nil, hR j d z hd hz, fun u B2 H2 g y => ?_⟩) (fun u s2 he => ?_) fun _ _ hF => hF.elim))
    · cases y
      exact ⟨rfl, B2, g⟩
    · obtain ⟨_, H2, I2', ru, rfl, B2, g⟩ := he
      try dsimp only
      have hk2 := g.hh _ _ w.hk
      have hz2 := hk2
      obtain ⟨hsz, kits, kn, krv, ke⟩ := I2'.hok kS _ hk2
      have hks : kits.length = j := by rw [← krv.length, List.length_map, List.length_take]; omega
      have ek : kz.take (j + 1) = kz.take j ++ [z] := by rw [List.take_add_one, hz]; rfl
      refine wpAny_bind (listUpdate_at ke rfl ?_ (by rw [List.size_toArray, sizeLine_eq]; omega) (by rw [Array.size_push, List.size_toArray, sizeLine_eq]; omega))
      have I5 := I2'.lset (its' := kits ++ [u]) (ys := (kz.take (j + 1)).map V.int) (f := fun r => r.push u) (t' := s2.toks) hk2 ke (by simp) (by rw [ek, List.map_append]; exact krv.append (.cons ru .nil)) (by rw [List.length_map, List.length_take, sizeLine_eq]; omega)
      have h1n : H' kS ≠ none := by rw [w.hk]; exact fun z => nomatch z
      have h2n : H' a ≠ none := by rw [w.ha]; exact fun z => nomatch z
      have bk2 : B2 kS = none := g.fr kS w.bk h1n
      refine wpAny_pure ⟨rfl, B2, _, I5, w.bb.trans g.bb, fun b o hb e => ?_, fun b o e => ?_, fun b e hb => ?_, ?_, g.fr a w.ba h2n, upd_same, bk2⟩
      · rw [upd_ne (ne_of_none e h1k)]; exact g.hh _ _ (w.hh b o hb e)
      · rw [upd_ne (ne_of_none e bk2)]; exact g.bh _ _ e
      · refine g.fr b (w.fr b e hb) fun q => ?_
        by_cases hba : b = a
        · rw [hba, w.ha] at q; cases q
        · obtain ⟨o, ho⟩ := Option.ne_none_iff_exists'.mp hb
          rw [w.hh b o hba ho] at q; cases q
      · rw [upd_ne hka.symm]; exact g.hh _ _ w.ha
  case done =>
    rintro s' ⟨B', H', w⟩
    have etake : kz.take (0 + its.length) = kz := List.take_of_length_le (by omega)
    rw [etake] at w
    obtain ⟨hsz, kits, kn, krv, ke⟩ := w.inv.hok kS _ w.hk
    have hki := krv.ints
    obtain ⟨ga, _⟩ := w.inv.hok a _ w.ha
    try dsimp only
    refine wpAny_bind (listItems_at ke rfl ?_)
    refine skd_end (kz := kz) ke ga hka (by simpa using hki) (by omega) (by omega) fun out ko osz => ?_
    obtain ⟨qs, hp, hout, hpw⟩ := ko
    obtain ⟨L, m1, m2, m3, m4, qok⟩ := quads dl rv hlen
    obtain ⟨L', lp, lm⟩ := perm_lift (f := fun t : Quad => (t.1, t.2.1)) hp L (by rw [← m1, ← m2, List.zip_map'])
    have ok' : ∀ t ∈ L', QOk X.K B t := fun t ht => qok t (lp.mem_iff.mp ht)
    obtain ⟨rv2, dl2⟩ := quads_vals ok'
    have ems : L'.map (·.2.2.2) = ms := by
      rw [← uniq (L'.map fun t => (t.1, t.2.2.2)) ?_ ?_, List.map_map]
      · rfl
      · have := lp.map fun t : Quad => (t.1, t.2.2.2)
        rw [← m1, ← m4, List.zip_map']
        exact this
      · rw [← lm, List.pairwise_map] at hpw
        rw [List.pairwise_map]
        exact hpw.imp fun h => by simpa using h
    have eout : out.toList = L'.map (·.2.1) := by rw [hout, ← lm, List.map_map]; rfl
    rw [ems] at dl2
    have I5 := w.inv.lset (its' := []) (ys := []) (f := fun _ => (#[] : Array Value)) (t' := s'.toks) w.hk ke rfl .nil (Nat.zero_le _)
    have I6 := I5.unlock (d := a) (by rw [upd_ne hka.symm]; exact w.ha) hnf
    have ga2 : (s'.heap.update kS (Obj.mapSeq fun _ => (#[] : Array Value))).get? a = some (seqObj "list" #[] e1) := ((Heap.SameBut.update s'.heap kS _).2 a hka.symm).trans ga
    have I7 := I6.lset (l := a) (its := []) (its' := L'.map (·.2.1)) (ys := L'.map (·.2.2.1)) (f := fun _ => out) (t' := s'.toks) upd_same ga2 (by rw [← eout, Array.toArray_toList]) rv2 (by rw [dl2.length, ← ems, List.length_map, lp.length_eq, ← List.length_map (f := fun t : Quad => t.2.2.2), m4, sizeLine_eq]; omega)
    refine q (L'.map (·.2.2.1)) B' _ _ I7 w.bb w.ba (fun b o hb e => ?_) (fun b o e => ?_) w.fr (dl2.up w.bb) upd_same
    · rw [upd_ne hb, upd_ne hb, upd_ne (ne_of_none e h1k)]; exact w.hh b o hb e
    · rw [upd_ne (ne_of_none e w.ba), upd_ne (ne_of_none e w.ba), upd_ne (ne_of_none e w.bk)]; exact w.bh _ _ e
/-- what sorted wants and gives -/
def rSortF (X : Cx) (f : Addr) (l ms : List PyData) : List V → List V → Hp → VK → Prop := fun vs zs H Q => ∃ B v, vs = [v] ∧ zs = [.ref f] ∧ Same B H ∧ Dt X.K B v (.list l) ∧ ∀ u B' H', Gr B H B' H' → Dt X.K B' u (.list ms) → Q u H'
theorem cr_sortF (F : FnOk X.prog X.w X.K X.mg X.base CX0 k f fd ps (spR X.K R)) (hr : Room (k + 2) X.A) (hb : Binds X.K fd ps []) (hR : ∀ (i : Nat) d z, l[i]? = some d → kz[i]? = some z → R [d] (.int z)) (hlen : kz.length = l.length) (h64 : l.length < 64)
    (uniq : ∀ ps : List (Int × PyData), ps.Perm (kz.zip l) → ps.Pairwise (fun p q => p.1 ≤ q.1) → ps.map Prod.snd = ms) : CallRK X (.builtin "sorted") [Str.ofString "key"] (rSortF X f l ms) := by
  intro pins s σ H vs zs us ws Q I r rz h
  obtain ⟨B, v, rfl, rfl, bh, y, q⟩ := h
  obtain ⟨u, rfl, ru⟩ := vals1 r
  obtain ⟨wf, rfl, rf⟩ := vals1 rz
  cases rf
  cases y with
  | @lst a0 xs _ h1 dl =>
    cases ru
    obtain ⟨its, rv, pl, hz⟩ := I.list (SqL.of (bh _ _ h1))
    have hil : its.length = l.length := by rw [← rv.length, dl.length]
    refine call_function_entry_kw kind_sorted plain_sorted entry_sorted (ksk_s1 _ _) ?_
    unfold Builtin.«sorted»
    refine wpAny_bind (m := checkCount "sorted" 1 1 _) (wpAny_pure ?_)
    refine wpAny_bind (collect_list pl.isList ?_ (by rw [sizeLine_eq]; omega))
    refine wpAny_bind (wpAny_newList ?_ (by rw [sizeLine_eq]; omega))
    have hsz : ((s.heap.push (seqObj "list" #[] 0)).update s.heap.objs.size (Obj.mapSeq (· ++ its.toArray))).objs.size = s.heap.objs.size + 1 := by
      rw [Heap.size_update, size_push']
    have hoL : (((s.heap.push (seqObj "list" #[] 0)).update s.heap.objs.size (Obj.mapSeq (· ++ its.toArray))).push (seqObj "list" its.toArray 0)).get? (s.heap.objs.size + 1) = some (seqObj "list" its.toArray 0) := by
      rw [← hsz]; exact Heap.get?_push_size _ rfl
    have keep : ∀ b o, s.heap.get? b = some o → (((s.heap.push (seqObj "list" #[] 0)).update s.heap.objs.size (Obj.mapSeq (· ++ its.toArray))).push (seqObj "list" its.toArray 0)).get? b = some o := fun b o q => by
      have hlt : b < s.heap.objs.size := Heap.lt_size q
      rw [Heap.get?_push_ne _ _ _ (by rw [hsz]; exact Nat.ne_of_lt (Nat.lt_succ_of_lt hlt)), Heap.get?_update_ne _ _ _ _ (Nat.ne_of_lt hlt), Heap.get?_push_ne _ _ _ (Nat.ne_of_lt hlt)]
      exact q
    have I1 := I.laid (a := s.heap.objs.size + 1) (o := .lst xs) (t' := s.toks) keep (Nat.le_succ _) ⟨hz, its, 0, rv, hoL⟩
    have hn : H (s.heap.objs.size + 1) = none := I.hok.fresh (Nat.le_succ _)
    show wpAny _ _ _ _ _ { s with heap := ((s.heap.push (seqObj "list" #[] 0)).update s.heap.objs.size (Obj.mapSeq (· ++ its.toArray))).push (seqObj "list" its.toArray 0) }
    rw [hsz]
    generalize s.heap.objs.size + 1 = a at hoL I1 hn
    have Ba : B a = none := bh.free hn
    refine wpAny_bind (wpAny_holding (wpAny_call_entry_kw slot_list_sort ⟨_, hoL, rfl⟩ entry_list_sort ?body (ksk_l1 _ _)))
    case body =>
      show wpAny (model X.prog X.w) X.A.in1.in1 (Builtin.«list.sort» ⟨[.ref a], [(Str.ofString "key", .ref f)]⟩) _ _ _
      rw [ksk_t1]
      refine skd_sort F hr hb hR hlen h64 uniq I1 upd_same rv hoL (fun b o e => by rw [upd_ne (ne_of_none e Ba)]; exact bh _ _ e) Ba dl fun outV B' Hf s' If bb ba hh bh' fr dlo hfa => ⟨_, rfl, ?_⟩
      have e1 : Same B' (upd B' a (.lst outV)) := same_new ba _
      refine wpAny_pure ⟨.ref a, rfl, .ref a, Hf, If, rfl, q _ (upd B' a (.lst outV)) Hf ⟨bb.trans e1, fun b o e => ?_, fun b o e => ?_, fun b e hb2 => ?_⟩ (.lst upd_same (dlo.up e1))⟩
      · have hba : b ≠ a := ne_of_none e hn
        exact hh b o hba (by rw [upd_ne hba]; exact e)
      · by_cases hba : b = a
        · subst hba; rw [upd_same] at e; rw [hfa]; exact e
        · rw [upd_ne hba] at e; exact bh' _ _ e
      · have hba : b ≠ a := fun z => hb2 (by rw [z]; exact hn)
        rw [upd_ne hba]
        exact fr b e (by rw [upd_ne hba]; exact hb2)
end
section
variable {X : Cx} {E : Hp × Hp} {γ : List Slot} {pos : Pos} {e : Expr} {l ms : List PyData} {kz : List Int} {R : List PyData → PyData → Prop}
theorem d_sortedKey {x : Str} {k j : Nat} {p p2 kp : Pos} (c : C8.Cal X.prog X.w X.K X.mg X.base k x (spR X.K R) []) (hr : Room j X.A) (hk : k + 2 ≤ j) (hm : X.mg "sorted" = none) (h : PD X E γ e (.list l)) (hR : ∀ (i : Nat) d z, l[i]? = some d → kz[i]? = some z → R [d] (.int z)) (hlen : kz.length = l.length) (h64 : l.length < 64)
    (uniq : ∀ ps : List (Int × PyData), ps.Perm (kz.zip l) → ps.Pairwise (fun p q => p.1 ≤ q.1) → ps.map Prod.snd = ms) (hg : Gl X "sorted" := by rfl) (hgx : Gl X x := by rfl) (hd : (x == ("__debug__" : Str)) = false := by decide)
    (hst : starEach [e] X.env = (false, eval e X.env) :: starEach [] X.env := by rfl) (he : backTo pos (starEach [e] X.env) = (false, eval e X.env) :: backTo pos (starEach [] X.env) := by rfl) (hpl : (backTo pos (starEach [e] X.env)).any (·.1) = false := by rfl)
    (hall : (backToKw pos (keywordEach [⟨some "key", .Name x p2, kp⟩] X.env)).all (·.1.isSome) = true := by rfl) (hnone : (backToKw pos (keywordEach [⟨some "key", .Name x p2, kp⟩] X.env)).any (·.1.isNone) = false := by rfl)
    (hks : (backToKw pos (keywordEach [⟨some "key", .Name x p2, kp⟩] X.env)).filterMap (·.1) = [Str.ofString "key"] := by rfl) : PD X E γ (.Call (.Name "sorted" p) [e] [⟨some "key", .Name x p2, kp⟩] pos) (.list ms) := by
  obtain ⟨f, fd, ps, ds, F, hmx, kp', b, v⟩ := c.ex
  cases v
  refine PE.weak (pe_callBK (cr_sortF (kz := kz) F (hr.mono hk) b hR hlen h64 uniq) hg hm (by decide +kernel) (a_cons h a_nil hst) (pk_cons (pe_glob (v := .ref f) hgx hmx rfl hd) pk_nil) (by decide) (by decide) he hpl hall hnone hks) fun σ H Q ⟨B, s, q⟩ => ⟨B, s, fun vs B' H' g y => ?_⟩
  obtain ⟨v, rfl, yv⟩ := dtl1 y
  exact ⟨B', v, rfl, rfl, g.bh, yv, fun u B2 H2 g2 y2 => q u B2 H2 (g.trans g2) y2⟩
end
end Tb

set_option maxHeartbeats 1000000
/-! Slices of tuples, as data. -/
namespace Tb
open PySem PySem.Spec PyProof.Rows
open L2
section
variable {X : Cx} {E : Hp × Hp} {γ : List Slot} {pos p2 : Pos} {a b : Expr} {l : List PyData}
theorem opd_sl {K : PySem.W.Frag} {B H : Hp} {v : V} {lo hi : Option Int} {Q : VK} {k : List PyData} (bh : Same B H) (x : Dt K B v (.tuple l)) (hk : (l.drop (HT.sIx l.length 0 lo)).take (HT.sIx l.length l.length hi - HT.sIx l.length 0 lo) = k)
    (q : ∀ u B' H', Gr B H B' H' → Dt K B' u (.tuple k) → Q u H') : rSlA K v lo hi H Q := by
  cases x with
  | @tup z xs _ h1 h2 =>
    refine ⟨z, xs, rfl, same_sqt bh h1, fun hw => ?_, fun _ p hp => ?_⟩
    · rw [h2.length] at hw
      rw [hw.1, hw.2, List.drop_zero, Nat.sub_zero, List.take_length] at hk
      subst hk
      exact q _ B H (Gr.refl bh) (.tup h1 h2)
    · have h3 : DtL K B (cutV xs lo hi) k := by
        rw [← hk]
        unfold cutV
        rw [h2.length]
        exact (h2.drop _).take _
      exact q _ _ _ (Gr.new bh hp _) (.tup (SqT.of upd_same) (h3.up (Gr.new bh hp _).bb))
/-- t[:k] -/
theorem d_slHi {k : Nat} {m : List PyData} (ha : PD X E γ a (.tuple l)) (hb : PD X E γ b (.int (k : Int))) (hm : l.take k = m := by rfl) : PD X E γ (.Subscript a (.Slice none (some b) none p2) pos) (.tuple m) :=
  (pe_slice sl_tupA ha po_none (po_some hb)).weak fun σ H Q ⟨B, s, q⟩ => ⟨B, s, fun v B1 H1 g1 x1 => ⟨B1, s.up g1, fun i B2 H2 g2 x2 => by
    cases x2
    refine ⟨(k : Int), rfl, ?_⟩
    refine opd_sl g2.bh (x1.up g2.bb) ?_ fun u B3 H3 g3 y => q u B3 H3 ((g1.trans g2).trans g3) y
    rw [HT.sIx_none, HT.sIx_nat, List.drop_zero, Nat.sub_zero, ← hm]
    by_cases h : k ≤ l.length
    · rw [Nat.min_eq_left h]
    · rw [Nat.min_eq_right (by omega), List.take_length, List.take_of_length_le (by omega)]⟩⟩
/-- t[k:] -/
theorem d_slLo {k : Nat} {m : List PyData} (ha : PD X E γ a (.tuple l)) (hb : PD X E γ b (.int (k : Int))) (hm : l.drop k = m := by rfl) : PD X E γ (.Subscript a (.Slice (some b) none none p2) pos) (.tuple m) :=
  (pe_slice sl_tupA ha (po_some hb) po_none).weak fun σ H Q ⟨B, s, q⟩ => ⟨B, s, fun v B1 H1 g1 x1 => ⟨B1, s.up g1, fun i B2 H2 g2 x2 => by
    cases x2
    refine ⟨(k : Int), rfl, ?_⟩
    refine opd_sl g2.bh (x1.up g2.bb) ?_ fun u B3 H3 g3 y => q u B3 H3 ((g1.trans g2).trans g3) y
    rw [HT.sIx_none, HT.sIx_nat, ← hm]
    by_cases h : k ≤ l.length
    · rw [Nat.min_eq_left h]
      exact List.take_of_length_le (by rw [List.length_drop]; exact Nat.le_refl _)
    · rw [Nat.min_eq_right (by omega), List.drop_length, List.drop_eq_nil_of_le (by omega)]
      exact List.take_nil⟩⟩
end
end Tb

set_option maxHeartbeats 1000000
/-! The mirrors: what the program's and the law's defs reckon, in plain Lean. -/
namespace Tb
open PySem
inductive R4 where
  | bf | bs | af | same
  deriving DecidableEq
def R4.s : R4 → Str
  | .bf => "before"
  | .bs => "beside"
  | .af => "after"
  | .same => "same"
def R4.opp : R4 → R4
  | .bf => .af
  | .bs => .bs
  | .af => .bf
  | .same => .same
/-- a plan: w tells «then» -/
inductive Plan where
  | task (n : Int)
  | node (w : Bool) (ps : List Plan)
def wd : Bool → Str
  | true => "then"
  | false => "beside"
mutual
def Plan.toD : Plan → PyData
  | .task n => .int n
  | .node w ps => .tuple [.str (wd w), .tuple (toDs ps)]
def toDs : List Plan → List PyData
  | [] => []
  | p :: ps => p.toD :: toDs ps
end
theorem toDs_eq : ∀ ps : List Plan, toDs ps = ps.map Plan.toD
  | [] => rfl
  | p :: ps => by rw [toDs, toDs_eq ps]; rfl
theorem toDs_len (ps : List Plan) : (toDs ps).length = ps.length := by rw [toDs_eq, List.length_map]
mutual
def Plan.tasks : Plan → List Int
  | .task n => [n]
  | .node _ ps => tasksL ps
def tasksL : List Plan → List Int
  | [] => []
  | p :: ps => p.tasks ++ tasksL ps
end
mutual
def hasForm : Plan → Option Bool → Nat → Bool
  | .task n, _, _ => decide (0 ≤ n) && decide (n ≤ 6)
  | .node _ _, _, 0 => false
  | .node w ps, o, d + 1 => !decide (o = some w) && (decide (2 ≤ ps.length) && decide (ps.length ≤ 7)) && hasFormL ps w d
def hasFormL : List Plan → Bool → Nat → Bool
  | [], _, _ => true
  | p :: ps, w, d => hasForm p (some w) d && hasFormL ps w d
end
theorem hasFormL_eq (w : Bool) (d : Nat) : ∀ ps : List Plan, hasFormL ps w d = ps.all fun p => hasForm p (some w) d
  | [] => by unfold hasFormL; rfl
  | p :: ps => by unfold hasFormL; rw [hasFormL_eq w d ps]; rfl
mutual
def Plan.dep : Plan → Nat
  | .task _ => 0
  | .node _ ps => depL ps + 1
def depL : List Plan → Nat
  | [] => 0
  | p :: ps => max p.dep (depL ps)
end
theorem dep_le {p : Plan} : ∀ {ps : List Plan}, p ∈ ps → p.dep ≤ depL ps
  | q :: ps, h => by
    rcases List.mem_cons.mp h with e | h
    · subst e; exact Nat.le_max_left _ _
    · exact Nat.le_trans (dep_le h) (Nat.le_max_right _ _)
mutual
def Plan.sz : Plan → Nat
  | .task _ => 1
  | .node _ ps => szL ps + 1
def szL : List Plan → Nat
  | [] => 0
  | p :: ps => p.sz + szL ps
end
mutual
theorem dep_sz : ∀ p : Plan, p.dep ≤ p.sz
  | .task _ => Nat.zero_le _
  | .node _ ps => by
    have := depL_sz ps
    unfold Plan.dep Plan.sz
    omega
theorem depL_sz : ∀ ps : List Plan, depL ps ≤ szL ps
  | [] => Nat.le_refl _
  | p :: ps => by
    have h1 := dep_sz p
    have h2 := depL_sz ps
    unfold depL szL
    omega
end
mutual
theorem tasks_sz : ∀ p : Plan, p.tasks.length ≤ p.sz
  | .task _ => Nat.le_refl _
  | .node _ ps => by
    have := tasksL_sz ps
    unfold Plan.tasks Plan.sz
    omega
theorem tasksL_sz : ∀ ps : List Plan, (tasksL ps).length ≤ szL ps
  | [] => Nat.le_refl _
  | p :: ps => by
    have h1 := tasks_sz p
    have h2 := tasksL_sz ps
    unfold tasksL szL
    rw [List.length_append]
    omega
end
theorem sz_pos : ∀ p : Plan, 1 ≤ p.sz
  | .task _ => Nat.le_refl _
  | .node _ ps => by unfold Plan.sz; omega
theorem len_szL : ∀ ps : List Plan, ps.length ≤ szL ps
  | [] => Nat.le_refl _
  | p :: ps => by
    have h1 := sz_pos p
    have h2 := len_szL ps
    unfold szL
    rw [List.length_cons]
    omega
theorem sz_mem {p : Plan} : ∀ {ps : List Plan}, p ∈ ps → p.sz ≤ szL ps
  | q :: ps, h => by
    unfold szL
    rcases List.mem_cons.mp h with e | h
    · subst e; omega
    · have := sz_mem h; omega
theorem tasksL_mem {p : Plan} : ∀ {ps : List Plan}, p ∈ ps → p.tasks.length ≤ (tasksL ps).length
  | q :: ps, h => by
    rw [tasksL, List.length_append]
    rcases List.mem_cons.mp h with e | h
    · subst e; omega
    · have := tasksL_mem h; omega
theorem tasksL_eq : ∀ ps : List Plan, tasksL ps = (ps.map Plan.tasks).flatten
  | [] => rfl
  | p :: ps => by rw [tasksL, tasksL_eq ps]; rfl
/-- the place of the first part that holds a task -/
def idx (t : Int) : List Plan → Nat
  | [] => 0
  | p :: ps => if t ∈ p.tasks then 0 else idx t ps + 1
mutual
def Plan.rel : Plan → Int → Int → R4
  | .task _, _, _ => .same
  | .node w ps, a, b => if idx a ps = idx b ps then relAt ps (idx a ps) a b else if w then (if idx a ps < idx b ps then .bf else .af) else .bs
def relAt : List Plan → Nat → Int → Int → R4
  | [], _, _, _ => .same
  | p :: _, 0, a, b => p.rel a b
  | _ :: ps, n + 1, a, b => relAt ps n a b
end
theorem relAt_eq (a b : Int) : ∀ (ps : List Plan) (n : Nat) (p : Plan), ps[n]? = some p → relAt ps n a b = p.rel a b
  | [], n, p, h => by simp at h
  | q :: ps, 0, p, h => by
    simp at h
    subst h
    unfold relAt
    rfl
  | q :: ps, n + 1, p, h => by
    unfold relAt
    exact relAt_eq a b ps n p (by simpa using h)
theorem idx_lt {t : Int} : ∀ {ps : List Plan}, t ∈ tasksL ps → idx t ps < ps.length
  | p :: ps, h => by
    unfold idx
    split
    · exact Nat.zero_lt_succ _
    · rename_i hn
      rw [tasksL, List.mem_append] at h
      rcases h with h | h
      · exact absurd h hn
      · exact Nat.succ_lt_succ (idx_lt h)
theorem idx_at {t : Int} : ∀ {ps : List Plan}, t ∈ tasksL ps → ∃ p, ps[idx t ps]? = some p ∧ t ∈ p.tasks
  | p :: ps, h => by
    unfold idx
    split
    · rename_i hy
      exact ⟨p, rfl, hy⟩
    · rename_i hn
      rw [tasksL, List.mem_append] at h
      rcases h with h | h
      · exact absurd h hn
      · obtain ⟨q, h1, h2⟩ := idx_at h
        exact ⟨q, by simpa using h1, h2⟩
theorem idx_not {t : Int} : ∀ {ps : List Plan} {m : Nat} {p : Plan}, m < idx t ps → ps[m]? = some p → t ∉ p.tasks
  | q :: ps, m, p, h, e => by
    unfold idx at h
    split at h
    · exact absurd h (Nat.not_lt_zero _)
    · rename_i hn
      cases m with
      | zero => simp at e; subst e; exact hn
      | succ m => exact idx_not (Nat.lt_of_succ_lt_succ h) (by simpa using e)
mutual
def Plan.joint : Plan → Int → Int → Plan
  | .task n, _, _ => .task n
  | .node w ps, a, b => if idx a ps = idx b ps then jointAt ps (idx a ps) a b else .node w ps
def jointAt : List Plan → Nat → Int → Int → Plan
  | [], _, _, _ => .task 0
  | p :: _, 0, a, b => p.joint a b
  | _ :: ps, n + 1, a, b => jointAt ps n a b
end
theorem jointAt_eq (a b : Int) : ∀ (ps : List Plan) (n : Nat) (p : Plan), ps[n]? = some p → jointAt ps n a b = p.joint a b
  | [], n, p, h => by simp at h
  | q :: ps, 0, p, h => by
    simp at h
    subst h
    unfold jointAt
    rfl
  | q :: ps, n + 1, p, h => by
    unfold jointAt
    exact jointAt_eq a b ps n p (by simpa using h)
/-- two tasks that stand in a plan stand at its joint -/
structure JointOk (p : Plan) (a b : Int) (q : Plan) : Prop where
  ex : ∃ w ps, q = .node w ps ∧ idx a ps ≠ idx b ps ∧ a ∈ tasksL ps ∧ b ∈ tasksL ps ∧ depL ps + 1 ≤ p.dep ∧ szL ps + 1 ≤ p.sz ∧ p.rel a b = (if w then (if idx a ps < idx b ps then .bf else .af) else .bs)
theorem joint_ok {a b : Int} (hab : a ≠ b) : ∀ (n : Nat) (p : Plan), p.dep ≤ n → a ∈ p.tasks → b ∈ p.tasks → JointOk p a b (p.joint a b)
  | n, .task m, _, ha, hb => by
    simp only [Plan.tasks, List.mem_singleton] at ha hb
    exact absurd (ha.trans hb.symm) hab
  | 0, .node w ps, hd, _, _ => absurd hd (by unfold Plan.dep; omega)
  | n + 1, .node w ps, hd, ha, hb => by
    unfold Plan.dep at hd
    unfold Plan.tasks at ha hb
    unfold Plan.joint
    by_cases h : idx a ps = idx b ps
    · rw [if_pos h]
      obtain ⟨q, hq, haq⟩ := idx_at ha
      obtain ⟨q', hq', hbq⟩ := idx_at hb
      rw [← h, hq] at hq'
      cases hq'
      rw [jointAt_eq a b ps _ q hq]
      have hm := List.mem_of_getElem? hq
      have hdq := dep_le hm
      obtain ⟨v, qs, e1, e2, e3, e4, e5, e6, e7⟩ := (joint_ok hab n q (by omega) haq hbq).ex
      refine ⟨v, qs, e1, e2, e3, e4, ?_, ?_, ?_⟩
      · unfold Plan.dep; omega
      · have := sz_mem hm; unfold Plan.sz; omega
      · unfold Plan.rel
        rw [if_pos h, relAt_eq a b ps _ q hq]
        exact e7
    · rw [if_neg h]
      refine ⟨w, ps, rfl, h, ha, hb, Nat.le_refl _, Nat.le_refl _, ?_⟩
      unfold Plan.rel
      rw [if_neg h]
/-! lists of ints in order -/
def ins (a : Int) : List Int → List Int
  | [] => [a]
  | b :: l => if a ≤ b then a :: b :: l else b :: ins a l
def srt : List Int → List Int
  | [] => []
  | a :: l => ins a (srt l)
theorem ins_perm (a : Int) : ∀ l : List Int, (ins a l).Perm (a :: l)
  | [] => List.Perm.refl _
  | b :: l => by
    unfold ins
    split
    · exact List.Perm.refl _
    · exact ((ins_perm a l).cons b).trans (List.Perm.swap a b l)
theorem srt_perm : ∀ l : List Int, (srt l).Perm l
  | [] => List.Perm.refl _
  | a :: l => (ins_perm a (srt l)).trans ((srt_perm l).cons a)
theorem ins_pw (a : Int) : ∀ l : List Int, l.Pairwise (· ≤ ·) → (ins a l).Pairwise (· ≤ ·)
  | [], _ => by unfold ins; exact List.pairwise_singleton _ _
  | b :: l, h => by
    unfold ins
    rw [List.pairwise_cons] at h
    split
    · rename_i hab
      refine List.pairwise_cons.mpr ⟨fun c hc => ?_, List.pairwise_cons.mpr h⟩
      rcases List.mem_cons.mp hc with e | hc
      · subst e; exact hab
      · exact Int.le_trans hab (h.1 c hc)
    · rename_i hab
      refine List.pairwise_cons.mpr ⟨fun c hc => ?_, ins_pw a l h.2⟩
      rcases List.mem_cons.mp ((ins_perm a l).mem_iff.mp hc) with e | hc
      · subst e; omega
      · exact h.1 c hc
theorem srt_pw : ∀ l : List Int, (srt l).Pairwise (· ≤ ·)
  | [] => List.Pairwise.nil
  | a :: l => ins_pw a _ (srt_pw l)
def oD : Option Bool → Str
  | none => ""
  | some w => wd w
/-! ### rules -/
structure Rule where
  a : Int
  al : List R4
  b : Int
def rD (al : List R4) : List PyData := al.map fun x => .str x.s
def Rule.toD (r : Rule) : PyData := .tuple [.int r.a, .tuple (rD r.al), .int r.b]
def rsD (rs : List Rule) : List PyData := rs.map Rule.toD
def probD (n : Nat) (rs : List Rule) : PyData := .tuple [.int (n : Int), .tuple (rsD rs)]
def R3 : List R4 := [.bf, .bs, .af]
structure Rule.ok (n : Nat) (r : Rule) : Prop where
  a0 : 0 ≤ r.a
  an : r.a < (n : Int)
  b0 : 0 ≤ r.b
  bn : r.b < (n : Int)
  ne : r.a ≠ r.b
  al : r.al ≠ []
  ord : R3.filter (fun x => decide (x ∈ r.al)) = r.al
def opps (al : List R4) : List R4 := R3.filter fun x => decide (x ∈ al.map R4.opp)
def stepA (x y : Int) (found : List R4) (r : Rule) : List R4 := if r.a = x ∧ r.b = y then found.filter (fun z => decide (z ∈ r.al)) else found
def stepB (x y : Int) (found : List R4) (r : Rule) : List R4 := if r.a = y ∧ r.b = x then found.filter (fun z => decide (z ∈ opps r.al)) else found
def stepR (x y : Int) (found : List R4) (r : Rule) : List R4 := stepB x y (stepA x y found r) r
/-- the allowed relations -/
def alw (rs : List Rule) (x y : Int) : List R4 := rs.foldl (stepR x y) R3
def tie (rs : List Rule) (x y : Int) : Bool := !decide (R4.bs ∈ alw rs x y)
def bar (rs : List Rule) (x y : Int) : Bool := !decide (R4.bf ∈ alw rs x y)
theorem opp_opp (x : R4) : x.opp.opp = x := by cases x <;> rfl
theorem mem_opps {x : R4} {al : List R4} (hx : x ∈ R3) : x ∈ opps al ↔ x.opp ∈ al := by
  unfold opps
  rw [List.mem_filter, decide_eq_true_eq, List.mem_map]
  constructor
  · rintro ⟨_, y, hy, rfl⟩
    rw [opp_opp]
    exact hy
  · intro h
    exact ⟨hx, x.opp, h, opp_opp x⟩
theorem stepA_sub {x y : Int} {f : List R4} {r : Rule} {z : R4} (h : z ∈ stepA x y f r) : z ∈ f := by
  unfold stepA at h
  split at h
  · exact (List.mem_filter.mp h).1
  · exact h
theorem stepR_sub {x y : Int} {f : List R4} {r : Rule} {z : R4} (h : z ∈ stepR x y f r) : z ∈ f := by
  unfold stepR stepB at h
  split at h
  · exact stepA_sub (List.mem_filter.mp h).1
  · exact stepA_sub h
theorem foldl_sub {x y : Int} : ∀ {rs : List Rule} {f : List R4} {z : R4}, z ∈ rs.foldl (stepR x y) f → z ∈ f
  | [], _, _, h => h
  | r :: rs, f, z, h => stepR_sub (foldl_sub (rs := rs) h)
/-- what is allowed, told rule by rule -/
theorem mem_alw {rs : List Rule} {x y : Int} {z : R4} (hz : z ∈ R3) : z ∈ alw rs x y ↔ ∀ r ∈ rs, (r.a = x → r.b = y → z ∈ r.al) ∧ (r.a = y → r.b = x → z.opp ∈ r.al) := by
  have key : ∀ (rs : List Rule) (f : List R4), (∀ u ∈ f, u ∈ R3) → (z ∈ rs.foldl (stepR x y) f ↔ z ∈ f ∧ ∀ r ∈ rs, (r.a = x → r.b = y → z ∈ r.al) ∧ (r.a = y → r.b = x → z.opp ∈ r.al)) := by
    intro rs
    induction rs with
    | nil => intro f _; simp
    | cons r rs ih =>
      intro f hf
      have hs : ∀ u ∈ stepR x y f r, u ∈ R3 := fun u hu => hf u (stepR_sub hu)
      rw [List.foldl_cons, ih _ hs]
      have e : z ∈ stepR x y f r ↔ z ∈ f ∧ (r.a = x → r.b = y → z ∈ r.al) ∧ (r.a = y → r.b = x → z.opp ∈ r.al) := by
        unfold stepR stepB stepA
        by_cases h1 : r.a = x ∧ r.b = y
        · by_cases h2 : r.a = y ∧ r.b = x
          · rw [if_pos h1, if_pos h2, List.mem_filter, List.mem_filter, decide_eq_true_eq, decide_eq_true_eq, mem_opps hz]
            constructor
            · rintro ⟨⟨a, b⟩, c⟩; exact ⟨a, fun _ _ => b, fun _ _ => c⟩
            · rintro ⟨a, b, c⟩; exact ⟨⟨a, b h1.1 h1.2⟩, c h2.1 h2.2⟩
          · rw [if_pos h1, if_neg h2, List.mem_filter, decide_eq_true_eq]
            constructor
            · rintro ⟨a, b⟩; exact ⟨a, fun _ _ => b, fun p q => absurd ⟨p, q⟩ h2⟩
            · rintro ⟨a, b, c⟩; exact ⟨a, b h1.1 h1.2⟩
        · by_cases h2 : r.a = y ∧ r.b = x
          · rw [if_neg h1, if_pos h2, List.mem_filter, decide_eq_true_eq, mem_opps hz]
            constructor
            · rintro ⟨a, c⟩; exact ⟨a, fun p q => absurd ⟨p, q⟩ h1, fun _ _ => c⟩
            · rintro ⟨a, b, c⟩; exact ⟨a, c h2.1 h2.2⟩
          · rw [if_neg h1, if_neg h2]
            exact ⟨fun a => ⟨a, fun p q => absurd ⟨p, q⟩ h1, fun p q => absurd ⟨p, q⟩ h2⟩, fun a => a.1⟩
      rw [e]
      constructor
      · rintro ⟨⟨a, b, c⟩, d⟩
        refine ⟨a, fun r' hr' => ?_⟩
        rcases List.mem_cons.mp hr' with e | hr'
        · subst e; exact ⟨b, c⟩
        · exact d r' hr'
      · rintro ⟨a, b⟩
        exact ⟨⟨a, b r (by simp)⟩, fun r' hr' => b r' (List.mem_cons_of_mem _ hr')⟩
  unfold alw
  rw [key rs R3 fun u hu => hu]
  exact ⟨fun h => h.2, fun h => ⟨hz, h⟩⟩
/-- all rules are kept -/
def keeps (rs : List Rule) (p : Plan) : Bool := rs.all fun r => decide (p.rel r.a r.b ∈ r.al)
/-! ### reached -/
inductive Rch (lead : Int → Int → Bool) (ch : List Int) (t : Int) : Int → Prop
  | refl : Rch lead ch t t
  | step {x y : Int} (h : Rch lead ch t x) (hy : y ∈ ch) (hl : lead x y = true) : Rch lead ch t y
/-- what a task reaches within a set -/
noncomputable def rset (lead : Int → Int → Bool) (ch : List Int) (t : Int) : List Int := ch.filter fun y => @decide (Rch lead ch t y) (Classical.propDecidable _)
theorem mem_rset {lead : Int → Int → Bool} {ch : List Int} {t y : Int} : y ∈ rset lead ch t ↔ y ∈ ch ∧ Rch lead ch t y := by
  unfold rset
  rw [List.mem_filter, @decide_eq_true_eq _ (Classical.propDecidable _)]
/-- what the walk keeps: ks met, ws waiting; but for h (where it stands), whose first i others are seen -/
structure RInv (lead : Int → Int → Bool) (ch : List Int) (t : Int) (ks ws : List Int) (h : Option (Int × Nat)) : Prop where
  nd : ks.Nodup
  t0 : t ∈ ks
  sub : ∀ x ∈ ks, x ∈ ch
  rch : ∀ x ∈ ks, Rch lead ch t x
  wk : ∀ x ∈ ws, x ∈ ks
  cl : ∀ x ∈ ks, x ∉ ws → (∀ p, h = some p → x ≠ p.1) → ∀ y ∈ ch, lead x y = true → y ∈ ks
  hh : ∀ p, h = some p → p.1 ∈ ks ∧ ∀ j y, j < p.2 → ch[j]? = some y → lead p.1 y = true → y ∈ ks
section
variable {lead : Int → Int → Bool} {ch : List Int} {t : Int} {ks ws : List Int}
theorem nd_len : ∀ {a b : List Int}, a.Nodup → (∀ x ∈ a, x ∈ b) → a.length ≤ b.length
  | [], _, _, _ => Nat.zero_le _
  | x :: a, b, hn, hs => by
    rw [List.nodup_cons] at hn
    have hx : x ∈ b := hs x (by simp)
    have h1 := nd_len (a := a) (b := b.erase x) hn.2 fun y hy => (List.mem_erase_of_ne (fun e : y = x => hn.1 (by rw [← e]; exact hy))).mpr (hs y (List.mem_cons_of_mem _ hy))
    rw [List.length_erase_of_mem hx] at h1
    have := List.length_pos_of_mem hx
    rw [List.length_cons]
    omega
theorem RInv.start (ht : t ∈ ch) : RInv lead ch t [t] [t] none :=
  ⟨by simp, by simp, by simp [ht], fun x hx => by simp at hx; subst hx; exact .refl, fun x hx => hx, fun x hx hn => absurd hx hn, fun p e => by cases e⟩
theorem RInv.pop {h : Int} (r : RInv lead ch t ks (ws ++ [h]) none) : RInv lead ch t ks ws (some (h, 0)) :=
  ⟨r.nd, r.t0, r.sub, r.rch, fun x hx => r.wk x (List.mem_append_left _ hx), fun x hx hn hne y hy hl => r.cl x hx (fun z => by
    rcases List.mem_append.mp z with z | z
    · exact hn z
    · simp at z; exact hne _ rfl z) (fun p e => by cases e) y hy hl, fun p e => by cases e; exact ⟨r.wk h (by simp), fun j y hj => absurd hj (Nat.not_lt_zero _)⟩⟩
theorem RInv.seen {h : Int} {i : Nat} {y : Int} (r : RInv lead ch t ks ws (some (h, i))) (hy : ch[i]? = some y) (hn : y ∈ ks ∨ lead h y = false) : RInv lead ch t ks ws (some (h, i + 1)) :=
  ⟨r.nd, r.t0, r.sub, r.rch, r.wk, fun x hx hw hne => r.cl x hx hw (fun p e => by cases e; exact hne (h, i + 1) rfl), fun p e => by
    cases e
    refine ⟨(r.hh _ rfl).1, fun j z hj hz hl => ?_⟩
    rcases Nat.lt_succ_iff_lt_or_eq.mp hj with hj | hj
    · exact (r.hh _ rfl).2 j z hj hz hl
    · subst hj
      have e : z = y := Option.some.inj (hz.symm.trans hy)
      subst e
      rcases hn with hn | hn
      · exact hn
      · rw [hn] at hl; cases hl⟩
theorem RInv.met {h : Int} {i : Nat} {y : Int} (r : RInv lead ch t ks ws (some (h, i))) (hy : ch[i]? = some y) (hn : y ∉ ks) (hl : lead h y = true) : RInv lead ch t (ks ++ [y]) (ws ++ [y]) (some (h, i + 1)) := by
  have hyc := List.mem_of_getElem? hy
  refine ⟨List.nodup_append.mpr ⟨r.nd, by simp, fun a ha b hb e => ?_⟩, List.mem_append_left _ r.t0, fun x hx => ?_, fun x hx => ?_, fun x hx => ?_, fun x hx hw hne z hz hl2 => ?_, fun p e => ?_⟩
  · simp at hb; subst hb; subst e; exact hn ha
  · rcases List.mem_append.mp hx with hx | hx
    · exact r.sub x hx
    · simp at hx; subst hx; exact hyc
  · rcases List.mem_append.mp hx with hx | hx
    · exact r.rch x hx
    · simp at hx; subst hx; exact .step (r.rch h (r.hh _ rfl).1) hyc hl
  · rcases List.mem_append.mp hx with hx | hx
    · exact List.mem_append_left _ (r.wk x hx)
    · exact List.mem_append_right _ hx
  · rcases List.mem_append.mp hx with hx | hx
    · exact List.mem_append_left _ (r.cl x hx (fun q => hw (List.mem_append_left _ q)) (fun p e => by cases e; exact hne (h, i + 1) rfl) z hz hl2)
    · exact absurd (List.mem_append_right _ hx) hw
  · cases e
    refine ⟨List.mem_append_left _ (r.hh _ rfl).1, fun j z hj hz hl2 => ?_⟩
    rcases Nat.lt_succ_iff_lt_or_eq.mp hj with hj | hj
    · exact List.mem_append_left _ ((r.hh _ rfl).2 j z hj hz hl2)
    · subst hj
      have e : z = y := Option.some.inj (hz.symm.trans hy)
      subst e
      exact List.mem_append_right _ (by simp)
theorem RInv.done {h : Int} {i : Nat} (r : RInv lead ch t ks ws (some (h, i))) (hi : ch.length ≤ i) : RInv lead ch t ks ws none :=
  ⟨r.nd, r.t0, r.sub, r.rch, r.wk, fun x hx hw _ y hy hl => by
    by_cases e : x = h
    · subst e
      obtain ⟨j, hj, ej⟩ := List.getElem_of_mem hy
      exact (r.hh _ rfl).2 j y (by omega) (by rw [List.getElem?_eq_getElem hj, ej]) hl
    · exact r.cl x hx hw (fun p q => by cases q; exact e) y hy hl, fun p e => by cases e⟩
theorem RInv.all (r : RInv lead ch t ks [] none) {y : Int} : Rch lead ch t y → y ∈ ks := by
  intro h
  induction h with
  | refl => exact r.t0
  | step _ hy hl ih => exact r.cl _ ih (by simp) (fun p e => by cases e) _ hy hl
theorem RInv.perm (r : RInv lead ch t ks [] none) (hn : ch.Nodup) : ks.Perm (rset lead ch t) := by
  refine (List.perm_ext_iff_of_nodup r.nd (hn.filter _)).mpr fun y => Iff.trans ?_ mem_rset.symm
  exact ⟨fun h => ⟨r.sub y h, r.rch y h⟩, fun h => r.all h.2⟩
theorem RInv.len {h0 : Int} {i0 : Nat} (r : RInv lead ch t ks ws (some (h0, i0))) (hn : ch.Nodup) : ks.length ≤ ch.length :=
  nd_len r.nd r.sub
theorem RInv.len0 (r : RInv lead ch t ks ws none) (hn : ch.Nodup) : ks.length ≤ ch.length :=
  nd_len r.nd r.sub
end
theorem asc_nodup {l : List Int} (h : l.Pairwise (· < ·)) : l.Nodup := h.imp fun h => by omega
theorem asc_le {l : List Int} (h : l.Pairwise (· < ·)) : l.Pairwise (· ≤ ·) := h.imp fun h => by omega
theorem rset_asc {lead : Int → Int → Bool} {ch : List Int} {t : Int} (h : ch.Pairwise (· < ·)) : (rset lead ch t).Pairwise (· < ·) := h.filter _
/-- rules, not too many -/
structure Few (rs : List Rule) : Prop where
  len : rs.length ≤ 100
  al : ∀ r ∈ rs, r.al.length ≤ 3
/-! ### splits -/
def restOf (ch part : List Int) : List Int := ch.filter fun x => !decide (x ∈ part)
noncomputable def barCut (rs : List Rule) (ch : List Int) : List Int → Option (List Int)
  | [] => none
  | t :: ts => if (rset (bar rs) ch t).length < ch.length then some (rset (bar rs) ch t) else barCut rs ch ts
/-- the word (true: then), the first part -/
noncomputable def split (rs : List Rule) (ch : List Int) : Option (Bool × List Int) :=
  if (rset (tie rs) ch (ch.headD 0)).length < ch.length then some (false, rset (tie rs) ch (ch.headD 0)) else (barCut rs ch ch).map fun p => (true, p)
def splitD (ch : List Int) : Option (Bool × List Int) → PyData
  | none => .none
  | some (w, part) => .tuple [.str (wd w), .tuple (part.map .int), .tuple ((restOf ch part).map .int)]
end Tb

set_option maxHeartbeats 1000000
/-! The mirrors, further: normal forms, joined plans, answers. -/
namespace Tb
open PySem
def leastT (p : Plan) : Int := (srt p.tasks).headD 0
theorem least_ok {p : Plan} (h : p.tasks ≠ []) : leastT p ∈ p.tasks ∧ ∀ y ∈ p.tasks, leastT p ≤ y := by
  unfold leastT
  have hp := srt_perm p.tasks
  have hw := srt_pw p.tasks
  generalize srt p.tasks = l at hp hw
  cases l with
  | nil => exact absurd (List.nil_perm.mp hp) h
  | cons a l =>
    rw [List.pairwise_cons] at hw
    refine ⟨hp.mem_iff.mp (by simp), fun y hy => ?_⟩
    rcases List.mem_cons.mp (hp.mem_iff.mpr hy) with e | hy
    · rw [e]; exact Int.le_refl _
    · exact hw.1 y hy
def insP (a : Plan) : List Plan → List Plan
  | [] => [a]
  | b :: l => if leastT a ≤ leastT b then a :: b :: l else b :: insP a l
def srtP : List Plan → List Plan
  | [] => []
  | a :: l => insP a (srtP l)
theorem insP_perm (a : Plan) : ∀ l : List Plan, (insP a l).Perm (a :: l)
  | [] => List.Perm.refl _
  | b :: l => by
    unfold insP
    split
    · exact List.Perm.refl _
    · exact ((insP_perm a l).cons b).trans (List.Perm.swap a b l)
theorem srtP_perm : ∀ l : List Plan, (srtP l).Perm l
  | [] => List.Perm.refl _
  | a :: l => (insP_perm a (srtP l)).trans ((srtP_perm l).cons a)
theorem insP_pw (a : Plan) : ∀ l : List Plan, l.Pairwise (fun x y => leastT x ≤ leastT y) → (insP a l).Pairwise (fun x y => leastT x ≤ leastT y)
  | [], _ => by unfold insP; exact List.pairwise_singleton _ _
  | b :: l, h => by
    unfold insP
    rw [List.pairwise_cons] at h
    split
    · rename_i hab
      refine List.pairwise_cons.mpr ⟨fun c hc => ?_, List.pairwise_cons.mpr h⟩
      rcases List.mem_cons.mp hc with e | hx
      · subst e; exact hab
      · exact Int.le_trans hab (h.1 c hx)
    · rename_i hab
      refine List.pairwise_cons.mpr ⟨fun c hc => ?_, insP_pw a l h.2⟩
      rcases List.mem_cons.mp ((insP_perm a l).mem_iff.mp hc) with e | hx
      · subst e; omega
      · exact h.1 c hx
theorem srtP_pw : ∀ l : List Plan, (srtP l).Pairwise (fun x y => leastT x ≤ leastT y)
  | [] => List.Pairwise.nil
  | a :: l => insP_pw a _ (srtP_pw l)
theorem tasksL_perm {l l' : List Plan} (h : l.Perm l') : (tasksL l).Perm (tasksL l') := by
  rw [tasksL_eq, tasksL_eq]
  exact (h.map _).flatten
theorem szL_perm {l l' : List Plan} (h : l.Perm l') : szL l = szL l' := by
  induction h with
  | nil => rfl
  | cons x _ ih => unfold szL; rw [ih]
  | swap x y l => unfold szL; unfold szL; omega
  | trans _ _ a b => exact a.trans b
mutual
def Plan.norm : Plan → Plan
  | .task n => .task n
  | .node true ps => .node true (normL ps)
  | .node false ps => .node false (srtP (normL ps))
def normL : List Plan → List Plan
  | [] => []
  | p :: ps => p.norm :: normL ps
end
theorem normL_eq : ∀ ps : List Plan, normL ps = ps.map Plan.norm
  | [] => rfl
  | p :: ps => by rw [normL, normL_eq ps]; rfl
mutual
theorem norm_sz : ∀ p : Plan, p.norm.sz = p.sz
  | .task n => by unfold Plan.norm; rfl
  | .node true ps => by unfold Plan.norm Plan.sz; rw [normL_sz ps]
  | .node false ps => by unfold Plan.norm Plan.sz; rw [szL_perm (srtP_perm _), normL_sz ps]
theorem normL_sz : ∀ ps : List Plan, szL (normL ps) = szL ps
  | [] => rfl
  | p :: ps => by unfold normL szL; rw [norm_sz p, normL_sz ps]
end
mutual
theorem norm_tasks : ∀ p : Plan, p.norm.tasks.Perm p.tasks
  | .task n => by unfold Plan.norm; exact List.Perm.refl _
  | .node true ps => by unfold Plan.norm Plan.tasks; exact normL_tasks ps
  | .node false ps => by unfold Plan.norm Plan.tasks; exact (tasksL_perm (srtP_perm _)).trans (normL_tasks ps)
theorem normL_tasks : ∀ ps : List Plan, (tasksL (normL ps)).Perm (tasksL ps)
  | [] => List.Perm.refl _
  | p :: ps => by unfold normL tasksL; exact (norm_tasks p).append (normL_tasks ps)
end
mutual
def Plan.full : Plan → Bool
  | .task _ => true
  | .node _ ps => !ps.isEmpty && fullL ps
def fullL : List Plan → Bool
  | [] => true
  | p :: ps => p.full && fullL ps
end
mutual
theorem full_tasks : ∀ p : Plan, p.full = true → p.tasks ≠ []
  | .task n, _ => by unfold Plan.tasks; simp
  | .node w ps, h => by
    unfold Plan.full at h
    rw [Bool.and_eq_true] at h
    unfold Plan.tasks
    exact fullL_tasks ps (by intro e; subst e; exact absurd h.1 (by decide)) h.2
theorem fullL_tasks : ∀ ps : List Plan, ps ≠ [] → fullL ps = true → tasksL ps ≠ []
  | [], h, _ => absurd rfl h
  | p :: ps, _, h => by
    unfold fullL at h
    rw [Bool.and_eq_true] at h
    unfold tasksL
    intro e
    exact full_tasks p h.1 (List.append_eq_nil_iff.mp e).1
end
theorem fullL_iff : ∀ {ps : List Plan}, fullL ps = true ↔ ∀ p ∈ ps, p.full = true
  | [] => by unfold fullL; simp
  | p :: ps => by unfold fullL; rw [Bool.and_eq_true, fullL_iff]; simp
mutual
theorem hf_full : ∀ (p : Plan) (o : Option Bool) (d : Nat), hasForm p o d = true → p.full = true
  | .task n, _, _, _ => rfl
  | .node w ps, o, 0, h => by unfold hasForm at h; cases h
  | .node w ps, o, d + 1, h => by
    unfold hasForm at h
    simp only [Bool.and_eq_true, decide_eq_true_eq] at h
    unfold Plan.full
    rw [hfL_full ps w d h.2]
    cases ps with
    | nil => exact absurd h.1.2.1 (by decide)
    | cons _ _ => rfl
theorem hfL_full : ∀ (ps : List Plan) (w : Bool) (d : Nat), hasFormL ps w d = true → fullL ps = true
  | [], _, _, _ => rfl
  | p :: ps, w, d, h => by
    unfold hasFormL at h
    rw [Bool.and_eq_true] at h
    unfold fullL
    rw [hf_full p _ _ h.1, hfL_full ps w d h.2]; rfl
end
mutual
theorem norm_full : ∀ p : Plan, p.full = true → p.norm.full = true
  | .task n, _ => by unfold Plan.norm; rfl
  | .node true ps, h => by
    unfold Plan.full at h
    rw [Bool.and_eq_true] at h
    unfold Plan.norm Plan.full
    rw [normL_full ps h.2, Bool.and_true]
    cases ps with
    | nil => exact h.1
    | cons _ _ => rfl
  | .node false ps, h => by
    unfold Plan.full at h
    rw [Bool.and_eq_true] at h
    unfold Plan.norm Plan.full
    have e : fullL (srtP (normL ps)) = true := fullL_iff.mpr fun p hp => fullL_iff.mp (normL_full ps h.2) p ((srtP_perm _).mem_iff.mp hp)
    rw [e, Bool.and_true]
    have hl := (srtP_perm (normL ps)).length_eq
    cases ps with
    | nil => exact h.1
    | cons _ _ =>
      generalize srtP (normL _) = l at hl
      cases l with
      | nil => rw [normL] at hl; cases hl
      | cons _ _ => rfl
theorem normL_full : ∀ ps : List Plan, fullL ps = true → fullL (normL ps) = true
  | [], _ => rfl
  | p :: ps, h => by
    unfold fullL at h
    rw [Bool.and_eq_true] at h
    unfold normL fullL
    rw [norm_full p h.1, normL_full ps h.2]; rfl
end
/-- least tasks of parts without a common task differ -/
theorem least_inj : ∀ {l : List Plan}, (tasksL l).Nodup → fullL l = true → ∀ a ∈ l, ∀ b ∈ l, leastT a = leastT b → a = b
  | p :: l, hn, hf, a, ha0, b, hb0, e => by
    unfold fullL at hf
    rw [Bool.and_eq_true] at hf
    unfold tasksL at hn
    rw [List.nodup_append] at hn
    have out : ∀ c ∈ l, leastT p = leastT c → False := fun c hc e => by
      have h1 := (least_ok (full_tasks p hf.1)).1
      have h2 := (least_ok (full_tasks c (fullL_iff.mp hf.2 c hc))).1
      have h3 : leastT c ∈ tasksL l := by
        rw [tasksL_eq, List.mem_flatten]
        exact ⟨_, List.mem_map.mpr ⟨c, hc, rfl⟩, h2⟩
      exact hn.2.2 _ h1 _ h3 e
    rcases List.mem_cons.mp ha0 with hae | ha
    · subst hae
      rcases List.mem_cons.mp hb0 with hbe | hb
      · exact hbe.symm
      · exact (out b hb e).elim
    · rcases List.mem_cons.mp hb0 with hbe | hb
      · subst hbe
        exact (out a ha e.symm).elim
      · exact least_inj hn.2.1 hf.2 a ha b hb e
theorem srtP_uniq {l l' : List Plan} (hn : (tasksL l).Nodup) (hf : fullL l = true) (hp : l'.Perm l) (hw : l'.Pairwise fun x y => leastT x ≤ leastT y) : l' = srtP l :=
  List.Perm.eq_of_pairwise (le := fun x y => leastT x ≤ leastT y) (fun a b ha hb h1 h2 => least_inj hn hf a (hp.mem_iff.mp ha) b ((srtP_perm l).mem_iff.mp hb) (Int.le_antisymm h1 h2)) hw (srtP_pw l) (hp.trans (srtP_perm l).symm)
theorem nodup_part {p : Plan} {ps : List Plan} (h : (tasksL ps).Nodup) (hp : p ∈ ps) : p.tasks.Nodup := by
  induction ps with
  | nil => cases hp
  | cons q ps ih =>
    unfold tasksL at h
    rw [List.nodup_append] at h
    rcases List.mem_cons.mp hp with rfl | hp
    · exact h.1
    · exact ih h.2.1 hp
/-! ### joined, taken apart -/
def partsOf (w : Bool) : Plan → List Plan
  | .node v ps => if v = w then ps else [.node v ps]
  | .task n => [.task n]
def joinP (w : Bool) (p q : Plan) : Plan := .node w (partsOf w p ++ partsOf w q)
inductive Ans where
  | plan (p : Plan)
  | set (ch : List Int)
def Ans.toD : Ans → PyData
  | .plan p => .tuple [.str "plan", p.toD]
  | .set ch => .tuple [.str "set", .tuple (ch.map .int)]
def Ans.both (w : Bool) : Ans → Ans → Ans
  | .set s, _ => .set s
  | .plan _, .set s => .set s
  | .plan p, .plan q => .plan (joinP w p q)
noncomputable def apart (rs : List Rule) : Nat → List Int → Ans
  | 0, ch => .set ch
  | k + 1, ch => if ch.length = 1 then .plan (.task (ch.headD 0)) else match split rs ch with
    | none => .set ch
    | some (w, part) => (apart rs k part).both w (apart rs k (restOf ch part))
theorem szL_append (a b : List Plan) : szL (a ++ b) = szL a + szL b := by
  induction a with
  | nil => exact (Nat.zero_add _).symm
  | cons p a ih =>
    show p.sz + szL (a ++ b) = (p.sz + szL a) + szL b
    rw [ih]; omega
theorem partsOf_sz (w : Bool) (p : Plan) : szL (partsOf w p) ≤ p.sz := by
  cases p with
  | task n => exact Nat.le_refl _
  | node v ps =>
    have e : (Plan.node v ps).sz = szL ps + 1 := by rw [Plan.sz]
    rw [partsOf, e]
    split
    · omega
    · show (Plan.node v ps).sz + 0 ≤ _
      omega
/-- what a split is made of -/
structure SplitOk (ch part : List Int) : Prop where
  sub : part.Sublist ch
  ne : part ≠ []
  lt : part.length < ch.length
theorem rset_self {lead : Int → Int → Bool} {ch : List Int} {t : Int} (h : t ∈ ch) : rset lead ch t ≠ [] := fun e => by
  have : t ∈ rset lead ch t := mem_rset.mpr ⟨h, .refl⟩
  rw [e] at this
  cases this
theorem barCut_ok {rs : List Rule} {ch : List Int} : ∀ {qs part : List Int}, (∀ x ∈ qs, x ∈ ch) → barCut rs ch qs = some part → ∃ t ∈ qs, part = rset (bar rs) ch t ∧ part.length < ch.length
  | [], _, _, h => by cases h
  | q :: qs, part, hq, h => by
    unfold barCut at h
    split at h
    · rename_i hl
      cases h
      exact ⟨q, by simp, rfl, hl⟩
    · obtain ⟨t, h1, h2⟩ := barCut_ok (fun x hx => hq x (List.mem_cons_of_mem _ hx)) h
      exact ⟨t, List.mem_cons_of_mem _ h1, h2⟩
theorem barCut_none {rs : List Rule} {ch : List Int} : ∀ {qs : List Int}, barCut rs ch qs = none → ∀ t ∈ qs, ¬ (rset (bar rs) ch t).length < ch.length
  | [], _, _, h => by cases h
  | q :: qs, h, t, ht => by
    unfold barCut at h
    split at h
    · cases h
    · rename_i hl
      rcases List.mem_cons.mp ht with rfl | ht
      · exact hl
      · exact barCut_none h t ht
theorem split_cases {rs : List Rule} {ch : List Int} {w : Bool} {part : List Int} (hne : ch ≠ []) (h : split rs ch = some (w, part)) : ∃ t ∈ ch, part = rset (if w then bar rs else tie rs) ch t ∧ part.length < ch.length := by
  unfold split at h
  split at h
  · rename_i hl
    cases h
    refine ⟨ch.headD 0, ?_, rfl, hl⟩
    cases ch with
    | nil => exact absurd rfl hne
    | cons a l => simp
  · cases hb : barCut rs ch ch with
    | none => rw [hb] at h; cases h
    | some p =>
      rw [hb] at h
      cases h
      obtain ⟨t, h1, h2, h3⟩ := barCut_ok (fun x hx => hx) hb
      exact ⟨t, h1, h2, h3⟩
theorem split_ok {rs : List Rule} {ch : List Int} {w : Bool} {part : List Int} (hne : ch ≠ []) (h : split rs ch = some (w, part)) : SplitOk ch part := by
  obtain ⟨t, h1, h2, h3⟩ := split_cases hne h
  subst h2
  exact ⟨List.filter_sublist, rset_self h1, h3⟩
theorem rest_sub (ch part : List Int) : (restOf ch part).Sublist ch := List.filter_sublist
theorem mem_rest {ch part : List Int} {x : Int} : x ∈ restOf ch part ↔ x ∈ ch ∧ x ∉ part := by
  unfold restOf
  rw [List.mem_filter, Bool.not_eq_true', decide_eq_false_iff_not]
theorem rest_ne {ch part : List Int} (hn : ch.Nodup) (h : SplitOk ch part) : restOf ch part ≠ [] := fun e => by
  have hs : ∀ x ∈ ch, x ∈ part := fun x hx => Classical.byContradiction fun hp => by
    have : x ∈ restOf ch part := mem_rest.mpr ⟨hx, hp⟩
    rw [e] at this
    cases this
  have := nd_len hn hs
  have := h.lt
  omega
/-- both parts together are as long as the whole -/
theorem rest_perm {ch part : List Int} (hn : ch.Nodup) (h : part.Sublist ch) : (part ++ restOf ch part).Perm ch := by
  refine (List.perm_ext_iff_of_nodup ?_ hn).mpr fun x => ?_
  · rw [List.nodup_append]
    refine ⟨h.nodup hn, (rest_sub ch part).nodup hn, fun a ha b hb e => ?_⟩
    subst e
    exact (mem_rest.mp hb).2 ha
  · rw [List.mem_append, mem_rest]
    constructor
    · rintro (hx | hx)
      · exact h.subset hx
      · exact hx.1
    · intro hx
      by_cases hp : x ∈ part
      · exact .inl hp
      · exact .inr ⟨hx, hp⟩
theorem rest_len {ch part : List Int} (hn : ch.Nodup) (h : part.Sublist ch) : part.length + (restOf ch part).length = ch.length := by
  rw [← List.length_append]
  exact (rest_perm hn h).length_eq
theorem apart_sz {rs : List Rule} : ∀ (k : Nat) (ch : List Int) (p : Plan), ch.Nodup → ch ≠ [] → apart rs k ch = .plan p → p.sz + 1 ≤ 2 * ch.length
  | 0, ch, p, _, _, h => by unfold apart at h; cases h
  | k + 1, ch, p, hn, hne, h => by
    unfold apart at h
    split at h
    · rename_i h1
      cases h
      rw [h1]
      exact Nat.le_refl _
    · cases hs : split rs ch with
      | none => rw [hs] at h; cases h
      | some wp =>
        obtain ⟨w, part⟩ := wp
        rw [hs] at h
        replace h : (apart rs k part).both w (apart rs k (restOf ch part)) = .plan p := h
        have so := split_ok hne hs
        have hl := rest_len hn so.sub
        cases ha : apart rs k part with
        | set s => rw [ha] at h; cases h
        | plan p1 =>
          cases hb : apart rs k (restOf ch part) with
          | set s => rw [ha, hb] at h; cases h
          | plan p2 =>
            rw [ha, hb] at h
            cases h
            have i1 := apart_sz k part p1 (so.sub.nodup hn) so.ne ha
            have i2 := apart_sz k _ p2 ((rest_sub ch part).nodup hn) (rest_ne hn so) hb
            have j1 := partsOf_sz w p1
            have j2 := partsOf_sz w p2
            unfold joinP Plan.sz
            rw [szL_append]
            omega
end Tb

set_option maxHeartbeats 1000000
/-! Plain facts: what taken apart makes, stuck sets, normal forms. -/
namespace Tb
open PySem
theorem tasksL_append : ∀ a b : List Plan, tasksL (a ++ b) = tasksL a ++ tasksL b
  | [], b => rfl
  | p :: a, b => by
    show p.tasks ++ tasksL (a ++ b) = (p.tasks ++ tasksL a) ++ tasksL b
    rw [tasksL_append a b, List.append_assoc]
theorem fullL_append : ∀ a b : List Plan, fullL (a ++ b) = (fullL a && fullL b)
  | [], b => rfl
  | p :: a, b => by
    show (p.full && fullL (a ++ b)) = ((p.full && fullL a) && fullL b)
    rw [fullL_append a b, Bool.and_assoc]
theorem partsOf_tasks (w : Bool) : ∀ p : Plan, tasksL (partsOf w p) = p.tasks
  | .task n => rfl
  | .node v ps => by
    rw [partsOf]
    split
    · rfl
    · exact List.append_nil _
theorem join_tasks (w : Bool) (p q : Plan) : (joinP w p q).tasks = p.tasks ++ q.tasks := by
  rw [← partsOf_tasks w p, ← partsOf_tasks w q, ← tasksL_append]; rfl
/-! ### form -/
mutual
def Plan.wf : Plan → Option Bool → Bool
  | .task _, _ => true
  | .node w ps, o => !decide (o = some w) && decide (2 ≤ ps.length) && wfL ps w
def wfL : List Plan → Bool → Bool
  | [], _ => true
  | p :: ps, w => p.wf (some w) && wfL ps w
end
theorem wfL_iff {w : Bool} : ∀ {ps : List Plan}, wfL ps w = true ↔ ∀ p ∈ ps, p.wf (some w) = true
  | [] => by unfold wfL; simp
  | p :: ps => by unfold wfL; rw [Bool.and_eq_true, wfL_iff]; simp
theorem wf_node {w : Bool} {ps : List Plan} {o : Option Bool} : (Plan.node w ps).wf o = true ↔ o ≠ some w ∧ 2 ≤ ps.length ∧ ∀ p ∈ ps, p.wf (some w) = true := by
  rw [Plan.wf, Bool.and_eq_true, Bool.and_eq_true, wfL_iff, Bool.not_eq_true', decide_eq_false_iff_not, decide_eq_true_eq, and_assoc]
theorem wf_none {p : Plan} {o : Option Bool} (h : p.wf o = true) : p.wf none = true := by
  cases p with
  | task n => rfl
  | node w ps =>
    rw [wf_node] at h ⊢
    exact ⟨(fun e => by cases e), h.2⟩
theorem partsOf_wf (w : Bool) {p : Plan} (h : p.wf none = true) : (∀ q ∈ partsOf w p, q.wf (some w) = true) ∧ 1 ≤ (partsOf w p).length := by
  cases p with
  | task n => exact ⟨fun q hq => by rw [partsOf, List.mem_singleton] at hq; subst hq; rfl, Nat.le_refl _⟩
  | node v ps =>
    rw [wf_node] at h
    rw [partsOf]
    split
    · rename_i e
      subst e
      exact ⟨h.2.2, by omega⟩
    · rename_i e
      refine ⟨fun q hq => ?_, Nat.le_refl _⟩
      rw [List.mem_singleton] at hq
      subst hq
      rw [wf_node]
      exact ⟨fun z => e (Option.some.inj z).symm, h.2⟩
theorem join_wf (w : Bool) {p q : Plan} (hp : p.wf none = true) (hq : q.wf none = true) : (joinP w p q).wf none = true := by
  obtain ⟨h1, h2⟩ := partsOf_wf w hp
  obtain ⟨h3, h4⟩ := partsOf_wf w hq
  rw [joinP, wf_node]
  refine ⟨(fun e => by cases e), (by rw [List.length_append]; omega), fun r hr => ?_⟩
  rcases List.mem_append.mp hr with hr | hr
  · exact h1 r hr
  · exact h3 r hr
mutual
theorem wf_full : ∀ (p : Plan) (o : Option Bool), p.wf o = true → p.full = true
  | .task n, _, _ => rfl
  | .node w ps, o, h => by
    rw [wf_node] at h
    rw [Plan.full, wfL_full ps w h.2.2, Bool.and_true]
    cases ps with
    | nil => exact absurd h.2.1 (by decide)
    | cons _ _ => rfl
theorem wfL_full : ∀ (ps : List Plan) (w : Bool), (∀ p ∈ ps, p.wf (some w) = true) → fullL ps = true
  | [], _, _ => rfl
  | p :: ps, w, h => by
    rw [fullL, wf_full p (some w) (h p (by simp)), wfL_full ps w fun q hq => h q (List.mem_cons_of_mem _ hq)]
    rfl
end
/-- well formed plans have the form that is asked for -/
theorem wf_form : ∀ (d : Nat) (p : Plan) (o : Option Bool), p.wf o = true → p.dep ≤ d → p.sz ≤ 8 → (∀ t ∈ p.tasks, 0 ≤ t ∧ t ≤ 6) → hasForm p o d = true
  | d, .task n, o, _, _, _, ht => by
    have := ht n (by rw [Plan.tasks]; simp)
    rw [hasForm, decide_eq_true this.1, decide_eq_true this.2]; rfl
  | 0, .node w ps, o, _, hd, _, _ => absurd hd (by rw [Plan.dep]; omega)
  | d + 1, .node w ps, o, h, hd, hz, ht => by
    rw [wf_node] at h
    rw [Plan.dep] at hd
    rw [Plan.sz] at hz
    have hl := len_szL ps
    rw [hasForm, hasFormL_eq, decide_eq_false h.1, decide_eq_true h.2.1, decide_eq_true (by omega : ps.length ≤ 7)]
    show (ps.all fun p => hasForm p (some w) d) = true
    rw [List.all_eq_true]
    intro q hq
    have h1 := dep_le hq
    have h2 := sz_mem hq
    refine wf_form d q (some w) (h.2.2 q hq) (by omega) (by omega) fun t htq => ht t ?_
    rw [Plan.tasks, tasksL_eq, List.mem_flatten]
    exact ⟨_, List.mem_map.mpr ⟨q, hq, rfl⟩, htq⟩
/-! ### relations -/
theorem mem_tasksL {t : Int} {ps : List Plan} : t ∈ tasksL ps ↔ ∃ p ∈ ps, t ∈ p.tasks := by
  rw [tasksL_eq, List.mem_flatten]
  constructor
  · rintro ⟨l, h1, h2⟩
    obtain ⟨p, hp, rfl⟩ := List.mem_map.mp h1
    exact ⟨p, hp, h2⟩
  · rintro ⟨p, hp, h⟩
    exact ⟨_, List.mem_map.mpr ⟨p, hp, rfl⟩, h⟩
mutual
theorem rel_opp (a b : Int) : ∀ p : Plan, p.rel b a = (p.rel a b).opp
  | .task n => rfl
  | .node w ps => by
    rw [Plan.rel, Plan.rel]
    by_cases h : idx a ps = idx b ps
    · rw [if_pos h.symm, if_pos h, ← h]
      exact relAt_opp a b ps _
    · rw [if_neg fun e => h e.symm, if_neg h]
      cases w with
      | false => rfl
      | true =>
        rw [if_pos rfl, if_pos rfl]
        by_cases h2 : idx a ps < idx b ps
        · rw [if_pos h2, if_neg (by omega)]; rfl
        · rw [if_neg h2, if_pos (by omega)]; rfl
theorem relAt_opp (a b : Int) : ∀ (ps : List Plan) (n : Nat), relAt ps n b a = (relAt ps n a b).opp
  | [], n => by rw [relAt, relAt]; rfl
  | p :: ps, 0 => by rw [relAt, relAt]; exact rel_opp a b p
  | p :: ps, n + 1 => by rw [relAt, relAt]; exact relAt_opp a b ps n
end
theorem alw_opp {rs : List Rule} {a b : Int} {z : R4} (hz : z ∈ R3) : z ∈ alw rs a b ↔ z.opp ∈ alw rs b a := by
  have hz' : z.opp ∈ R3 := by cases z <;> first | decide | exact absurd hz (by decide)
  rw [mem_alw hz, mem_alw hz']
  constructor
  · intro h r hr
    exact ⟨(h r hr).2, fun h1 h2 => by rw [opp_opp]; exact (h r hr).1 h1 h2⟩
  · intro h r hr
    exact ⟨fun h1 h2 => by have := (h r hr).2 h1 h2; rwa [opp_opp] at this, (h r hr).1⟩
theorem idx_left {t : Int} : ∀ {A B : List Plan}, t ∈ tasksL A → idx t (A ++ B) = idx t A
  | p :: A, B, h => by
    show idx t (p :: (A ++ B)) = _
    rw [idx, idx]
    by_cases hp : t ∈ p.tasks
    · rw [if_pos hp, if_pos hp]
    · rw [if_neg hp, if_neg hp]
      rw [tasksL, List.mem_append] at h
      rw [idx_left (h.resolve_left hp)]
theorem idx_right {t : Int} : ∀ {A B : List Plan}, t ∉ tasksL A → idx t (A ++ B) = A.length + idx t B
  | [], B, _ => (Nat.zero_add _).symm
  | p :: A, B, h => by
    rw [tasksL, List.mem_append] at h
    show idx t (p :: (A ++ B)) = _
    rw [idx, if_neg fun e => h (.inl e), idx_right fun e => h (.inr e), List.length_cons]
    omega
theorem relAt_left {a b : Int} : ∀ {A B : List Plan} {n : Nat}, n < A.length → relAt (A ++ B) n a b = relAt A n a b
  | p :: A, B, 0, _ => by
    show relAt (p :: (A ++ B)) 0 a b = _
    rw [relAt, relAt]
  | p :: A, B, n + 1, h => by
    show relAt (p :: (A ++ B)) (n + 1) a b = _
    rw [relAt, relAt]
    exact relAt_left (Nat.lt_of_succ_lt_succ h)
theorem relAt_right {a b : Int} : ∀ {A B : List Plan} {n : Nat}, relAt (A ++ B) (A.length + n) a b = relAt B n a b
  | [], B, n => by rw [List.nil_append, List.length_nil, Nat.zero_add]
  | p :: A, B, n => by
    show relAt (p :: (A ++ B)) _ a b = _
    rw [List.length_cons, show A.length + 1 + n = (A.length + n) + 1 by omega, relAt]
    exact relAt_right
theorem rel_left {w : Bool} {A B : List Plan} {a b : Int} (ha : a ∈ tasksL A) (hb : b ∈ tasksL A) : (Plan.node w (A ++ B)).rel a b = (Plan.node w A).rel a b := by
  rw [Plan.rel, Plan.rel, idx_left ha, idx_left hb, relAt_left (idx_lt ha)]
theorem rel_right {w : Bool} {A B : List Plan} {a b : Int} (ha : a ∉ tasksL A) (hb : b ∉ tasksL A) : (Plan.node w (A ++ B)).rel a b = (Plan.node w B).rel a b := by
  rw [Plan.rel, Plan.rel, idx_right ha, idx_right hb, relAt_right]
  by_cases h : idx a B = idx b B
  · rw [if_pos (by omega), if_pos h]
  · rw [if_neg (by omega), if_neg h]
    cases w with
    | false => rfl
    | true =>
      rw [if_pos rfl, if_pos rfl]
      by_cases h2 : idx a B < idx b B
      · rw [if_pos (by omega), if_pos h2]
      · rw [if_neg (by omega), if_neg h2]
theorem rel_across {w : Bool} {A B : List Plan} {a b : Int} (ha : a ∈ tasksL A) (hb : b ∉ tasksL A) : (Plan.node w (A ++ B)).rel a b = if w then .bf else .bs := by
  have h1 := idx_lt ha
  rw [Plan.rel, idx_left ha, idx_right hb, if_neg (by omega)]
  cases w with
  | false => rfl
  | true => rw [if_pos rfl, if_pos (by omega), if_pos rfl]
theorem rel_one {w : Bool} {a b : Int} {p : Plan} (ha : a ∈ p.tasks) (hb : b ∈ p.tasks) : (Plan.node w [p]).rel a b = p.rel a b := by
  have e1 : idx a [p] = 0 := by rw [idx, if_pos ha]
  have e2 : idx b [p] = 0 := by rw [idx, if_pos hb]
  rw [Plan.rel, e1, e2, if_pos rfl, relAt]
theorem rel_parts {w : Bool} {a b : Int} : ∀ {p : Plan}, a ∈ p.tasks → b ∈ p.tasks → (Plan.node w (partsOf w p)).rel a b = p.rel a b
  | .task n, ha, hb => rel_one ha hb
  | .node v ps, ha, hb => by
    rw [partsOf]
    by_cases e : v = w
    · rw [if_pos e, e]
    · rw [if_neg e]
      exact rel_one ha hb
/-! ### what taken apart makes -/
structure Made (rs : List Rule) (ch : List Int) (p : Plan) : Prop where
  tasks : p.tasks.Perm ch
  wf : p.wf none = true
  rel : ∀ a ∈ ch, ∀ b ∈ ch, a ≠ b → p.rel a b ∈ alw rs a b
theorem rset_closed {lead : Int → Int → Bool} {ch : List Int} {t a b : Int} (ha : a ∈ rset lead ch t) (hb : b ∈ ch) (hn : b ∉ rset lead ch t) : lead a b = false := by
  cases h : lead a b with
  | false => rfl
  | true => exact absurd (mem_rset.mpr ⟨hb, .step (mem_rset.mp ha).2 hb h⟩) hn
theorem apart_made {rs : List Rule} : ∀ (k : Nat) (ch : List Int) (p : Plan), ch.Nodup → ch ≠ [] → apart rs k ch = .plan p → Made rs ch p
  | 0, ch, p, _, _, h => by unfold apart at h; cases h
  | k + 1, ch, p, hn, hne, h => by
    unfold apart at h
    by_cases h1 : ch.length = 1
    · rw [if_pos h1] at h
      cases h
      match ch, h1 with
      | [x], _ =>
        refine ⟨List.Perm.refl _, rfl, fun a ha b hb hab => ?_⟩
        rw [List.mem_singleton] at ha hb
        exact absurd (ha.trans hb.symm) hab
    · rw [if_neg h1] at h
      cases hs : split rs ch with
      | none => rw [hs] at h; cases h
      | some wp =>
        obtain ⟨w, part⟩ := wp
        rw [hs] at h
        replace h : (apart rs k part).both w (apart rs k (restOf ch part)) = .plan p := h
        have so := split_ok hne hs
        obtain ⟨t, ht, ep, _⟩ := split_cases hne hs
        cases ha : apart rs k part with
        | set s => rw [ha] at h; cases h
        | plan p1 =>
          cases hb : apart rs k (restOf ch part) with
          | set s => rw [ha, hb] at h; cases h
          | plan p2 =>
            rw [ha, hb] at h
            cases h
            have m1 := apart_made k part p1 (so.sub.nodup hn) so.ne ha
            have m2 := apart_made k _ p2 ((rest_sub ch part).nodup hn) (rest_ne hn so) hb
            have hperm := rest_perm hn so.sub
            refine ⟨?_, join_wf w m1.wf m2.wf, fun a haC b hbC hab => ?_⟩
            · rw [join_tasks]
              exact (m1.tasks.append m2.tasks).trans hperm
            · have cross : ∀ x y : Int, x ∈ part → y ∈ restOf ch part → (if w then R4.bf else R4.bs) ∈ alw rs x y := by
                intro x y hx hy
                have hy2 := mem_rest.mp hy
                rw [ep] at hx
                have := rset_closed hx hy2.1 (by rw [← ep]; exact hy2.2)
                cases w with
                | true =>
                  have hb' : bar rs x y = false := this
                  unfold bar at hb'
                  rw [Bool.not_eq_false', decide_eq_true_eq] at hb'
                  exact hb'
                | false =>
                  have hb' : tie rs x y = false := this
                  unfold tie at hb'
                  rw [Bool.not_eq_false', decide_eq_true_eq] at hb'
                  exact hb'
              have inA : ∀ x, x ∈ part → x ∈ tasksL (partsOf w p1) := fun x hx => by rw [partsOf_tasks]; exact m1.tasks.mem_iff.mpr hx
              have outA : ∀ x, x ∈ restOf ch part → x ∉ tasksL (partsOf w p1) := fun x hx q => by
                rw [partsOf_tasks] at q
                exact (mem_rest.mp hx).2 (m1.tasks.mem_iff.mp q)
              have where_ : ∀ x ∈ ch, x ∈ part ∨ x ∈ restOf ch part := fun x hx => List.mem_append.mp (hperm.mem_iff.mpr hx)
              have hw3 : (if w then R4.bf else R4.bs) ∈ R3 := by cases w <;> decide
              unfold joinP
              rcases where_ a haC with ha1 | ha1
              · rcases where_ b hbC with hb1 | hb1
                · rw [rel_left (inA a ha1) (inA b hb1), rel_parts (m1.tasks.mem_iff.mpr ha1) (m1.tasks.mem_iff.mpr hb1)]
                  exact m1.rel a ha1 b hb1 hab
                · rw [rel_across (inA a ha1) (outA b hb1)]
                  exact cross a b ha1 hb1
              · rcases where_ b hbC with hb1 | hb1
                · rw [rel_opp b a, rel_across (inA b hb1) (outA a ha1)]
                  exact (alw_opp hw3).mp (cross b a hb1 ha1)
                · rw [rel_right (outA a ha1) (outA b hb1), rel_parts (m2.tasks.mem_iff.mpr ha1) (m2.tasks.mem_iff.mpr hb1)]
                  exact m2.rel a ha1 b hb1 hab
theorem made_keeps {rs : List Rule} {ch : List Int} {p : Plan} {n : Nat} (m : Made rs ch p) (hc : ∀ r ∈ rs, r.ok n) (hch : ∀ x : Int, 0 ≤ x → x < n → x ∈ ch) : keeps rs p = true := by
  unfold keeps
  rw [List.all_eq_true]
  intro r hr
  have o := hc r hr
  have hm := m.rel r.a (hch _ o.a0 o.an) r.b (hch _ o.b0 o.bn) o.ne
  have hz : p.rel r.a r.b ∈ R3 := foldl_sub (rs := rs) hm
  rw [decide_eq_true_eq]
  exact ((mem_alw hz).mp hm r hr).1 rfl rfl
/-- .. or a stuck set -/
structure Stuck (rs : List Rule) (s : List Int) : Prop where
  two : 2 ≤ s.length
  none : split rs s = none
theorem apart_set {rs : List Rule} : ∀ (k : Nat) (ch s : List Int), ch.Nodup → ch ≠ [] → ch.length ≤ k → apart rs k ch = .set s → s.Sublist ch ∧ Stuck rs s
  | 0, ch, s, _, hne, hk, _ => absurd (List.length_eq_zero_iff.mp (Nat.le_zero.mp hk)) hne
  | k + 1, ch, s, hn, hne, hk, h => by
    unfold apart at h
    by_cases h1 : ch.length = 1
    · rw [if_pos h1] at h; cases h
    · rw [if_neg h1] at h
      have hl := List.length_pos_iff.mpr hne
      cases hs : split rs ch with
      | none =>
        rw [hs] at h
        cases h
        exact ⟨List.Sublist.refl _, by omega, hs⟩
      | some wp =>
        obtain ⟨w, part⟩ := wp
        rw [hs] at h
        replace h : (apart rs k part).both w (apart rs k (restOf ch part)) = .set s := h
        have so := split_ok hne hs
        have hlt := so.lt
        have hrl := rest_len hn so.sub
        have hpl := List.length_pos_iff.mpr so.ne
        cases ha : apart rs k part with
        | set s1 =>
          rw [ha] at h
          cases h
          obtain ⟨a1, a2⟩ := apart_set k part s (so.sub.nodup hn) so.ne (by omega) ha
          exact ⟨a1.trans so.sub, a2⟩
        | plan p1 =>
          cases hb : apart rs k (restOf ch part) with
          | plan p2 => rw [ha, hb] at h; cases h
          | set s1 =>
            rw [ha, hb] at h
            cases h
            obtain ⟨a1, a2⟩ := apart_set k _ s ((rest_sub ch part).nodup hn) (rest_ne hn so) (by omega) hb
            exact ⟨a1.trans (rest_sub ch part), a2⟩
theorem rset_all {lead : Int → Int → Bool} {ch : List Int} {t : Int} (h : ¬ (rset lead ch t).length < ch.length) : ∀ x ∈ ch, Rch lead ch t x := by
  have e : rset lead ch t = ch := List.filter_sublist.eq_of_length_le (Nat.le_of_not_lt h)
  intro x hx
  rw [← e] at hx
  exact (mem_rset.mp hx).2
theorem stuck_tie {rs : List Rule} {s : List Int} (h : split rs s = none) : ∀ x ∈ s, Rch (tie rs) s (s.headD 0) x := by
  unfold split at h
  split at h
  · cases h
  · rename_i hl
    exact rset_all hl
theorem stuck_bar {rs : List Rule} {s : List Int} (h : split rs s = none) : ∀ t ∈ s, ∀ x ∈ s, Rch (bar rs) s t x := by
  unfold split at h
  split at h
  · cases h
  · have hb : barCut rs s s = none := by
      cases q : barCut rs s s with
      | none => rfl
      | some p => rw [q] at h; cases h
    exact fun t ht => rset_all (barCut_none hb t ht)
/-- no plan on the tasks of a stuck set keeps what is allowed -/
theorem no_plan {rs : List Rule} {s : List Int} (hs : Stuck rs s) (hn : s.Nodup) : ∀ (d : Nat) (p : Plan), p.dep ≤ d → (∀ x ∈ s, x ∈ p.tasks) → (∀ a ∈ s, ∀ b ∈ s, a ≠ b → p.rel a b ∈ alw rs a b) → False
  | d, .task m, _, hin, _ => by
    have h2 := hs.two
    match s, h2, hn, hin with
    | a :: b :: l, _, hn, hin =>
      have ha := hin a (by simp)
      have hb := hin b (by simp)
      rw [Plan.tasks, List.mem_singleton] at ha hb
      rw [List.nodup_cons] at hn
      exact hn.1 (by rw [ha, ← hb]; simp)
  | 0, .node w ps, hd, _, _ => absurd hd (by rw [Plan.dep]; omega)
  | d + 1, .node w ps, hd, hin, hal => by
    rw [Plan.dep] at hd
    have hne : s ≠ [] := fun e => by have := hs.two; rw [e] at this; cases this
    have hin' : ∀ x ∈ s, x ∈ tasksL ps := fun x hx => hin x hx
    by_cases hall : ∀ x ∈ s, idx x ps = idx (s.headD 0) ps
    · have hc0 : s.headD 0 ∈ s := by
        cases s with
        | nil => exact absurd rfl hne
        | cons a l => simp
      obtain ⟨q, hq, _⟩ := idx_at (hin' _ hc0)
      have hm := List.mem_of_getElem? hq
      have hdq := dep_le hm
      refine no_plan hs hn d q (by omega) (fun x hx => ?_) fun a ha b hb hab => ?_
      · obtain ⟨q', hq', hx'⟩ := idx_at (hin' x hx)
        rw [hall x hx, hq] at hq'
        cases hq'
        exact hx'
      · have := hal a ha b hb hab
        rw [Plan.rel, hall a ha, hall b hb, if_pos rfl, relAt_eq a b ps _ q hq] at this
        exact this
    · have hex : ∃ x ∈ s, idx x ps ≠ idx (s.headD 0) ps := Classical.byContradiction fun q => hall fun x hx => Classical.byContradiction fun z => q ⟨x, hx, z⟩
      cases w with
      | false =>
        obtain ⟨x, hx, hne2⟩ := hex
        have stay : ∀ y, Rch (tie rs) s (s.headD 0) y → y ∈ s → idx y ps = idx (s.headD 0) ps := by
          intro y hy
          induction hy with
          | refl => exact fun _ => rfl
          | @step a b hra hb hl ih =>
            intro _
            have ha : a ∈ s := by
              cases hra with
              | refl =>
                cases s with
                | nil => exact absurd rfl hne
                | cons c l => simp
              | step _ h _ => exact h
            have ia := ih ha
            refine Classical.byContradiction fun hd2 => ?_
            have hab : a ≠ b := fun e => hd2 (by rw [← e]; exact ia)
            have := hal a ha b hb hab
            rw [Plan.rel, if_neg (by rw [ia]; exact fun e => hd2 e.symm), if_neg Bool.false_ne_true] at this
            unfold tie at hl
            rw [Bool.not_eq_true', decide_eq_false_iff_not] at hl
            exact hl this
        exact hne2 (stay x (stuck_tie hs.none x hx) hx)
      | true =>
        obtain ⟨t, ht, hmin⟩ : ∃ t ∈ s, ∀ x ∈ s, idx t ps ≤ idx x ps := by
          clear hex hall hal hin hin' hn hs
          induction s with
          | nil => exact absurd rfl hne
          | cons a l ih =>
            by_cases hl : l = []
            · subst hl
              exact ⟨a, by simp, fun x hx => by rw [List.mem_singleton] at hx; rw [hx]; exact Nat.le_refl _⟩
            · obtain ⟨t, ht, hm⟩ := ih hl
              by_cases hlt : idx a ps ≤ idx t ps
              · refine ⟨a, by simp, fun x hx => ?_⟩
                rcases List.mem_cons.mp hx with e | hx
                · rw [e]; exact Nat.le_refl _
                · exact Nat.le_trans hlt (hm x hx)
              · refine ⟨t, List.mem_cons_of_mem _ ht, fun x hx => ?_⟩
                rcases List.mem_cons.mp hx with e | hx
                · rw [e]; omega
                · exact hm x hx
        have stay : ∀ y, Rch (bar rs) s t y → y ∈ s ∧ idx y ps = idx t ps := by
          intro y hy
          induction hy with
          | refl => exact ⟨ht, rfl⟩
          | @step a b hra hb hl ih =>
            obtain ⟨ha, ia⟩ := ih
            refine ⟨hb, Classical.byContradiction fun hd2 => ?_⟩
            have hab : a ≠ b := fun e => hd2 (by rw [← e]; exact ia)
            have hlt : idx a ps < idx b ps := by
              have := hmin b hb
              omega
            have := hal a ha b hb hab
            rw [Plan.rel, if_neg (by omega), if_pos rfl, if_pos hlt] at this
            unfold bar at hl
            rw [Bool.not_eq_true', decide_eq_false_iff_not] at hl
            exact hl this
        have alls : ∀ x ∈ s, idx x ps = idx t ps := fun x hx => (stay x (stuck_bar hs.none t ht x hx)).2
        obtain ⟨x, hx, hne2⟩ := hex
        have hc0 : s.headD 0 ∈ s := by
          cases s with
          | nil => exact absurd rfl hne
          | cons a l => simp
        exact hne2 ((alls x hx).trans (alls _ hc0).symm)
/-- a plan that keeps the rules has allowed relations -/
theorem keeps_alw {rs : List Rule} {p : Plan} (h : keeps rs p = true) {a b : Int} (h3 : p.rel a b ∈ R3) : p.rel a b ∈ alw rs a b := by
  unfold keeps at h
  rw [List.all_eq_true] at h
  rw [mem_alw h3]
  intro r hr
  have := h r hr
  rw [decide_eq_true_eq] at this
  refine ⟨fun e1 e2 => ?_, fun e1 e2 => ?_⟩
  · rw [e1, e2] at this; exact this
  · rw [e1, e2, rel_opp a b] at this; exact this
theorem rel_R3 {a b : Int} (hab : a ≠ b) {p : Plan} (ha : a ∈ p.tasks) (hb : b ∈ p.tasks) : p.rel a b ∈ R3 := by
  obtain ⟨w, ps, _, _, _, _, _, _, e⟩ := (joint_ok hab p.dep p (Nat.le_refl _) ha hb).ex
  rw [e]
  cases w with
  | false => exact (by decide : R4.bs ∈ R3)
  | true =>
    rw [if_pos rfl]
    split <;> decide
theorem stuck_none {rs : List Rule} {s : List Int} (hs : Stuck rs s) (hn : s.Nodup) {p : Plan} (hin : ∀ x ∈ s, x ∈ p.tasks) (hk : keeps rs p = true) : False :=
  no_plan hs hn p.dep p (Nat.le_refl _) hin fun a ha b hb hab => keeps_alw hk (rel_R3 hab (hin a ha) (hin b hb))
end Tb

set_option maxHeartbeats 1000000
/-! Plain facts: normal forms; the answer. -/
namespace Tb
open PySem
theorem norm_mem {p : Plan} {t : Int} : t ∈ p.norm.tasks ↔ t ∈ p.tasks := (norm_tasks p).mem_iff
theorem norm_length (w : Bool) (ps : List Plan) : ∃ qs : List Plan, (Plan.node w ps).norm = .node w qs ∧ qs.Perm (normL ps) ∧ qs.length = ps.length ∧ (w = true → qs = normL ps) ∧ (w = false → qs.Pairwise fun x y => leastT x ≤ leastT y) := by
  have hl : (normL ps).length = ps.length := by rw [normL_eq, List.length_map]
  cases w with
  | true => exact ⟨normL ps, by rw [Plan.norm], List.Perm.refl _, hl, fun _ => rfl, fun e => by cases e⟩
  | false => exact ⟨srtP (normL ps), by rw [Plan.norm], srtP_perm _, (srtP_perm _).length_eq.trans hl, (fun e => by cases e), fun _ => srtP_pw _⟩
theorem mem_normL {q : Plan} {ps : List Plan} : q ∈ normL ps ↔ ∃ p ∈ ps, q = p.norm := by
  rw [normL_eq, List.mem_map]
  constructor
  · rintro ⟨p, h1, h2⟩; exact ⟨p, h1, h2.symm⟩
  · rintro ⟨p, h1, h2⟩; exact ⟨p, h1, h2.symm⟩
theorem norm_wf : ∀ (d : Nat) (p : Plan) (o : Option Bool), p.dep ≤ d → p.wf o = true → p.norm.wf o = true
  | d, .task n, o, _, _ => by rw [Plan.norm]; rfl
  | 0, .node w ps, o, hd, _ => absurd hd (by rw [Plan.dep]; omega)
  | d + 1, .node w ps, o, hd, h => by
    rw [Plan.dep] at hd
    rw [wf_node] at h
    obtain ⟨qs, e, hp, hl, _, _⟩ := norm_length w ps
    rw [e, wf_node]
    refine ⟨h.1, by omega, fun q hq => ?_⟩
    obtain ⟨p, hpm, rfl⟩ := mem_normL.mp (hp.mem_iff.mp hq)
    have := dep_le hpm
    exact norm_wf d p (some w) (by omega) (h.2.2 p hpm)
theorem idx_of {t : Int} : ∀ {ps : List Plan} {i : Nat} {q : Plan}, (tasksL ps).Nodup → ps[i]? = some q → t ∈ q.tasks → idx t ps = i
  | p :: ps, 0, q, _, h, ht => by
    simp at h
    subst h
    rw [idx, if_pos ht]
  | p :: ps, i + 1, q, hn, h, ht => by
    rw [tasksL, List.nodup_append] at hn
    have h' : ps[i]? = some q := by simpa using h
    have hq : t ∈ tasksL ps := mem_tasksL.mpr ⟨q, List.mem_of_getElem? h', ht⟩
    rw [idx, if_neg fun e => hn.2.2 t e t hq rfl, idx_of hn.2.1 h' ht]
theorem rel_in {w : Bool} {ps : List Plan} {q : Plan} {a b : Int} (hn : (tasksL ps).Nodup) (hq : q ∈ ps) (ha : a ∈ q.tasks) (hb : b ∈ q.tasks) : (Plan.node w ps).rel a b = q.rel a b := by
  obtain ⟨i, hi, e⟩ := List.getElem_of_mem hq
  have e' : ps[i]? = some q := by rw [List.getElem?_eq_getElem hi, e]
  rw [Plan.rel, idx_of hn e' ha, idx_of hn e' hb, if_pos rfl, relAt_eq a b ps i q e']
theorem rel_out {ps : List Plan} {a b : Int} (ha : a ∈ tasksL ps) (hb : b ∈ tasksL ps) (h : ¬ ∃ q ∈ ps, a ∈ q.tasks ∧ b ∈ q.tasks) : (Plan.node false ps).rel a b = .bs := by
  have hne : idx a ps ≠ idx b ps := fun e => by
    obtain ⟨q, hq, h1⟩ := idx_at ha
    obtain ⟨q', hq', h2⟩ := idx_at hb
    rw [← e, hq] at hq'
    cases hq'
    exact h ⟨q, List.mem_of_getElem? hq, h1, h2⟩
  rw [Plan.rel, if_neg hne, if_neg Bool.false_ne_true]
theorem idx_norm (t : Int) : ∀ ps : List Plan, idx t (normL ps) = idx t ps
  | [] => rfl
  | p :: ps => by
    rw [normL, idx, idx, idx_norm t ps]
    by_cases h : t ∈ p.tasks
    · rw [if_pos h, if_pos (norm_mem.mpr h)]
    · rw [if_neg h, if_neg fun e => h (norm_mem.mp e)]
theorem norm_rel {a b : Int} : ∀ (d : Nat) (p : Plan), p.dep ≤ d → p.tasks.Nodup → a ∈ p.tasks → b ∈ p.tasks → p.norm.rel a b = p.rel a b
  | d, .task n, _, _, _, _ => by rw [Plan.norm]
  | 0, .node w ps, hd, _, _, _ => absurd hd (by rw [Plan.dep]; omega)
  | d + 1, .node w ps, hd, hn, ha, hb => by
    rw [Plan.dep] at hd
    rw [Plan.tasks] at hn ha hb
    have hnN : (tasksL (normL ps)).Nodup := (normL_tasks ps).nodup_iff.mpr hn
    obtain ⟨qs, e, hp, hl, ht, hf⟩ := norm_length w ps
    have hnQ : (tasksL qs).Nodup := (tasksL_perm hp).nodup_iff.mpr hnN
    rw [e]
    by_cases hc : ∃ q ∈ ps, a ∈ q.tasks ∧ b ∈ q.tasks
    · obtain ⟨q, hq, h1, h2⟩ := hc
      have hqn : q.norm ∈ qs := hp.mem_iff.mpr (mem_normL.mpr ⟨q, hq, rfl⟩)
      have := dep_le hq
      rw [rel_in hnQ hqn (norm_mem.mpr h1) (norm_mem.mpr h2), rel_in hn hq h1 h2]
      exact norm_rel d q (by omega) (nodup_part hn hq) h1 h2
    · cases w with
      | false =>
        rw [rel_out ha hb hc]
        refine rel_out ?_ ?_ ?_
        · exact (tasksL_perm hp).mem_iff.mpr ((normL_tasks ps).mem_iff.mpr ha)
        · exact (tasksL_perm hp).mem_iff.mpr ((normL_tasks ps).mem_iff.mpr hb)
        · rintro ⟨q, hq, h1, h2⟩
          obtain ⟨p, hpm, rfl⟩ := mem_normL.mp (hp.mem_iff.mp hq)
          exact hc ⟨p, hpm, norm_mem.mp h1, norm_mem.mp h2⟩
      | true =>
        have hne : idx a ps ≠ idx b ps := fun e => by
          obtain ⟨q, hq, h1⟩ := idx_at ha
          obtain ⟨q', hq', h2⟩ := idx_at hb
          rw [← e, hq] at hq'
          cases hq'
          exact hc ⟨q, List.mem_of_getElem? hq, h1, h2⟩
        rw [ht rfl, Plan.rel, Plan.rel, idx_norm, idx_norm, if_neg hne, if_neg hne]
/-! normal plans -/
mutual
def Plan.nrm : Plan → Prop
  | .task _ => True
  | .node w ps => (w = false → ps.Pairwise fun x y => leastT x ≤ leastT y) ∧ nrmL ps
def nrmL : List Plan → Prop
  | [] => True
  | p :: ps => p.nrm ∧ nrmL ps
end
theorem nrmL_iff : ∀ {ps : List Plan}, nrmL ps ↔ ∀ p ∈ ps, p.nrm
  | [] => by rw [nrmL]; simp
  | p :: ps => by rw [nrmL, nrmL_iff]; simp
theorem norm_nrm : ∀ (d : Nat) (p : Plan), p.dep ≤ d → p.norm.nrm
  | d, .task n, _ => by rw [Plan.norm, Plan.nrm]; trivial
  | 0, .node w ps, hd => absurd hd (by rw [Plan.dep]; omega)
  | d + 1, .node w ps, hd => by
    rw [Plan.dep] at hd
    obtain ⟨qs, e, hp, _, _, hf⟩ := norm_length w ps
    rw [e, Plan.nrm, nrmL_iff]
    refine ⟨hf, fun q hq => ?_⟩
    obtain ⟨p, hpm, rfl⟩ := mem_normL.mp (hp.mem_iff.mp hq)
    have := dep_le hpm
    exact norm_nrm d p (by omega)
/-! ### the answer -/
def upto (n : Nat) : List Int := (List.range n).map fun (i : Nat) => (i : Int)
theorem upto_len (n : Nat) : (upto n).length = n := by unfold upto; rw [List.length_map, List.length_range]
theorem mem_upto {n : Nat} {x : Int} : x ∈ upto n ↔ 0 ≤ x ∧ x < (n : Int) := by
  unfold upto
  rw [List.mem_map]
  constructor
  · rintro ⟨i, hi, rfl⟩
    rw [List.mem_range] at hi
    omega
  · rintro ⟨h1, h2⟩
    exact ⟨x.toNat, List.mem_range.mpr (by omega), by omega⟩
theorem upto_asc (n : Nat) : (upto n).Pairwise (· < ·) := by
  unfold upto
  rw [List.pairwise_map]
  exact List.pairwise_lt_range.imp fun h => by omega
def Ans.norm : Ans → Ans
  | .plan p => .plan p.norm
  | .set s => .set s
noncomputable def ans (n : Nat) (rs : List Rule) : Ans := (apart rs 4 (upto n)).norm
def Good (n : Nat) (rs : List Rule) : Ans → Prop
  | .plan p => p.sz ≤ 8 ∧ p.tasks.Perm (upto n) ∧ p.wf none = true ∧ p.nrm ∧ keeps rs p = true
  | .set s => s.Sublist (upto n) ∧ Stuck rs s
theorem ans_good {n : Nat} {rs : List Rule} (h1 : 1 ≤ n) (h4 : n ≤ 4) (ok : ∀ r ∈ rs, r.ok n) : Good n rs (ans n rs) := by
  have hn := asc_nodup (upto_asc n)
  have hne : upto n ≠ [] := fun e => by have := upto_len n; rw [e] at this; simp at this; omega
  unfold ans
  cases ha : apart rs 4 (upto n) with
  | set s => exact apart_set 4 (upto n) s hn hne (by rw [upto_len]; exact h4) ha
  | plan p =>
    have m := apart_made 4 (upto n) p hn hne ha
    have hz := apart_sz 4 (upto n) p hn hne ha
    rw [upto_len] at hz
    have hnt := m.tasks.nodup_iff.mpr hn
    refine ⟨by rw [norm_sz]; omega, (norm_tasks p).trans m.tasks, norm_wf p.dep p none (Nat.le_refl _) m.wf, norm_nrm p.dep p (Nat.le_refl _), ?_⟩
    have hk := made_keeps m ok fun x h1 h2 => mem_upto.mpr ⟨h1, h2⟩
    unfold keeps at hk ⊢
    rw [List.all_eq_true] at hk ⊢
    intro r hr
    have o := ok r hr
    rw [norm_rel p.dep p (Nat.le_refl _) hnt (m.tasks.mem_iff.mpr (mem_upto.mpr ⟨o.a0, o.an⟩)) (m.tasks.mem_iff.mpr (mem_upto.mpr ⟨o.b0, o.bn⟩))]
    exact hk r hr
theorem srt_uniq {a b : List Int} (h : a.Perm b) (hb : b.Pairwise (· ≤ ·)) : srt a = b :=
  List.Perm.eq_of_pairwise (le := (· ≤ ·)) (fun a b _ _ h1 h2 => Int.le_antisymm h1 h2) (srt_pw a) hb ((srt_perm a).trans h)
/-- a plan is less deep than it has tasks -/
theorem depth_tasks : ∀ (d : Nat) (p : Plan) (o : Option Bool), p.dep ≤ d → p.wf o = true → p.dep + 1 ≤ p.tasks.length
  | d, .task n, o, _, _ => Nat.le_refl _
  | 0, .node w ps, o, hd, _ => absurd hd (by rw [Plan.dep]; omega)
  | d + 1, .node w ps, o, hd, h => by
    rw [Plan.dep] at hd ⊢
    rw [wf_node] at h
    rw [Plan.tasks]
    have key : ∀ qs : List Plan, (∀ q ∈ qs, q.dep ≤ d ∧ q.wf (some w) = true) → qs.length ≤ (tasksL qs).length ∧ (qs ≠ [] → depL qs + qs.length ≤ (tasksL qs).length) := by
      intro qs
      induction qs with
      | nil => intro _; exact ⟨Nat.zero_le _, fun e => absurd rfl e⟩
      | cons q qs ih =>
        intro hq
        obtain ⟨i1, i2⟩ := ih fun x hx => hq x (List.mem_cons_of_mem _ hx)
        obtain ⟨q1, q2⟩ := hq q (by simp)
        have hdq := depth_tasks d q (some w) q1 q2
        rw [tasksL, List.length_append, List.length_cons, depL]
        refine ⟨by omega, fun _ => ?_⟩
        by_cases e : qs = []
        · subst e
          have e0 : depL [] = 0 := rfl
          have e1 : (tasksL []).length = 0 := rfl
          rw [e0, e1, List.length_nil]
          omega
        · have := i2 e
          omega
    have hne : ps ≠ [] := fun e => by rw [e] at h; exact absurd h.2.1 (by decide)
    have := (key ps fun q hq => ⟨by have := dep_le hq; omega, h.2.2 q hq⟩).2 hne
    omega
theorem tasks_deep {p : Plan} {o : Option Bool} (h : p.wf o = true) : p.dep + 1 ≤ p.tasks.length := depth_tasks p.dep p o (Nat.le_refl _) h
end Tb

set_option maxHeartbeats 1000000
/-! The law's plans, listed: mirrors; all of them are plans; all normal plans are among them. -/
namespace Tb
open PySem
def blkStep (f : List (List Int)) (t : Int) : List (List Int) := f ++ f.map fun b => b ++ [t]
def blocksAll (ts : List Int) : List (List Int) := ts.foldl blkStep [[]]
def blkIn (ts : List Int) (w : Bool) (b : List Int) : Bool := if w then !b.isEmpty else decide (ts.headD 0 ∈ b)
def blocksM (ts : List Int) (w : Bool) : List (List Int) := (blocksAll ts).filter (blkIn ts w)
/-- one block's rows: hs its heads, rws the rows of the rest -/
def rowStep (hs : List Plan) (rws : List (List Plan)) (rest : List Int) (whole : Bool) (f : List (List Plan)) : List (List Plan) :=
  if rest.isEmpty then (if whole then f ++ hs.map (fun h => [h]) else f) else hs.foldl (fun f h => f ++ rws.map (fun r => h :: r)) f
mutual
def rowsM : Nat → List Int → Bool → Bool → List (List Plan)
  | 0, _, _, _ => []
  | k + 1, ts, w, whole => (blocksM ts w).foldl (fun f b => rowStep (headsM k b w) (rowsM k (restOf ts b) w true) (restOf ts b) whole f) []
def headsM : Nat → List Int → Bool → List Plan
  | 0, _, _ => []
  | k + 1, b, w => if b.length = 1 then [.task (b.headD 0)] else (rowsM k b (!w) false).map fun r => .node (!w) r
end
def plansM (n : Nat) : List Plan := if n = 1 then [.task 0] else headsM 10 (upto n) false ++ headsM 10 (upto n) true
def subs4 : List (List Int) := blocksAll [0, 1, 2, 3]
/-! ### small facts, counted -/
theorem subs_blocks : ∀ ts ∈ subs4, ∀ w : Bool, ∀ b ∈ blocksM ts w, b ∈ subs4 ∧ restOf ts b ∈ subs4 ∧ 1 ≤ b.length ∧ b.length + (restOf ts b).length = ts.length := by decide +kernel
theorem subs_len : ∀ ts ∈ subs4, ts.length ≤ 4 := by decide +kernel
theorem upto_subs : ∀ n : Nat, n < 5 → upto n ∈ subs4 := by decide +kernel
theorem rows_small : ∀ k : Nat, k < 13 → ∀ ts ∈ subs4, ∀ w whole : Bool, (rowsM k ts w whole).length ≤ 500 ∧ ∀ r ∈ rowsM k ts w whole, r.length ≤ 4 := by decide +kernel
theorem heads_small : ∀ k : Nat, k < 13 → ∀ ts ∈ subs4, ∀ w : Bool, (headsM k ts w).length ≤ 500 := by decide +kernel
theorem plans_sound : ∀ n : Nat, n < 5 → ∀ p ∈ plansM n, srt p.tasks = upto n ∧ p.sz ≤ 8 := by decide +kernel
theorem plans_small : ∀ n : Nat, n < 5 → (plansM n).length ≤ 1000 := by decide +kernel
end Tb

set_option maxHeartbeats 1000000
/-! All normal plans are among the law's. -/
namespace Tb
open PySem
theorem blk_mem {b : List Int} : ∀ {ts : List Int} {acc : List (List Int)} {x : List Int}, x ∈ acc → b.Sublist ts → x ++ b ∈ ts.foldl blkStep acc
  | [], acc, x, hx, hb => by
    have : b = [] := List.sublist_nil.mp hb
    subst this
    rw [List.append_nil]
    exact hx
  | t :: ts, acc, x, hx, hb => by
    rw [List.foldl_cons]
    cases hb with
    | cons _ h => exact blk_mem (List.mem_append_left _ hx) h
    | cons_cons _ h =>
      rename_i b'
      have := blk_mem (b := b') (acc := blkStep acc t) (x := x ++ [t]) (List.mem_append_right _ (List.mem_map.mpr ⟨x, hx, rfl⟩)) h
      rwa [List.append_assoc] at this
theorem sub_blocks {b ts : List Int} (h : b.Sublist ts) : b ∈ blocksAll ts := blk_mem (x := []) (by simp) h
theorem foldl_keep {α β : Type} {f : List β → α → List β} (hf : ∀ acc a x, x ∈ acc → x ∈ f acc a) {x : β} : ∀ {l : List α} {acc : List β}, x ∈ acc → x ∈ l.foldl f acc
  | [], _, h => h
  | a :: l, acc, h => foldl_keep (l := l) (acc := f acc a) hf (hf acc a x h)
theorem foldl_put {α β : Type} {f : List β → α → List β} (hf : ∀ acc a x, x ∈ acc → x ∈ f acc a) {x : β} {a : α} (ha : ∀ acc, x ∈ f acc a) : ∀ {l : List α} {acc : List β}, a ∈ l → x ∈ l.foldl f acc
  | b :: l, acc, h => by
    rcases List.mem_cons.mp h with e | h
    · subst e
      exact foldl_keep (l := l) (acc := f acc a) hf (ha acc)
    · exact foldl_put (l := l) (acc := f acc b) hf ha h
theorem rowStep_keep {hs : List Plan} {rws : List (List Plan)} {rest : List Int} {whole : Bool} {f : List (List Plan)} {x : List Plan} (h : x ∈ f) : x ∈ rowStep hs rws rest whole f := by
  unfold rowStep
  split
  · split
    · exact List.mem_append_left _ h
    · exact h
  · exact foldl_keep (fun acc a x hx => List.mem_append_left _ hx) h
theorem least_tasks {ps : List Plan} {q : Plan} {t : Int} (hf : fullL ps = true) (hq : q ∈ ps) (hm : ∀ p ∈ ps, leastT q ≤ leastT p) (ht : t ∈ tasksL ps) : leastT q ≤ t := by
  obtain ⟨p, hp, h⟩ := mem_tasksL.mp ht
  exact Int.le_trans (hm p hp) ((least_ok (full_tasks p (fullL_iff.mp hf p hp))).2 t h)
theorem wf_tasks {p : Plan} {o : Option Bool} (h : p.wf o = true) : p.tasks ≠ [] := full_tasks p (wf_full p o h)
theorem rest_nil {ts b : List Int} (h : ∀ x ∈ ts, x ∈ b) : restOf ts b = [] := List.eq_nil_iff_forall_not_mem.mpr fun x hx => (mem_rest.mp hx).2 (h x (mem_rest.mp hx).1)
theorem len_tasks {ps : List Plan} (h : ∀ p ∈ ps, p.tasks ≠ []) : ps.length ≤ (tasksL ps).length := by
  induction ps with
  | nil => exact Nat.zero_le _
  | cons p ps ih =>
    have := ih fun q hq => h q (List.mem_cons_of_mem _ hq)
    have := List.length_pos_iff.mpr (h p (by simp))
    rw [tasksL, List.length_append, List.length_cons]
    omega
/-- rows: what is wanted of a row -/
structure RowOk (ts : List Int) (v whole : Bool) (ps : List Plan) : Prop where
  asc : ts.Pairwise (· < ·)
  perm : (tasksL ps).Perm ts
  wf : ∀ p ∈ ps, p.wf (some v) = true
  nrm : ∀ p ∈ ps, p.nrm
  ord : v = false → ps.Pairwise fun x y => leastT x ≤ leastT y
  ne : ps ≠ []
  two : whole = false → 2 ≤ ps.length
structure HeadOk (b : List Int) (w : Bool) (q : Plan) : Prop where
  asc : b.Pairwise (· < ·)
  perm : q.tasks.Perm b
  wf : q.wf (some w) = true
  nrm : q.nrm
theorem complete : ∀ k : Nat, (∀ ts v whole ps, RowOk ts v whole ps → 3 * ts.length ≤ k + (if whole then 1 else 3) → ps ∈ rowsM k ts v whole) ∧ ∀ b w q, HeadOk b w q → 3 * b.length ≤ k + 2 → q ∈ headsM k b w
  | 0 => by
    refine ⟨fun ts v whole ps h hk => ?_, fun b w q h hk => ?_⟩
    · have h1 := len_tasks fun p hp => wf_tasks (h.wf p hp)
      rw [h.perm.length_eq] at h1
      have h2 := List.length_pos_iff.mpr h.ne
      cases whole with
      | true => rw [if_pos rfl] at hk; omega
      | false =>
        have := h.two rfl
        rw [if_neg Bool.false_ne_true] at hk
        omega
    · have := List.length_pos_iff.mpr (wf_tasks h.wf)
      rw [h.perm.length_eq] at this
      omega
  | k + 1 => by
    obtain ⟨ihR, ihH⟩ := complete k
    refine ⟨fun ts v whole ps h hk => ?_, fun b w q h hk => ?_⟩
    · match ps, h with
      | [], h => exact absurd rfl h.ne
      | q :: ps, h =>
        have hwq := h.wf q (by simp)
        have hq1 := wf_tasks hwq
        have hsub : ∀ x ∈ q.tasks, x ∈ ts := fun x hx => h.perm.mem_iff.mp (by rw [tasksL, List.mem_append]; exact .inl hx)
        have hnd := asc_nodup h.asc
        have hndT : (tasksL (q :: ps)).Nodup := h.perm.nodup_iff.mpr hnd
        have hnd2 := hndT
        rw [tasksL, List.nodup_append] at hnd2
        let b := ts.filter fun x => decide (x ∈ q.tasks)
        have hmb : ∀ x, x ∈ b ↔ x ∈ q.tasks := fun x => by
          rw [List.mem_filter, decide_eq_true_eq]
          exact ⟨fun z => z.2, fun z => ⟨hsub x z, z⟩⟩
        have hbs : b.Sublist ts := List.filter_sublist
        have hbp : q.tasks.Perm b := (List.perm_ext_iff_of_nodup hnd2.1 (hbs.nodup hnd)).mpr fun x => (hmb x).symm
        have hrp : (tasksL ps).Perm (restOf ts b) := by
          refine (List.perm_ext_iff_of_nodup hnd2.2.1 ((rest_sub ts b).nodup hnd)).mpr fun x => ?_
          rw [mem_rest, hmb]
          constructor
          · intro hx
            exact ⟨h.perm.mem_iff.mp (by rw [tasksL, List.mem_append]; exact .inr hx), fun z => hnd2.2.2 x z x hx rfl⟩
          · rintro ⟨h1, h2⟩
            have := h.perm.mem_iff.mpr h1
            rw [tasksL, List.mem_append] at this
            exact this.resolve_left h2
        have hlen : b.length + (restOf ts b).length = ts.length := rest_len hnd hbs
        have hb1 : 1 ≤ b.length := by rw [← hbp.length_eq]; exact List.length_pos_iff.mpr hq1
        have hin : b ∈ blocksM ts v := by
          unfold blocksM
          rw [List.mem_filter]
          refine ⟨sub_blocks hbs, ?_⟩
          unfold blkIn
          cases v with
          | true =>
            rw [if_pos rfl]
            cases hb : b with
            | nil => rw [hb] at hb1; exact absurd hb1 (by decide)
            | cons _ _ => rfl
          | false =>
            rw [if_neg Bool.false_ne_true, decide_eq_true_eq, hmb]
            have hord := List.pairwise_cons.mp (h.ord rfl)
            have hfull : fullL (q :: ps) = true := fullL_iff.mpr fun p hp => wf_full p _ (h.wf p hp)
            have hlq := (least_ok hq1).1
            have hts : leastT q ∈ ts := hsub _ hlq
            have hhead : ts.headD 0 = leastT q := by
              cases hc : ts with
              | nil => rw [hc] at hts; cases hts
              | cons t0 ts' =>
                have ha := h.asc
                rw [hc] at ha hts
                rw [List.pairwise_cons] at ha
                have h1 : leastT q ≤ t0 := least_tasks hfull (by simp) (fun p hp => by
                  rcases List.mem_cons.mp hp with e | hp
                  · rw [e]; exact Int.le_refl _
                  · exact hord.1 p hp) (h.perm.mem_iff.mpr (by rw [hc]; simp))
                rcases List.mem_cons.mp hts with e | hx
                · exact e.symm
                · have := ha.1 _ hx
                  show t0 = _
                  omega
            rw [hhead]
            exact hlq
        rw [rowsM]
        refine foldl_put (fun acc a x hx => rowStep_keep hx) (fun acc => ?_) hin
        unfold rowStep
        by_cases hps : ps = []
        · subst hps
          have hr0 : restOf ts b = [] := List.perm_nil.mp hrp.symm
          rw [hr0]
          cases whole with
          | false => exact absurd (h.two rfl) (by show ¬ 2 ≤ 1; decide)
          | true =>
            rw [if_pos rfl] at hk
            have hh := ihH b v q ⟨h.asc.sublist hbs, hbp, hwq, h.nrm q (by simp)⟩ (by
              rw [hr0, List.length_nil] at hlen
              omega)
            show [q] ∈ acc ++ _
            exact List.mem_append_right _ (List.mem_map.mpr ⟨q, hh, rfl⟩)
        · have hr1 : 1 ≤ (restOf ts b).length := by
            rw [← hrp.length_eq]
            have := len_tasks (ps := ps) fun p hp => wf_tasks (h.wf p (List.mem_cons_of_mem _ hp))
            have := List.length_pos_iff.mpr hps
            omega
          have hre : (restOf ts b).isEmpty = false := by
            cases hb : restOf ts b with
            | nil => rw [hb] at hr1; exact absurd hr1 (by decide)
            | cons _ _ => rfl
          rw [hre]
          have hk2 : 3 * ts.length ≤ k + 4 := by
            cases whole with
            | true => rw [if_pos rfl] at hk; omega
            | false => rw [if_neg Bool.false_ne_true] at hk; omega
          have hh := ihH b v q ⟨h.asc.sublist hbs, hbp, hwq, h.nrm q (by simp)⟩ (by omega)
          have hr := ihR (restOf ts b) v true ps ⟨h.asc.sublist (rest_sub ts b), hrp, fun p hp => h.wf p (List.mem_cons_of_mem _ hp), fun p hp => h.nrm p (List.mem_cons_of_mem _ hp), fun e => (List.pairwise_cons.mp (h.ord e)).2, hps, fun e => by cases e⟩ (by rw [if_pos rfl]; omega)
          show q :: ps ∈ (headsM k b v).foldl (fun f h => f ++ (rowsM k (restOf ts b) v true).map (fun r => h :: r)) acc
          exact foldl_put (f := fun f h => f ++ (rowsM k (restOf ts b) v true).map (fun r => h :: r)) (x := q :: ps) (a := q) (fun acc a x hx => List.mem_append_left _ hx) (fun acc => List.mem_append_right _ (List.mem_map.mpr ⟨ps, hr, rfl⟩)) hh
    · rw [headsM]
      by_cases h1 : b.length = 1
      · rw [if_pos h1]
        have hd := tasks_deep h.wf
        rw [h.perm.length_eq, h1] at hd
        cases q with
        | node v ps => rw [Plan.dep] at hd; omega
        | task m =>
          match b, h1, h.perm with
          | [x], _, hp =>
            have := hp.mem_iff.mp (show m ∈ (Plan.task m).tasks by rw [Plan.tasks]; simp)
            rw [List.mem_singleton] at this
            rw [this]
            simp
      · rw [if_neg h1]
        cases q with
        | task m =>
          have := h.perm.length_eq
          rw [Plan.tasks, List.length_singleton] at this
          exact absurd this.symm h1
        | node v ps =>
          have hw := wf_node.mp h.wf
          have hv : v = !w := by
            cases v <;> cases w <;> first | rfl | exact absurd rfl hw.1
          subst hv
          have hnr := h.nrm
          rw [Plan.nrm, nrmL_iff] at hnr
          have hr := ihR b (!w) false ps ⟨h.asc, h.perm, hw.2.2, hnr.2, hnr.1, fun e => by rw [e] at hw; exact absurd hw.2.1 (by decide), fun _ => hw.2.1⟩ (by rw [if_neg Bool.false_ne_true]; omega)
          exact List.mem_map.mpr ⟨ps, hr, rfl⟩
theorem good_listed {n : Nat} {rs : List Rule} {p : Plan} (h1 : 1 ≤ n) (h4 : n ≤ 4) (g : Good n rs (.plan p)) : p ∈ plansM n := by
  obtain ⟨hz, ht, hw, hnr, _⟩ := g
  have hl := ht.length_eq
  rw [upto_len] at hl
  unfold plansM
  cases p with
  | task m =>
    rw [Plan.tasks, List.length_singleton] at hl
    rw [if_pos hl.symm]
    have := mem_upto.mp (ht.mem_iff.mp (show m ∈ (Plan.task m).tasks by rw [Plan.tasks]; simp))
    have : m = 0 := by omega
    rw [this]
    simp
  | node w ps =>
    have hd := tasks_deep hw
    rw [Plan.dep] at hd
    rw [if_neg (by omega)]
    have hw' := wf_node.mp hw
    have key : Plan.node w ps ∈ headsM 10 (upto n) (!w) := (complete 10).2 _ _ _ ⟨upto_asc n, ht, wf_node.mpr ⟨(fun e => by cases w <;> cases e), hw'.2⟩, hnr⟩ (by rw [upto_len]; omega)
    cases w with
    | true => exact List.mem_append_left _ key
    | false => exact List.mem_append_right _ key
/-- whether some plan keeps the rules, by the answer -/
def Ans.isPlan : Ans → Bool
  | .plan _ => true
  | .set _ => false
theorem possible {n : Nat} {rs : List Rule} {a : Ans} (h1 : 1 ≤ n) (h4 : n ≤ 4) (ok : ∀ r ∈ rs, r.ok n) (g : Good n rs a) : ((plansM n).filter (keeps rs)).isEmpty = !a.isPlan := by
  cases a with
  | plan p =>
    have hm : p ∈ (plansM n).filter (keeps rs) := List.mem_filter.mpr ⟨good_listed h1 h4 g, g.2.2.2.2⟩
    cases hc : (plansM n).filter (keeps rs) with
    | nil => rw [hc] at hm; cases hm
    | cons _ _ => rfl
  | set s =>
    have he : (plansM n).filter (keeps rs) = [] := List.filter_eq_nil_iff.mpr fun p hp hk => by
      have hs := (plans_sound n (by omega) p hp).1
      refine stuck_none g.2 (g.1.nodup (asc_nodup (upto_asc n))) (fun x hx => ?_) hk
      have := g.1.subset hx
      rw [← hs] at this
      exact (srt_perm _).mem_iff.mp this
    rw [he]; rfl
end Tb

set_option maxHeartbeats 1000000
/-! What the law's own walk over a set meets. -/
namespace Tb
open PySem
/-- ks met in this order, the first i of them done; of the i-th the first m others are seen -/
structure QInv (lead : Int → Int → Bool) (ch : List Int) (t : Int) (ks : List Int) (i m : Nat) : Prop where
  nd : ks.Nodup
  t0 : t ∈ ks
  sub : ∀ x ∈ ks, x ∈ ch
  cl : ∀ j x, j < i → ks[j]? = some x → ∀ y ∈ ch, lead x y = true → y ∈ ks
  hh : ∀ x, ks[i]? = some x → ∀ j y, j < m → ch[j]? = some y → lead x y = true → y ∈ ks
section
variable {lead : Int → Int → Bool} {ch : List Int} {t : Int} {ks : List Int}
theorem QInv.start (ht : t ∈ ch) : QInv lead ch t [t] 0 0 :=
  ⟨by simp, by simp, by simp [ht], fun j x hj => absurd hj (Nat.not_lt_zero _), fun x _ j y hj => absurd hj (Nat.not_lt_zero _)⟩
theorem QInv.seen {i m : Nat} {x y : Int} (q : QInv lead ch t ks i m) (hx : ks[i]? = some x) (hy : ch[m]? = some y) (hn : y ∈ ks ∨ lead x y = false) : QInv lead ch t ks i (m + 1) :=
  ⟨q.nd, q.t0, q.sub, q.cl, fun x' hx' j z hj hz hl => by
    rw [hx] at hx'
    cases hx'
    rcases Nat.lt_succ_iff_lt_or_eq.mp hj with hj | hj
    · exact q.hh x hx j z hj hz hl
    · subst hj
      rw [hy] at hz
      cases hz
      rcases hn with hn | hn
      · exact hn
      · rw [hn] at hl; cases hl⟩
theorem QInv.met {i m : Nat} {x y : Int} (q : QInv lead ch t ks i m) (hx : ks[i]? = some x) (hy : ch[m]? = some y) (hn : y ∉ ks) : QInv lead ch t (ks ++ [y]) i (m + 1) := by
  have hyc := List.mem_of_getElem? hy
  have hi := (List.getElem?_eq_some_iff.mp hx).1
  refine ⟨List.nodup_append.mpr ⟨q.nd, by simp, fun a ha b hb e => ?_⟩, List.mem_append_left _ q.t0, fun z hz => ?_, fun j z hj hz w hw hl => ?_, fun z hz j w hj hw hl => ?_⟩
  · simp at hb; subst hb; subst e; exact hn ha
  · rcases List.mem_append.mp hz with hz | hz
    · exact q.sub z hz
    · simp at hz; subst hz; exact hyc
  · rw [List.getElem?_append_left (by omega)] at hz
    exact List.mem_append_left _ (q.cl j z hj hz w hw hl)
  · rw [List.getElem?_append_left hi, hx] at hz
    cases hz
    rcases Nat.lt_succ_iff_lt_or_eq.mp hj with hj | hj
    · exact List.mem_append_left _ (q.hh x hx j w hj hw hl)
    · subst hj
      rw [hy] at hw
      cases hw
      exact List.mem_append_right _ (by simp)
theorem QInv.done {i m : Nat} (q : QInv lead ch t ks i m) (h : ch.length ≤ m ∨ ks.length ≤ i) : QInv lead ch t ks (i + 1) 0 :=
  ⟨q.nd, q.t0, q.sub, fun j x hj hx y hy hl => by
    rcases Nat.lt_succ_iff_lt_or_eq.mp hj with hj | hj
    · exact q.cl j x hj hx y hy hl
    · subst hj
      rcases h with h | h
      · obtain ⟨k, hk, e⟩ := List.getElem_of_mem hy
        exact q.hh x hx k y (by omega) (by rw [List.getElem?_eq_getElem hk, e]) hl
      · have := (List.getElem?_eq_some_iff.mp hx).1
        omega, fun x _ j y hj => absurd hj (Nat.not_lt_zero _)⟩
theorem QInv.len {i m : Nat} (q : QInv lead ch t ks i m) : ks.length ≤ ch.length := nd_len q.nd q.sub
theorem QInv.all {i m : Nat} (q : QInv lead ch t ks i m) (hi : ch.length ≤ i) (hn : ch.Nodup) (hr : ∀ x ∈ ch, Rch lead ch t x) : ks.length = ch.length := by
  have hin : ∀ x, Rch lead ch t x → x ∈ ks := by
    intro x hx
    induction hx with
    | refl => exact q.t0
    | step _ hy hl ih =>
      obtain ⟨j, hj, e⟩ := List.getElem_of_mem ih
      have := q.len
      exact q.cl j _ (by omega) (by rw [List.getElem?_eq_getElem hj, e]) _ hy hl
  have h1 := nd_len hn fun x hx => hin x (hr x hx)
  have h2 := q.len
  omega
end
end Tb

set_option maxHeartbeats 1000000
/-! The text by places. -/
namespace Tb
open PySem PySem.Spec PyProof.Rows
open L2
/-- the k-th statement of the i-th def; the body of a loop, an if -/
def stm (i k : Nat) : Stmt := (defBody (top i)).getD k (.Pass ⟨0, 0, 0, 0⟩)
def bodyOf : Stmt → List Stmt
  | .For _ _ b _ _ => b
  | .While _ b _ _ => b
  | .If _ b _ _ => b
  | _ => []
def elseOf : Stmt → List Stmt
  | .If _ _ b _ => b
  | _ => []
def tStrs (l : List Str) : PyData := .tuple (l.map .str)
/-- what the top has written -/
structure Txt (K : PySem.W.Frag) (mg : Str → Option Value) (w : World) : Prop where
  OPPOSITES : ∃ a, mg "OPPOSITES" = some (.ref a) ∧ ∀ r : R4, KDct K w a r.s (.str r.opp.s)
  is_between : Dfn K mg "is_between" "is_between" (top 9)
  has_form : Dfn K mg "has_form" "has_form" (top 10)
  all_tasks : Dfn K mg "all_tasks" "all_tasks" (top 11)
  tasks_of : Dfn K mg "tasks_of" "tasks_of" (top 12)
  is_plan : Dfn K mg "is_plan" "is_plan" (top 13)
  least_task : Dfn K mg "least_task" "least_task" (top 14)
  normal_of : Dfn K mg "normal_of" "normal_of" (top 15)
  places_of : Dfn K mg "places_of" "places_of" (top 16)
  joint_of : Dfn K mg "joint_of" "joint_of" (top 17)
  relation_of : Dfn K mg "relation_of" "relation_of" (top 18)
  is_integer_tables : Dfn K mg "is_integer_tables" "is_integer" (top 21)
  opposite : Dfn K mg "opposite" "opposite" (top 23)
  is_chosen : Dfn K mg "is_chosen" "is_chosen" (top 24)
  is_integer_rules : Dfn K mg "is_integer_rules" "is_integer" (top 29)
  is_task : Dfn K mg "is_task" "is_task" (top 31)
  is_allowed : Dfn K mg "is_allowed" "is_allowed" (top 32)
  is_rule : Dfn K mg "is_rule" "is_rule" (top 33)
  is_size : Dfn K mg "is_size" "is_size" (top 34)
  is_problem : Dfn K mg "is_problem" "is_problem" (top 35)
  opposites : Dfn K mg "opposites" "opposites" (top 36)
  allowed_of : Dfn K mg "allowed_of" "allowed_of" (top 37)
  keeps_rule : Dfn K mg "keeps_rule" "keeps_rule" (top 38)
  kept_by : Dfn K mg "kept_by" "kept_by" (top 39)
  ties : Dfn K mg "ties" "ties" (top 41)
  bars : Dfn K mg "bars" "bars" (top 42)
  reach : Dfn K mg "reach" "reach" (top 43)
  told_split : Dfn K mg "told_split" "told_split" (top 44)
  stuck : Dfn K mg "stuck" "stuck" (top 45)
  check_problem : Dfn K mg "check_problem" "check_problem" (top 47)
  joined : Dfn K mg "joined" "joined" (top 48)
  taken_apart : Dfn K mg "taken_apart" "taken_apart" (top 49)
  solved : Dfn K mg "solved" "solved" (top 50)
  solve : Dfn K mg "solve" "solve" (top 51)
  accepts : Dfn K mg "accepts_solving" "accepts" (top 52)
  is_command : Dfn K mg "is_command" "is_command" (top 56)
  behind : Dfn K mg "behind" "behind" (top 57)
  l_stream : Dfn K mg "_law_stream" "_law_stream" (top 60)
  l_next : Dfn K mg "_law_next" "_law_next" (top 61)
  l_is_integer : Dfn K mg "_law_is_integer" "_law_is_integer" (top 62)
  l_rows : Dfn K mg "_law_rows" "_law_rows" (top 63)
  l_blocks : Dfn K mg "_law_blocks" "_law_blocks" (top 64)
  l_heads : Dfn K mg "_law_heads" "_law_heads" (top 65)
  l_plans : Dfn K mg "_law_plans" "_law_plans" (top 66)
  l_tasks : Dfn K mg "_law_tasks" "_law_tasks" (top 67)
  l_relation : Dfn K mg "_law_relation" "_law_relation" (top 68)
  l_relations : Dfn K mg "_law_relations" "_law_relations" (top 69)
  l_opposite : Dfn K mg "_law_opposite" "_law_opposite" (top 70)
  l_rule : Dfn K mg "_law_rule" "_law_rule" (top 71)
  l_allowed : Dfn K mg "_law_allowed" "_law_allowed" (top 72)
  l_keeps : Dfn K mg "_law_keeps" "_law_keeps" (top 73)
  l_solutions : Dfn K mg "_law_solutions" "_law_solutions" (top 74)
  l_reaches : Dfn K mg "_law_reaches" "_law_reaches" (top 75)
  l_is_set : Dfn K mg "_law_is_set" "_law_is_set" (top 76)
  l_is_stuck : Dfn K mg "_law_is_stuck" "_law_is_stuck" (top 77)
  l_is_plan_of : Dfn K mg "_law_is_plan_of" "_law_is_plan_of" (top 78)
  l_is_solution : Dfn K mg "_law_is_solution" "_law_is_solution" (top 79)
  l_command : Dfn K mg "_law_command" "_law_command" (top 80)
  l_why_not : Dfn K mg "_law_why_not" "_law_why_not" (top 81)
  l_behind : Dfn K mg "_law_behind" "_law_behind" (top 82)
  l_history : Dfn K mg "_law_history" "_law_history" (top 83)
  l_answer_is_right : Dfn K mg "_law_answer_is_right" "_law_answer_is_right" (top 84)
  MOST_TASKS_plans : Glb K mg "MOST_TASKS_plans" (.int 7)
  WORDS : Glb K mg "WORDS" (tStrs ["then", "beside"])
  MOST_TASKS_rules : Glb K mg "MOST_TASKS_rules" (.int 7)
  MOST_RULES : Glb K mg "MOST_RULES" (.int 20)
  RELATIONS : Glb K mg "RELATIONS" (tStrs ["before", "beside", "after"])
  MOST_COMMANDS : Glb K mg "MOST_COMMANDS" (.int 20)
  len : mg "len" = none
  isinstance : mg "isinstance" = none
  int : mg "int" = none
  bool : mg "bool" = none
  str : mg "str" = none
  tuple : mg "tuple" = none
  list : mg "list" = none
  all : mg "all" = none
  range : mg "range" = none
  sorted : mg "sorted" = none
  min : mg "min" = none
  abs : mg "abs" = none
section
variable {X : Cx} {E : Hp × Hp} {γ : List Slot} {pos : Pos} {a b c : Expr} {i j k : Int}
/-- a <= b <= c, a <= b < c -/
theorem chain_of {p p' : Int → Int → Bool} {ta tb tc : TE} (ea : ta = tD X.K E γ (.int i)) (eb : tb = tD X.K E γ (.int j)) (ec : tc = tD X.K E γ (.int k)) (σ : St) (H : Hp) (Q : VK) (w : tD X.K E γ (.bool (p i j && p' j k)) σ H Q) : tChain (rI0 fun i j => .bl (p i j)) (rI0 fun i j => .bl (p' i j)) ta tb tc σ H Q := by
  subst ea eb ec
  obtain ⟨B, s, q⟩ := w
  refine ⟨B, s, fun v B1 H1 g1 x1 => ⟨B1, s.up g1, fun w B2 H2 g2 x2 => ?_⟩⟩
  cases x1
  cases x2
  refine ⟨i, j, rfl, rfl, _, rfl, ?_⟩
  cases hp : p i j with
  | true =>
    refine iteT ⟨B2, (s.up g1).up g2, fun u B3 H3 g3 x3 => ?_⟩
    cases x3
    refine ⟨j, k, rfl, rfl, ?_⟩
    rw [hp, Bool.true_and] at q
    exact q _ B3 H3 ((g1.trans g2).trans g3) (.bl _)
  | false =>
    refine iteF ?_
    rw [hp, Bool.false_and] at q
    exact q _ B2 H2 (g1.trans g2) (.bl _)
theorem d_chainLE {k_ : Bool} (ha : PD X E γ a (.int i)) (hb : PD X E γ b (.int j)) (hc : PD X E γ c (.int k)) (hm : lastMarks [.LtE, .LtE] [b, c] = false := by with_unfolding_all rfl) (hk_ : (decide (i ≤ j) && decide (j ≤ k)) = k_ := by rfl) : PD X E γ (.Compare a [.LtE, .LtE] [b, c] pos) (.bool k_) := PD.is ((pe_chain op_le op_le ha hb hc hm).weak (chain_of (p := fun i j => decide (i ≤ j)) (p' := fun i j => decide (i ≤ j)) rfl rfl rfl)) (congrArg _ hk_)
theorem d_chainLT {k_ : Bool} (ha : PD X E γ a (.int i)) (hb : PD X E γ b (.int j)) (hc : PD X E γ c (.int k)) (hm : lastMarks [.LtE, .Lt] [b, c] = false := by with_unfolding_all rfl) (hk_ : (decide (i ≤ j) && decide (j < k)) = k_ := by rfl) : PD X E γ (.Compare a [.LtE, .Lt] [b, c] pos) (.bool k_) := PD.is ((pe_chain op_le op_lt ha hb hc hm).weak (chain_of (p := fun i j => decide (i ≤ j)) (p' := fun i j => decide (i < j)) rfl rfl rfl)) (congrArg _ hk_)
theorem t_chainLE {k_ : Bool} (ha : PD X E γ a (.int i)) (hb : PD X E γ b (.int j)) (hc : PD X E γ c (.int k)) (hm : lastMarks [.LtE, .LtE] [b, c] = false := by with_unfolding_all rfl) (hk_ : (decide (i ≤ j) && decide (j ≤ k)) = k_ := by rfl) : PB X E γ (.Compare a [.LtE, .LtE] [b, c] pos) k_ := PB.is ((pt_chain op_le op_le ha hb hc hm).weak fun σ H Q ⟨B, s, q⟩ => chain_of (p := fun i j => decide (i ≤ j)) (p' := fun i j => decide (i ≤ j)) rfl rfl rfl σ H _ ⟨B, s, fun v B' H' g x => by cases x; exact ⟨_, rfl, q B' H' g⟩⟩) hk_
def isIntD : PyData → Bool
  | .int _ => true
  | .bool _ => true
  | _ => false
def isBoolD : PyData → Bool
  | .bool _ => true
  | _ => false
def isStrD : PyData → Bool
  | .str _ => true
  | _ => false
def isTupD : PyData → Bool
  | .tuple _ => true
  | _ => false
theorem kit_int : ∀ d : PyData, kitB (tyD d) "int" = some (isIntD d)
  | .none => (by decide +kernel : kitB "NoneType" "int" = some false)
  | .bool _ => (by decide +kernel : kitB "bool" "int" = some true)
  | .int _ => (by decide +kernel : kitB "int" "int" = some true)
  | .str _ => (by decide +kernel : kitB "str" "int" = some false)
  | .list _ => (by decide +kernel : kitB "list" "int" = some false)
  | .tuple _ => (by decide +kernel : kitB "tuple" "int" = some false)
  | .dict _ => (by decide +kernel : kitB "dict" "int" = some false)
theorem kit_bool : ∀ d : PyData, kitB (tyD d) "bool" = some (isBoolD d)
  | .none => (by decide +kernel : kitB "NoneType" "bool" = some false)
  | .bool _ => (by decide +kernel : kitB "bool" "bool" = some true)
  | .int _ => (by decide +kernel : kitB "int" "bool" = some false)
  | .str _ => (by decide +kernel : kitB "str" "bool" = some false)
  | .list _ => (by decide +kernel : kitB "list" "bool" = some false)
  | .tuple _ => (by decide +kernel : kitB "tuple" "bool" = some false)
  | .dict _ => (by decide +kernel : kitB "dict" "bool" = some false)
theorem kit_str : ∀ d : PyData, kitB (tyD d) "str" = some (isStrD d)
  | .none => (by decide +kernel : kitB "NoneType" "str" = some false)
  | .bool _ => (by decide +kernel : kitB "bool" "str" = some false)
  | .int _ => (by decide +kernel : kitB "int" "str" = some false)
  | .str _ => (by decide +kernel : kitB "str" "str" = some true)
  | .list _ => (by decide +kernel : kitB "list" "str" = some false)
  | .tuple _ => (by decide +kernel : kitB "tuple" "str" = some false)
  | .dict _ => (by decide +kernel : kitB "dict" "str" = some false)
theorem kit_tup : ∀ d : PyData, kitB (tyD d) "tuple" = some (isTupD d)
  | .none => (by decide +kernel : kitB "NoneType" "tuple" = some false)
  | .bool _ => (by decide +kernel : kitB "bool" "tuple" = some false)
  | .int _ => (by decide +kernel : kitB "int" "tuple" = some false)
  | .str _ => (by decide +kernel : kitB "str" "tuple" = some false)
  | .list _ => (by decide +kernel : kitB "list" "tuple" = some false)
  | .tuple _ => (by decide +kernel : kitB "tuple" "tuple" = some true)
  | .dict _ => (by decide +kernel : kitB "dict" "tuple" = some false)
theorem bb_int : bootBuiltins (Str.ofString "int") = some (.type "int") := by decide +kernel
theorem bb_bool : bootBuiltins (Str.ofString "bool") = some (.type "bool") := by decide +kernel
theorem bb_str : bootBuiltins (Str.ofString "str") = some (.type "str") := by decide +kernel
theorem bb_tup : bootBuiltins (Str.ofString "tuple") = some (.type "tuple") := by decide +kernel
section
variable {d : PyData} {p p2 : Pos}
theorem d_isInt {k_ : Bool} (hm : X.mg "isinstance" = none) (hT : X.mg "int" = none) (h : PD X E γ a d) (hg : Gl X "isinstance" := by rfl) (hg2 : Gl X "int" := by rfl)
    (hst : starEach [a, .Name "int" p2] X.env = (false, eval a X.env) :: starEach [.Name "int" p2] X.env := by rfl) (hst2 : starEach [.Name "int" p2] X.env = (false, eval (.Name "int" p2) X.env) :: starEach [] X.env := by rfl)
    (hpl : (backTo pos (starEach [.Name "int" p2] X.env)).any (·.1) = false := by rfl) (hk_ : (isIntD d) = k_ := by rfl) : PD X E γ (.Call (.Name "isinstance" p) [a, .Name "int" p2] [] pos) (.bool k_) := PD.is (d_isi (T := "int") hm hT h (kit_int d) bb_int hg hg2 (by decide) (by decide) hst hst2 hpl) (congrArg _ hk_)
theorem d_isBool {k_ : Bool} (hm : X.mg "isinstance" = none) (hT : X.mg "bool" = none) (h : PD X E γ a d) (hg : Gl X "isinstance" := by rfl) (hg2 : Gl X "bool" := by rfl)
    (hst : starEach [a, .Name "bool" p2] X.env = (false, eval a X.env) :: starEach [.Name "bool" p2] X.env := by rfl) (hst2 : starEach [.Name "bool" p2] X.env = (false, eval (.Name "bool" p2) X.env) :: starEach [] X.env := by rfl)
    (hpl : (backTo pos (starEach [.Name "bool" p2] X.env)).any (·.1) = false := by rfl) (hk_ : (isBoolD d) = k_ := by rfl) : PD X E γ (.Call (.Name "isinstance" p) [a, .Name "bool" p2] [] pos) (.bool k_) := PD.is (d_isi (T := "bool") hm hT h (kit_bool d) bb_bool hg hg2 (by decide) (by decide) hst hst2 hpl) (congrArg _ hk_)
theorem d_isStr {k_ : Bool} (hm : X.mg "isinstance" = none) (hT : X.mg "str" = none) (h : PD X E γ a d) (hg : Gl X "isinstance" := by rfl) (hg2 : Gl X "str" := by rfl)
    (hst : starEach [a, .Name "str" p2] X.env = (false, eval a X.env) :: starEach [.Name "str" p2] X.env := by rfl) (hst2 : starEach [.Name "str" p2] X.env = (false, eval (.Name "str" p2) X.env) :: starEach [] X.env := by rfl)
    (hpl : (backTo pos (starEach [.Name "str" p2] X.env)).any (·.1) = false := by rfl) (hk_ : (isStrD d) = k_ := by rfl) : PD X E γ (.Call (.Name "isinstance" p) [a, .Name "str" p2] [] pos) (.bool k_) := PD.is (d_isi (T := "str") hm hT h (kit_str d) bb_str hg hg2 (by decide) (by decide) hst hst2 hpl) (congrArg _ hk_)
theorem d_isTup {k_ : Bool} (hm : X.mg "isinstance" = none) (hT : X.mg "tuple" = none) (h : PD X E γ a d) (hg : Gl X "isinstance" := by rfl) (hg2 : Gl X "tuple" := by rfl)
    (hst : starEach [a, .Name "tuple" p2] X.env = (false, eval a X.env) :: starEach [.Name "tuple" p2] X.env := by rfl) (hst2 : starEach [.Name "tuple" p2] X.env = (false, eval (.Name "tuple" p2) X.env) :: starEach [] X.env := by rfl)
    (hpl : (backTo pos (starEach [.Name "tuple" p2] X.env)).any (·.1) = false := by rfl) (hk_ : (isTupD d) = k_ := by rfl) : PD X E γ (.Call (.Name "isinstance" p) [a, .Name "tuple" p2] [] pos) (.bool k_) := PD.is (d_isi (T := "tuple") hm hT h (kit_tup d) bb_tup hg hg2 (by decide) (by decide) hst hst2 hpl) (congrArg _ hk_)
end
/-- an int between two bounds -/
def isBetw : PyData → Int → Int → Bool
  | .int i, lo, hi => decide (lo ≤ i) && decide (i ≤ hi)
  | _, _, _ => false
def noDict : PyData → Bool
  | .dict _ => false
  | _ => true
end
section
variable {P : Program} {w : World} {K : PySem.W.Frag} {mg : Str → Option Value} {base : Heap}
theorem sc_is_between : FnScope ["value", "low", "high"] ["value", "low", "high"] (defScope (top 9)) := ⟨rfl, rfl, rfl, by decide +kernel, rfl, by decide +kernel, by decide +kernel⟩
theorem c_is_between (T : Txt K mg w) : C8.Cal P w K mg base 1 "is_between" (spR K fun ds d => ∃ v lo hi, ds = [v, .int lo, .int hi] ∧ d = .bool (isBetw v lo hi)) [] := by
  refine cal_of T.is_between sc_is_between (fun _ _ _ _ _ _ us hl => match us, hl with | [_, _, _], _ => rfl) (fun ds d ⟨_, _, _, e, _⟩ => by rw [e]; rfl) ?_
  rintro f cdv A outer s H0 Ex hr ds d ⟨v, lo, hi, rfl, rfl⟩ E
  refine r_one (s_ret ?_)
  cases v with
  | int i => exact d_andT (d_isInt T.isinstance T.int (dv 0)) (d_andT (d_not (d_isBool T.isinstance T.bool (dv 0))) (d_one (d_chainLE (dv 1) (dv 0) (dv 2))))
  | bool b => exact d_andT (d_isInt T.isinstance T.int (dv 0)) (d_andF (d_not (d_isBool T.isinstance T.bool (dv 0))))
  | _ => exact d_andF (d_isInt T.isinstance T.int (dv 0))
end
end Tb

set_option maxHeartbeats 1000000
/-! plans.py -/
namespace Tb
open PySem PySem.Spec PyProof.Rows
open L2
section
variable {X : Cx} {E : Hp × Hp} {γ : List Slot} {pos : Pos} {e elt c : Expr} {p : Pos} {scope : Scope} {T : Tgt} {α : Type}
theorem d_allM {ps : List α} {b : α → Bool} {k_ : Bool} (hc : X.calm = true) (hm : X.mg "all" = none) (h : PD X E γ e (.list (ps.map fun p => .bool (b p)))) (hg : Gl X "all" := by rfl) (hst : starEach [e] X.env = (false, eval e X.env) :: starEach [] X.env := by rfl) (hk_ : ps.all b = k_ := by rfl) :
    PD X E γ (.Call (.Name "all" p) [e] [] pos) (.bool k_) := by
  have h2 : PD X E γ e (.list ((ps.map b).map .bool)) := by rw [List.map_map]; exact h
  exact d_all (bs := ps.map b) hc hm h2 hg hst (by rw [List.all_map]; exact hk_)
theorem Lc.is {l es es' : List PyData} {ifs : List Expr} {γ0 : List Slot} (h : Lc X E scope T ifs elt γ0 l es) (e : es = es') : Lc X E scope T ifs elt γ0 l es' := e ▸ h
theorem lc_maps {f g : α → PyData} {γ0 : List Slot} : ∀ {ps : List α} (h : ∀ d ∈ ps, ∃ γ1, T (f d) γ0 γ1 ∧ ∀ s H C cl fp, PD (Blk X scope s H C cl fp) E γ1 elt (g d)), Lc X E scope T [] elt γ0 (ps.map f) (ps.map g)
  | [], _ => .nil
  | d :: l, h => by
    obtain ⟨γ1, t, he⟩ := h d (by simp)
    exact .keep t (fun s H C cl fp => pts0) he (lc_maps fun x hx => h x (List.mem_cons_of_mem _ hx))
theorem lc_filters {q : α → Bool} {f g : α → PyData} {γ0 : List Slot} : ∀ {ps : List α} (h : ∀ d ∈ ps, ∃ γ1, T (f d) γ0 γ1 ∧ (∀ s H C cl fp, PB (Blk X scope s H C cl fp) E γ1 c (q d)) ∧ (q d = true → ∀ s H C cl fp, PD (Blk X scope s H C cl fp) E γ1 elt (g d))), Lc X E scope T [c] elt γ0 (ps.map f) ((ps.filter q).map g)
  | [], _ => .nil
  | d :: l, h => by
    obtain ⟨γ1, t, ht, he⟩ := h d (by simp)
    have ih := lc_filters (q := q) (f := f) (g := g) fun x hx => h x (List.mem_cons_of_mem _ hx)
    cases hp : q d with
    | true =>
      rw [List.filter_cons_of_pos hp]
      rw [hp] at ht he
      exact .keep t (fun s H C cl fp => pts1 (ht s H C cl fp)) (he rfl) ih
    | false =>
      rw [List.filter_cons_of_neg (by rw [hp]; exact Bool.false_ne_true)]
      rw [hp] at ht
      exact .skip t (fun s H C cl fp => pts1 (ht s H C cl fp)) ih
theorem lc_mapE (ps : List α) (f g : α → PyData) {γ0 : List Slot} {l es : List PyData} (h : ∀ d ∈ ps, ∃ γ1, T (f d) γ0 γ1 ∧ ∀ s H C cl fp, PD (Blk X scope s H C cl fp) E γ1 elt (g d)) (el : ps.map f = l := by rfl) (ee : ps.map g = es := by rfl) : Lc X E scope T [] elt γ0 l es := by
  subst el ee
  exact lc_maps h
theorem lc_filterE (ps : List α) (q : α → Bool) (f g : α → PyData) {γ0 : List Slot} {l es : List PyData} (h : ∀ d ∈ ps, ∃ γ1, T (f d) γ0 γ1 ∧ (∀ s H C cl fp, PB (Blk X scope s H C cl fp) E γ1 c (q d)) ∧ (q d = true → ∀ s H C cl fp, PD (Blk X scope s H C cl fp) E γ1 elt (g d))) (el : ps.map f = l := by rfl) (ee : (ps.filter q).map g = es := by rfl) : Lc X E scope T [c] elt γ0 l es := by
  subst el ee
  exact lc_filters h
end
section
variable {P : Program} {w : World} {K : PySem.W.Frag} {mg : Str → Option Value} {base : Heap}
abbrev n_has_form : List Str := ["value", "outer", "deep", "part"]
theorem sc_has_form : FnScope n_has_form ["value", "outer", "deep"] (defScope (top 10)) := ⟨rfl, rfl, rfl, by decide +kernel, rfl, by decide +kernel, by decide +kernel⟩
theorem wd_in : ∀ w : Bool, inD (.str (wd w)) [.str "then", .str "beside"] = true
  | true => by decide +kernel
  | false => by decide +kernel
theorem oD_eq (o : Option Bool) (w : Bool) : decide (wd w = oD o) = decide (o = some w) := by
  cases o with
  | none => cases w <;> decide +kernel
  | some v => cases v <;> cases w <;> decide +kernel
def R_has_form (n : Nat) (ds : List PyData) (d : PyData) : Prop := ∃ (p : Plan) (o : Option Bool), ds = [p.toD, .str (oD o), .int (n : Int)] ∧ d = .bool (hasForm p o n)
theorem has_form_turn (T : Txt K mg w) (n : Nat) (ih : ∀ m, n = m + 1 → C8.Cal P w K mg base (m + 2) "has_form" (spR K (R_has_form m)) []) : C8.Cal P w K mg base (n + 2) "has_form" (spR K (R_has_form n)) [] := by
    refine cal_of T.has_form sc_has_form (fun _ _ _ _ _ _ us hl => match us, hl with | [_, _, _], _ => rfl) (fun ds d ⟨_, _, e, _⟩ => by rw [e]; rfl) ?_
    rintro f cdv A outer s H0 Ex hr ds d ⟨p, o, rfl, rfl⟩ E
    cases p with
    | task m =>
      unfold Plan.toD hasForm
      cases hb : (decide (0 ≤ m) && decide (m ≤ 6)) with
      | true =>
        refine r_ret (s_ifT (t_val (d_call (c_is_between T) hr (by omega) (a_cons (dv 0) (a_cons di (a_cons (d_sub (dg T.MOST_TASKS_plans) di) a_nil))) ⟨_, _, _, rfl, ?_⟩)) (r_one (s_ret dbl)))
        exact congrArg PyData.bool hb.symm
      | false =>
        refine r_cons (s_ifF (t_val (d_call (c_is_between T) hr (by omega) (a_cons (dv 0) (a_cons di (a_cons (d_sub (dg T.MOST_TASKS_plans) di) a_nil))) ⟨_, _, _, rfl, ?_⟩)) r_nil) ?_
        · exact congrArg PyData.bool hb.symm
        · refine r_ret (s_ifT (PW.pt (t_or (t_eq (dv 2) di) (fun _ => t_orT (t_not (t_val (d_isTup T.isinstance T.tuple (dv 0))))) (Bool.or_true _))) (r_one (s_ret dbl)))
    | node w ps =>
      unfold Plan.toD
      refine r_cons (s_ifF (t_val (d_call (c_is_between T) hr (by omega) (a_cons (dv 0) (a_cons di (a_cons (d_sub (dg T.MOST_TASKS_plans) di) a_nil))) ⟨_, _, _, rfl, rfl⟩)) r_nil) ?_
      cases n with
      | zero =>
        unfold hasForm
        exact r_ret (s_ifT (PW.pt (t_orT (t_eq (dv 2) di))) (r_one (s_ret dbl)))
      | succ n =>
        unfold hasForm
        refine r_cons (s_ifF (PW.pt (t_orF (t_eq (dv 2) di (by simp [eqF]; omega)) (t_orF (t_not (t_val (d_isTup T.isinstance T.tuple (dv 0)))) (t_or1 (t_ne (d_len T.len (dv 0)) di))))) r_nil) ?_
        refine r_cons (s_ifF (PW.pt (t_orF (t_not (t_val (d_isStr T.isinstance T.str (d_ixT (dv 0) di)))) (t_or1 (t_ninT (d_ixT (dv 0) di) (dg T.WORDS) rfl rfl rfl (congrArg not (wd_in w)))))) r_nil) ?_
        have key : (decide (wd w = oD o) || !(decide ((2 : Int) ≤ ((toDs ps).length : Int)) && decide (((toDs ps).length : Int) ≤ 7))) = !(!decide (o = some w) && (decide (2 ≤ ps.length) && decide (ps.length ≤ 7))) := by
          rw [oD_eq, toDs_len]
          have e1 : decide ((2 : Int) ≤ (ps.length : Int)) = decide (2 ≤ ps.length) := decide_eq_decide.mpr (by omega)
          have e2 : decide ((ps.length : Int) ≤ 7) = decide (ps.length ≤ 7) := decide_eq_decide.mpr (by omega)
          rw [e1, e2]
          cases decide (o = some w) <;> cases decide (2 ≤ ps.length) <;> cases decide (ps.length ≤ 7) <;> rfl
        cases hc : (!decide (o = some w) && (decide (2 ≤ ps.length) && decide (ps.length ≤ 7))) with
        | false =>
          rw [Bool.false_and]
          exact r_ret (s_ifT (PW.pt (t_or (t_eq (d_ixT (dv 0) di) (dv 1)) (fun _ => t_orF (t_not (t_val (d_isTup T.isinstance T.tuple (d_ixT (dv 0) di)))) (t_or1 (t_not (t_chainLE di (d_len T.len (d_ixT (dv 0) di)) (dg T.MOST_TASKS_plans))))) (by rw [key, hc]; rfl))) (r_one (s_ret dbl)))
        | true =>
          rw [Bool.true_and, hasFormL_eq]
          refine r_cons (s_ifF (PW.pt (t_or (t_eq (d_ixT (dv 0) di) (dv 1)) (fun _ => t_orF (t_not (t_val (d_isTup T.isinstance T.tuple (d_ixT (dv 0) di)))) (t_or1 (t_not (t_chainLE di (d_len T.len (d_ixT (dv 0) di)) (dg T.MOST_TASKS_plans))))) (by rw [key, hc]; rfl))) r_nil) ?_
          have hz : (toDs ps).length ≤ 100000 := by
            rw [toDs_len]
            simp only [Bool.and_eq_true, decide_eq_true_eq] at hc
            omega
          refine r_one (s_ret (d_allM (b := fun p => hasForm p (some w) n) rfl T.all (d_lcT (T := T1 3) [("part", 3)] rfl sc_has_form.nd (d_ixT (dv 0) di) (id (α := blkC n_has_form (defScope (top 10)) _ _ = true) (by decide +kernel)) (fun _ _ _ _ _ => pg_name sc_has_form.nd rfl (Or.inl rfl)) (tg1 (by decide)) hz ?_)))
          rw [toDs_eq]
          exact lc_maps fun q _ => ⟨_, rfl, fun s H C cl fp => d_call (ih n rfl) hr (by omega) (a_cons (dv 3) (a_cons (d_ixT (dv 0) di) (a_cons (d_sub (dv 2) di (by omega)) a_nil))) ⟨q, some w, rfl, rfl⟩⟩
theorem c_has_form (T : Txt K mg w) (n : Nat) : C8.Cal P w K mg base (n + 2) "has_form" (spR K (R_has_form n)) [] := by
  induction n with
  | zero => exact has_form_turn T 0 fun m h => absurd h (by omega)
  | succ n ih => exact has_form_turn T (n + 1) (fun m h => (show m = n by omega) ▸ ih)
/-! all_tasks -/
abbrev n_all_tasks : List Str := ["plan", "found", "part"]
theorem sc_all_tasks : FnScope n_all_tasks ["plan"] (defScope (top 11)) := ⟨rfl, rfl, rfl, by decide +kernel, rfl, by decide +kernel, by decide +kernel⟩
def R_all_tasks (n : Nat) (ds : List PyData) (d : PyData) : Prop := ∃ p : Plan, ds = [p.toD] ∧ p.dep ≤ n ∧ p.tasks.length ≤ 900 ∧ d = .list (p.tasks.map .int)
theorem all_tasks_turn (T : Txt K mg w) (n : Nat) (ih : ∀ m, n = m + 1 → C8.Cal P w K mg base (m + 1) "all_tasks" (spR K (R_all_tasks m)) []) : C8.Cal P w K mg base (n + 1) "all_tasks" (spR K (R_all_tasks n)) [] := by
  refine cal_of T.all_tasks sc_all_tasks (fun _ _ _ _ _ _ us hl => match us, hl with | [_], _ => rfl) (fun ds d ⟨_, e, _⟩ => by rw [e]; rfl) ?_
  rintro f cdv A outer s H0 Ex hr ds d ⟨p, rfl, hd, hz, rfl⟩ E
  cases p with
  | task m => exact r_ret (s_ifT (t_val (d_isInt T.isinstance T.int (dv 0))) (r_one (s_ret (d_lst (a_cons (dv 0) a_nil)))))
  | node b ps =>
    unfold Plan.toD
    refine r_cons (s_ifF (t_val (d_isInt T.isinstance T.int (dv 0))) r_nil) ?_
    refine r_cons (s_newOwn 1 sc_all_tasks.nd) ?_
    unfold Plan.dep at hd
    unfold Plan.tasks at hz ⊢
    obtain ⟨m, rfl⟩ : ∃ m, n = m + 1 := ⟨n - 1, by omega⟩
    have lp : ∀ (qs : List Plan) (acc : List PyData) (s2 : Slot), notOwn s2 = true → depL qs ≤ m → (acc.length + (tasksL qs).length ≤ 900) → ∃ s2', notOwn s2' = true ∧
        Loop (CxD P w K mg base n_all_tasks "all_tasks" (top 11) f cdv A outer s H0 Ex) E (T1 2) (bodyOf (stm 11 2)) (toDs qs) [.dat (.tuple [.str (wd b), .tuple (toDs ps)]), .own acc, s2] (.next [.dat (.tuple [.str (wd b), .tuple (toDs ps)]), .own (acc ++ (tasksL qs).map .int), s2']) := by
      intro qs
      induction qs with
      | nil =>
        intro acc s2 h2 _ _
        refine ⟨s2, h2, ?_⟩
        have e : acc ++ (tasksL []).map PyData.int = acc := List.append_nil _
        rw [e]
        exact .nil
      | cons q qs ihq =>
        intro acc s2 h2 hd hz
        have h1 : q.dep ≤ m := Nat.le_trans (Nat.le_max_left _ _) hd
        have h3 : depL qs ≤ m := Nat.le_trans (Nat.le_max_right _ _) hd
        have h4 : (tasksL (q :: qs)).length = q.tasks.length + (tasksL qs).length := by rw [tasksL, List.length_append]
        obtain ⟨s2', h2', k⟩ := ihq (acc ++ q.tasks.map .int) (.dat q.toD) rfl h3 (by rw [List.length_append, List.length_map]; omega)
        refine ⟨s2', h2', ?_⟩
        have e : acc ++ (tasksL (q :: qs)).map PyData.int = acc ++ q.tasks.map .int ++ (tasksL qs).map .int := by rw [tasksL, List.map_append, List.append_assoc]
        rw [e]
        refine .next rfl (r_one (s_extend 1 (d_call (ih m rfl) hr (by omega) (a_cons (dv 2) a_nil) ⟨q, rfl, h1, by omega, rfl⟩) (by rw [List.length_map]; omega))) k
    obtain ⟨s2', h2, lp⟩ := lp ps [] .no rfl (by omega) (by simpa using hz)
    refine r_cons (s_forT .never rfl (d_ixT (dv 0) di) (g1 2 sc_all_tasks.nd) lp) ?_
    exact r_freeze 1 (r_one (s_ret (dv 1))) rfl (by cases s2' <;> first | rfl | cases h2)
theorem c_all_tasks (T : Txt K mg w) (n : Nat) : C8.Cal P w K mg base (n + 1) "all_tasks" (spR K (R_all_tasks n)) [] := by
  induction n with
  | zero => exact all_tasks_turn T 0 fun m h => absurd h (by omega)
  | succ n ih => exact all_tasks_turn T (n + 1) (fun m h => (show m = n by omega) ▸ ih)
end
end Tb

set_option maxHeartbeats 1000000
/-! plans.py, further -/
namespace Tb
open PySem PySem.Spec PyProof.Rows
open L2
theorem eqvAll_ints : ∀ a b : List Int, PyData.eqvAll (a.map .int) (b.map .int) = decide (a = b)
  | [], [] => rfl
  | [], _ :: _ => rfl
  | _ :: _, [] => rfl
  | x :: a, y :: b => by
    show (PyData.eqv (.int x) (.int y) && PyData.eqvAll (a.map .int) (b.map .int)) = _
    rw [eqvAll_ints a b]
    show ((x == y) && decide (a = b)) = decide (x :: a = y :: b)
    by_cases h : x = y
    · subst h; by_cases h2 : a = b <;> simp [h2]
    · simp [h]
theorem canLay_ints : ∀ a : List Int, PyData.canLayAll0 (a.map .int) = true
  | [] => rfl
  | x :: a => by show (true && PyData.canLayAll0 (a.map .int)) = true; rw [canLay_ints a]; rfl
theorem depth_ints : ∀ a : List Int, PyData.depthAll (a.map .int) = 0
  | [] => rfl
  | x :: a => by show max 0 (PyData.depthAll (a.map .int)) = 0; rw [depth_ints a]; rfl
theorem shaped_tints (a : List Int) : SeqAt.shaped (.tuple (a.map .int)) = true := by
  unfold SeqAt.shaped
  have e1 : (PyData.tuple (a.map .int)).canLay0 = true := canLay_ints a
  have e2 : (PyData.tuple (a.map .int)).depth = 1 := by show PyData.depthAll (a.map .int) + 1 = 1; rw [depth_ints]
  rw [e1, e2]; rfl
theorem shaped_lints (a : List Int) : SeqAt.shaped (.list (a.map .int)) = true := by
  unfold SeqAt.shaped
  have e1 : (PyData.list (a.map .int)).canLay0 = true := canLay_ints a
  have e2 : (PyData.list (a.map .int)).depth = 1 := by show PyData.depthAll (a.map .int) + 1 = 1; rw [depth_ints]
  rw [e1, e2]; rfl
theorem inD_int (x : Int) : ∀ a : List Int, inD (.int x) (a.map .int) = decide (x ∈ a)
  | [] => rfl
  | y :: a => by
    have ih := inD_int x a
    unfold inD at ih ⊢
    rw [List.map_cons, List.any_cons, ih]
    show ((y == x) || decide (x ∈ a)) = _
    by_cases h : x = y
    · subst h; simp
    · have h' : ¬ y = x := fun e => h e.symm
      simp [h, h']
theorem flat_ints : ∀ a : List Int, (a.map PyData.int).all flatD = true
  | [] => rfl
  | y :: a => by rw [List.map_cons, List.all_cons, flat_ints a]; rfl
theorem rgD_eq (n : Nat) : rgD n = (upto n).map .int := by unfold rgD upto; rw [List.map_map]; rfl
section
variable {P : Program} {w : World} {K : PySem.W.Frag} {mg : Str → Option Value} {base : Heap}
theorem sc_tasks_of : FnScope ["plan"] ["plan"] (defScope (top 12)) := ⟨rfl, rfl, rfl, by decide +kernel, rfl, by decide +kernel, by decide +kernel⟩
def R_tasks_of (ds : List PyData) (d : PyData) : Prop := ∃ p : Plan, ds = [p.toD] ∧ p.dep ≤ 8 ∧ p.tasks.length < 64 ∧ d = .tuple ((srt p.tasks).map .int)
theorem c_tasks_of (T : Txt K mg w) : C8.Cal P w K mg base 10 "tasks_of" (spR K R_tasks_of) [] := by
  refine cal_of T.tasks_of sc_tasks_of (fun _ _ _ _ _ _ us hl => match us, hl with | [_], _ => rfl) (fun ds d ⟨_, e, _⟩ => by rw [e]; rfl) ?_
  rintro f cdv A outer s H0 Ex hr ds d ⟨p, rfl, hd, hz, rfl⟩ E
  exact r_one (s_ret (d_tuple T.tuple (d_sorted T.sorted (d_call (c_all_tasks T 8) hr (by omega) (a_cons (dv 0) a_nil) ⟨p, rfl, hd, by omega, rfl⟩) hz (srt_perm _) (srt_pw _))))
theorem sc_is_plan : FnScope ["value", "size"] ["value", "size"] (defScope (top 13)) := ⟨rfl, rfl, rfl, by decide +kernel, rfl, by decide +kernel, by decide +kernel⟩
def isPlan (p : Plan) (n : Nat) : Bool := hasForm p none 6 && decide (srt p.tasks = upto n)
def R_is_plan (ds : List PyData) (d : PyData) : Prop := ∃ (p : Plan) (n : Nat), ds = [p.toD, .int (n : Int)] ∧ 1 ≤ n ∧ n ≤ 7 ∧ p.dep ≤ 8 ∧ p.tasks.length < 64 ∧ d = .bool (isPlan p n)
theorem c_is_plan (T : Txt K mg w) : C8.Cal P w K mg base 11 "is_plan" (spR K R_is_plan) [] := by
  refine cal_of T.is_plan sc_is_plan (fun _ _ _ _ _ _ us hl => match us, hl with | [_, _], _ => rfl) (fun ds d ⟨_, _, e, _⟩ => by rw [e]; rfl) ?_
  rintro f cdv A outer s H0 Ex hr ds d ⟨p, n, rfl, h1, h7, hd, hz, rfl⟩ E
  have eb : isBetw (.int (n : Int)) 1 7 = true := by
    show (decide ((1 : Int) ≤ (n : Int)) && decide ((n : Int) ≤ 7)) = true
    rw [Bool.and_eq_true]
    exact ⟨decide_eq_true (by omega), decide_eq_true (by omega)⟩
  unfold isPlan
  cases hf : hasForm p none 6 with
  | false =>
    exact r_ret (s_ifT (PW.pt (t_orF (t_not (t_val (d_call (c_is_between T) hr (by omega) (a_cons (dv 1) (a_cons di (a_cons (dg T.MOST_TASKS_plans) a_nil))) ⟨_, _, _, rfl, rfl⟩)) (congrArg not eb))
      (t_or1 (t_not (t_val (d_call (c_has_form T 6) hr (by omega) (a_cons (dv 0) (a_cons ds (a_cons (d_sub (dg T.MOST_TASKS_plans) di) a_nil))) ⟨p, none, rfl, rfl⟩)) (by rw [hf]; rfl))))) (r_one (s_ret dbl)))
  | true =>
    refine r_cons (s_ifF (PW.pt (t_orF (t_not (t_val (d_call (c_is_between T) hr (by omega) (a_cons (dv 1) (a_cons di (a_cons (dg T.MOST_TASKS_plans) a_nil))) ⟨_, _, _, rfl, rfl⟩)) (congrArg not eb))
      (t_or1 (t_not (t_val (d_call (c_has_form T 6) hr (by omega) (a_cons (dv 0) (a_cons ds (a_cons (d_sub (dg T.MOST_TASKS_plans) di) a_nil))) ⟨p, none, rfl, rfl⟩)) (by rw [hf]; rfl))))) r_nil) ?_
    refine r_one (s_ret (d_eqD hr.units (d_call (c_tasks_of T) hr (by omega) (a_cons (dv 0) a_nil) ⟨p, rfl, hd, hz, rfl⟩) (d_tupRg rfl T.tuple T.range (dv 1) (by omega)) (shaped_tints _) (by rw [rgD_eq]; exact shaped_tints _) ?_))
    rw [rgD_eq]
    show PyData.eqvAll _ _ = _
    rw [eqvAll_ints]
    rfl
theorem sc_least_task : FnScope ["plan"] ["plan"] (defScope (top 14)) := ⟨rfl, rfl, rfl, by decide +kernel, rfl, by decide +kernel, by decide +kernel⟩
def R_least_task (ds : List PyData) (d : PyData) : Prop := ∃ (p : Plan) (k : Int), ds = [p.toD] ∧ p.dep ≤ 8 ∧ p.tasks.length ≤ 900 ∧ k ∈ p.tasks ∧ (∀ y ∈ p.tasks, k ≤ y) ∧ d = .int k
theorem c_least_task (T : Txt K mg w) : C8.Cal P w K mg base 10 "least_task" (spR K R_least_task) [] := by
  refine cal_of T.least_task sc_least_task (fun _ _ _ _ _ _ us hl => match us, hl with | [_], _ => rfl) (fun ds d ⟨_, _, e, _⟩ => by rw [e]; rfl) ?_
  rintro f cdv A outer s H0 Ex hr ds d ⟨p, k, rfl, hd, hz, hk, hl, rfl⟩ E
  exact r_one (s_ret (d_minL rfl T.min (d_call (c_all_tasks T 8) hr (by omega) (a_cons (dv 0) a_nil) ⟨p, rfl, hd, by omega, rfl⟩) hk hl))
/-! places_of -/
abbrev n_places_of : List Str := ["plan", "first", "second", "places", "part", "row"]
theorem sc_places_of : FnScope n_places_of ["plan", "first", "second"] (defScope (top 16)) := ⟨rfl, rfl, rfl, by decide +kernel, rfl, by decide +kernel, by decide +kernel⟩
def R_places_of (ds : List PyData) (d : PyData) : Prop := ∃ (b : Bool) (ps : List Plan) (x y : Int), ds = [(Plan.node b ps).toD, .int x, .int y] ∧ depL ps ≤ 8 ∧ (tasksL ps).length ≤ 900 ∧ ps.length ≤ 900 ∧ x ∈ tasksL ps ∧ y ∈ tasksL ps ∧ d = .tuple [.int (idx x ps : Int), .int (idx y ps : Int)]
theorem idx_bs {t : Int} {ps : List Plan} (h : t ∈ tasksL ps) : (ps.map fun p => decide (t ∈ p.tasks))[idx t ps]? = some true ∧ ∀ m, m < idx t ps → (ps.map fun p => decide (t ∈ p.tasks))[m]? = some false := by
  obtain ⟨p, h1, h2⟩ := idx_at h
  refine ⟨by rw [List.getElem?_map, h1]; simp [h2], fun m hm => ?_⟩
  have hl := idx_lt h
  have e : ps[m]? = some ps[m] := List.getElem?_eq_getElem (by omega)
  rw [List.getElem?_map, e]
  have := idx_not hm e
  simp [this]
theorem c_places_of (T : Txt K mg w) : C8.Cal P w K mg base 10 "places_of" (spR K R_places_of) [] := by
  refine cal_of T.places_of sc_places_of (fun _ _ _ _ _ _ us hl => match us, hl with | [_, _, _], _ => rfl) (fun ds d ⟨_, _, _, _, e, _⟩ => by rw [e]; rfl) ?_
  rintro f cdv A outer s H0 Ex hr ds d ⟨b, ps, x, y, rfl, hd, hz, hl, hx, hy, rfl⟩ E
  unfold Plan.toD
  refine r_cons (s_lcT (T := T1 4) 3 [("part", 4)] rfl sc_places_of.nd (d_ixT (dv 0) di) (id (α := blkC n_places_of (defScope (top 16)) _ _ = true) (by decide +kernel)) (fun _ _ _ _ _ => pg_name sc_places_of.nd rfl (Or.inl rfl)) (tg1 (by decide)) (by rw [toDs_len]; omega) (es := ps.map fun p => .list (p.tasks.map .int)) ?_) ?_
  · rw [toDs_eq]
    exact lc_maps fun q hq => ⟨_, rfl, fun s H C cl fp => d_call (c_all_tasks T 8) hr (by omega) (a_cons (dv 4) a_nil) ⟨q, rfl, Nat.le_trans (dep_le hq) hd, Nat.le_trans (tasksL_mem hq) hz, rfl⟩⟩
  · have row : ∀ (t : Int) (i : Nat), True := fun _ _ => trivial
    refine r_one (s_ret (d_tup (a_cons (d_indexT (bs := ps.map fun p => decide (x ∈ p.tasks)) (d_lcL (T := T1 5) [("row", 5)] rfl sc_places_of.nd (dv 3) (id (α := blkC n_places_of (defScope (top 16)) _ _ = true) (by decide +kernel)) (fun _ _ _ _ _ => pg_name sc_places_of.nd rfl (Or.inl rfl)) (tg1 (by decide)) (by rw [List.length_map]; omega) ?a) (idx_bs hx).1 (idx_bs hx).2)
      (a_cons (d_indexT (bs := ps.map fun p => decide (y ∈ p.tasks)) (d_lcL (T := T1 5) [("row", 5)] rfl sc_places_of.nd (dv 3) (id (α := blkC n_places_of (defScope (top 16)) _ _ = true) (by decide +kernel)) (fun _ _ _ _ _ => pg_name sc_places_of.nd rfl (Or.inl rfl)) (tg1 (by decide)) (by rw [List.length_map]; omega) ?b) (idx_bs hy).1 (idx_bs hy).2) a_nil))))
    case a =>
      rw [List.map_map]
      exact lc_maps fun q hq => ⟨_, rfl, fun s H C cl fp => d_inL (dv 1) (dv 5) rfl (flat_ints _) rfl (inD_int _ _)⟩
    case b =>
      rw [List.map_map]
      exact lc_maps fun q hq => ⟨_, rfl, fun s H C cl fp => d_inL (dv 2) (dv 5) rfl (flat_ints _) rfl (inD_int _ _)⟩
end
end Tb

set_option maxHeartbeats 1000000
/-! plans.py: joint_of, relation_of; tables.py -/
namespace Tb
open PySem PySem.Spec PyProof.Rows
open L2
def testOf : Stmt → Expr
  | .While t _ _ _ => t
  | .If t _ _ _ => t
  | _ => .Constant .none 0 ⟨0, 0, 0, 0⟩
theorem toDs_at {ps : List Plan} {n : Nat} {p : Plan} (h : ps[n]? = some p) : atI (toDs ps) (n : Int) = some p.toD := atI_nat (by rw [toDs_eq, List.getElem?_map, h]; rfl)
section
variable {P : Program} {w : World} {K : PySem.W.Frag} {mg : Str → Option Value} {base : Heap}
abbrev n_joint_of : List Str := ["plan", "first", "second", "here", "places"]
theorem sc_joint_of : FnScope n_joint_of ["plan", "first", "second"] (defScope (top 17)) := ⟨rfl, rfl, rfl, by decide +kernel, rfl, by decide +kernel, by decide +kernel⟩
def R_joint_of (ds : List PyData) (d : PyData) : Prop := ∃ (p : Plan) (x y : Int), ds = [p.toD, .int x, .int y] ∧ x ≠ y ∧ p.sz ≤ 8 ∧ x ∈ p.tasks ∧ y ∈ p.tasks ∧ d = (p.joint x y).toD
def plc (x y : Int) : Plan → PyData
  | .task _ => .none
  | .node _ ps => .tuple [.int (idx x ps : Int), .int (idx y ps : Int)]
theorem is_node {p : Plan} {x y : Int} (h : x ≠ y) (hx : x ∈ p.tasks) (hy : y ∈ p.tasks) : ∃ b ps, p = .node b ps := by
  cases p with
  | task m =>
    simp only [Plan.tasks, List.mem_singleton] at hx hy
    exact absurd (hx.trans hy.symm) h
  | node b ps => exact ⟨b, ps, rfl⟩
theorem R_places {b : Bool} {ps : List Plan} {x y : Int} (hz : (Plan.node b ps).sz ≤ 8) (hx : x ∈ tasksL ps) (hy : y ∈ tasksL ps) : R_places_of [(Plan.node b ps).toD, .int x, .int y] (plc x y (.node b ps)) := by
  unfold Plan.sz at hz
  have h1 := depL_sz ps
  have h2 := tasksL_sz ps
  have h3 := len_szL ps
  exact ⟨b, ps, x, y, rfl, by omega, by omega, by omega, hx, hy, rfl⟩
theorem c_joint_of (T : Txt K mg w) : C8.Cal P w K mg base 11 "joint_of" (spR K R_joint_of) [] := by
  refine cal_of T.joint_of sc_joint_of (fun _ _ _ _ _ _ us hl => match us, hl with | [_, _, _], _ => rfl) (fun ds d ⟨_, _, _, e, _⟩ => by rw [e]; rfl) ?_
  rintro f cdv A outer s H0 Ex hr ds d ⟨p, x, y, rfl, hxy, hz, hx, hy, rfl⟩ E
  have turn : ∀ (n : Nat) (q : Plan), q.dep ≤ n → q.sz ≤ 8 → x ∈ q.tasks → y ∈ q.tasks →
      WLoop (CxD P w K mg base n_joint_of "joint_of" (top 17) f cdv A outer s H0 Ex) E (testOf (stm 17 2)) (bodyOf (stm 17 2)) n [.dat p.toD, .dat (.int x), .dat (.int y), .dat q.toD, .dat (plc x y q)] (.next [.dat p.toD, .dat (.int x), .dat (.int y), .dat (q.joint x y).toD, .dat (plc x y (q.joint x y))]) := by
    intro n
    induction n with
    | zero =>
      intro q hd hz hx hy
      obtain ⟨b, ps, rfl⟩ := is_node hxy hx hy
      unfold Plan.dep at hd
      omega
    | succ n ih =>
      intro q hd hz hx hy
      obtain ⟨b, ps, rfl⟩ := is_node hxy hx hy
      unfold Plan.tasks at hx hy
      unfold Plan.dep at hd
      by_cases h : idx x ps = idx y ps
      · obtain ⟨q', hq, hxq⟩ := idx_at hx
        obtain ⟨q2, hq2, hyq⟩ := idx_at hy
        rw [← h, hq] at hq2
        cases hq2
        have hm := List.mem_of_getElem? hq
        have h1 := dep_le hm
        have h2 := sz_mem hm
        have hz' := hz
        unfold Plan.sz at hz'
        have ej : (Plan.node b ps).joint x y = q'.joint x y := by
          rw [Plan.joint, if_pos h, jointAt_eq x y ps _ q' hq]
        rw [ej]
        obtain ⟨b', ps', rfl⟩ := is_node hxy hxq hyq
        refine .turn (t_eq (d_ixT (dv 4) di) (d_ixT (dv 4) di) (by rw [h]; simp [eqF])) (r_cons (s_set 3 sc_joint_of.nd (d_ixT (d_ixT (dv 3) di) (d_ixT (dv 4) di) (toDs_at hq))) (r_one (s_set 4 sc_joint_of.nd (d_call (c_places_of T) hr (by omega) (a_cons (dv 3) (a_cons (dv 1) (a_cons (dv 2) a_nil))) (R_places (by omega) hxq hyq))))) (ih _ (by omega) (by omega) hxq hyq)
      · have ej : (Plan.node b ps).joint x y = .node b ps := by rw [Plan.joint, if_neg h]
        rw [ej]
        exact .stop (t_eq (d_ixT (dv 4) di) (d_ixT (dv 4) di) (by
          show some (decide ((idx x ps : Int) = (idx y ps : Int))) = some false
          rw [decide_eq_false (by omega)]))
  obtain ⟨b, ps, rfl⟩ := is_node hxy hx hy
  refine r_cons (s_set 3 sc_joint_of.nd (dv 0)) (r_cons (s_set 4 sc_joint_of.nd (d_call (c_places_of T) hr (by omega) (a_cons (dv 3) (a_cons (dv 1) (a_cons (dv 2) a_nil))) (R_places hz hx hy))) ?_)
  exact r_cons (s_while .never (turn _ _ (Nat.le_refl _) hz hx hy)) (r_one (s_ret (dv 3)))
theorem sc_relation_of : FnScope ["plan", "first", "second", "here", "places"] ["plan", "first", "second"] (defScope (top 18)) := ⟨rfl, rfl, rfl, by decide +kernel, rfl, by decide +kernel, by decide +kernel⟩
def R_relation_of (ds : List PyData) (d : PyData) : Prop := ∃ (p : Plan) (x y : Int), ds = [p.toD, .int x, .int y] ∧ x ≠ y ∧ p.sz ≤ 8 ∧ x ∈ p.tasks ∧ y ∈ p.tasks ∧ d = .str (p.rel x y).s
theorem c_relation_of (T : Txt K mg w) : C8.Cal P w K mg base 12 "relation_of" (spR K R_relation_of) [] := by
  refine cal_of T.relation_of sc_relation_of (fun _ _ _ _ _ _ us hl => match us, hl with | [_, _, _], _ => rfl) (fun ds d ⟨_, _, _, e, _⟩ => by rw [e]; rfl) ?_
  rintro f cdv A outer s H0 Ex hr ds d ⟨p, x, y, rfl, hxy, hz, hx, hy, rfl⟩ E
  obtain ⟨b, ps, e1, e2, e3, e4, e5, e6, e7⟩ := (joint_ok hxy p.dep p (Nat.le_refl _) hx hy).ex
  refine r_cons (s_set 3 sc_relation_of.nd (d_call (c_joint_of T) hr (by omega) (a_cons (dv 0) (a_cons (dv 1) (a_cons (dv 2) a_nil))) ⟨p, x, y, rfl, hxy, hz, hx, hy, rfl⟩)) ?_
  rw [e1, e7]
  cases b with
  | false => exact r_ret (s_ifT (t_eq (d_ixT (dv 3) di) ds (by decide +kernel)) (r_one (s_ret ds)))
  | true =>
    refine r_cons (s_ifF (t_eq (d_ixT (dv 3) di) ds (by decide +kernel)) r_nil) ?_
    refine r_cons (s_set 4 sc_relation_of.nd (d_call (c_places_of T) hr (by omega) (a_cons (dv 3) (a_cons (dv 1) (a_cons (dv 2) a_nil))) (R_places (b := true) (by unfold Plan.sz; omega) e3 e4))) ?_
    by_cases h : idx x ps < idx y ps
    · rw [if_pos rfl, if_pos h]
      exact r_one (s_ret (d_ifT (t_lt (d_ixT (dv 4) di) (d_ixT (dv 4) di) (decide_eq_true (by omega))) ds))
    · rw [if_pos rfl, if_neg h]
      exact r_one (s_ret (d_ifF (t_lt (d_ixT (dv 4) di) (d_ixT (dv 4) di) (decide_eq_false (by omega))) ds))
end
end Tb

set_option maxHeartbeats 1000000
/-! tables.py, rules.py -/
namespace Tb
open PySem PySem.Spec PyProof.Rows
open L2
def isI : PyData → Bool
  | .int _ => true
  | _ => false
def isTask : PyData → Int → Bool
  | .int i, n => decide (0 ≤ i) && decide (i < n)
  | _, _ => false
theorem s_inj (x y : R4) : decide (x.s = y.s) = decide (x = y) := by cases x <;> cases y <;> decide +kernel
theorem inD_str (x : R4) : ∀ a : List R4, inD (.str x.s) (rD a) = decide (x ∈ a)
  | [] => rfl
  | y :: a => by
    have ih := inD_str x a
    unfold inD rD at ih ⊢
    rw [List.map_cons, List.any_cons, ih]
    have e : PyData.eqv (.str y.s) (.str x.s) = decide (y = x) := by
      show (y.s == x.s) = _
      rw [← s_inj y x]
      rfl
    rw [e]
    by_cases h : x = y
    · subst h; simp
    · have h' : ¬ y = x := fun e => h e.symm
      simp [h, h']
theorem flat_rD : ∀ a : List R4, (rD a).all flatD = true
  | [] => rfl
  | y :: a => by unfold rD; rw [List.map_cons, List.all_cons]; exact flat_rD a
theorem eqvAll_rD : ∀ a : List R4, PyData.eqvAll (rD a) (rD a) = true
  | [] => rfl
  | x :: a => by
    show (PyData.eqv (.str x.s) (.str x.s) && PyData.eqvAll (rD a) (rD a)) = true
    rw [eqvAll_rD a, Bool.and_true]
    exact beq_self_eq_true _
theorem strOk_s (x : R4) : PyData.strOk x.s = true := by cases x <;> decide +kernel
theorem canLay_rD : ∀ a : List R4, PyData.canLayAll0 (rD a) = true
  | [] => rfl
  | x :: a => by show (PyData.strOk x.s && PyData.canLayAll0 (rD a)) = true; rw [canLay_rD a, strOk_s]; rfl
theorem depth_rD : ∀ a : List R4, PyData.depthAll (rD a) = 0
  | [] => rfl
  | x :: a => by show max 0 (PyData.depthAll (rD a)) = 0; rw [depth_rD a]; rfl
theorem shaped_rD (a : List R4) : SeqAt.shaped (.tuple (rD a)) = true := by
  unfold SeqAt.shaped
  have e1 : (PyData.tuple (rD a)).canLay0 = true := canLay_rD a
  have e2 : (PyData.tuple (rD a)).depth = 1 := by show PyData.depthAll (rD a) + 1 = 1; rw [depth_rD]
  rw [e1, e2]; rfl
theorem REL_eq : tStrs ["before", "beside", "after"] = .tuple (rD R3) := rfl
section
variable {P : Program} {w : World} {K : PySem.W.Frag} {mg : Str → Option Value} {base : Heap}
section
variable {X : Cx} {E : Hp × Hp} {γ : List Slot} {pos p : Pos} {b : Expr}
theorem d_opp {a : Addr} {r : R4} (hm : X.mg "OPPOSITES" = some (.ref a)) (hk : ∀ r : R4, KDct X.K X.w a r.s (.str r.opp.s)) (hb : PD X E γ b (.str r.s)) (hg : Gl X "OPPOSITES" := by rfl) (hs : PlainIx b := by exact fun _ _ => rfl) : PD X E γ (.Subscript (.Name "OPPOSITES" p) b pos) (.str r.opp.s) :=
  (pe_ix ix_kdict (pe_glob (v := .ref a) hg hm rfl (by decide)) hb hs).weak fun σ H Q ⟨B, s, q⟩ => ⟨B, s, fun v B1 H1 g1 y => by
    cases y
    exact ⟨a, r.s, .str r.opp.s, rfl, rfl, hk r, q _ B1 H1 g1 (.str _)⟩⟩
end
theorem sc_opposite : FnScope ["relation"] ["relation"] (defScope (top 23)) := ⟨rfl, rfl, rfl, by decide +kernel, rfl, by decide +kernel, by decide +kernel⟩
theorem c_opposite (T : Txt K mg w) : C8.Cal P w K mg base 1 "opposite" (spR K fun ds d => ∃ r : R4, ds = [.str r.s] ∧ d = .str r.opp.s) [] := by
  refine cal_of T.opposite sc_opposite (fun _ _ _ _ _ _ us hl => match us, hl with | [_], _ => rfl) (fun ds d ⟨_, e, _⟩ => by rw [e]; rfl) ?_
  rintro f cdv A outer s H0 Ex hr ds d ⟨r, rfl, rfl⟩ E
  obtain ⟨a, ha, hk⟩ := T.OPPOSITES
  exact r_one (s_ret (d_opp ha hk (dv 0)))
theorem sc_is_integer1 : FnScope ["value"] ["value"] (defScope (top 21)) := ⟨rfl, rfl, rfl, by decide +kernel, rfl, by decide +kernel, by decide +kernel⟩
theorem c_is_integer1 (T : Txt K mg w) : C8.Cal P w K mg base 1 "is_integer_tables" (spR K fun ds d => ∃ v, ds = [v] ∧ d = .bool (isI v)) [] := by
  refine cal_of T.is_integer_tables sc_is_integer1 (fun _ _ _ _ _ _ us hl => match us, hl with | [_], _ => rfl) (fun ds d ⟨_, e, _⟩ => by rw [e]; rfl) ?_
  rintro f cdv A outer s H0 Ex hr ds d ⟨v, rfl, rfl⟩ E
  refine r_one (s_ret ?_)
  cases v with
  | int i => exact d_andT (d_isInt T.isinstance T.int (dv 0)) (d_one (d_not (d_isBool T.isinstance T.bool (dv 0))))
  | bool b => exact d_andT (d_isInt T.isinstance T.int (dv 0)) (d_one (d_not (d_isBool T.isinstance T.bool (dv 0))))
  | _ => exact d_andF (d_isInt T.isinstance T.int (dv 0))
theorem sc_is_integer2 : FnScope ["value"] ["value"] (defScope (top 29)) := ⟨rfl, rfl, rfl, by decide +kernel, rfl, by decide +kernel, by decide +kernel⟩
theorem c_is_integer2 (T : Txt K mg w) : C8.Cal P w K mg base 1 "is_integer_rules" (spR K fun ds d => ∃ v, ds = [v] ∧ d = .bool (isI v)) [] := by
  refine cal_of T.is_integer_rules sc_is_integer2 (fun _ _ _ _ _ _ us hl => match us, hl with | [_], _ => rfl) (fun ds d ⟨_, e, _⟩ => by rw [e]; rfl) ?_
  rintro f cdv A outer s H0 Ex hr ds d ⟨v, rfl, rfl⟩ E
  refine r_one (s_ret ?_)
  cases v with
  | int i => exact d_andT (d_isInt T.isinstance T.int (dv 0)) (d_one (d_not (d_isBool T.isinstance T.bool (dv 0))))
  | bool b => exact d_andT (d_isInt T.isinstance T.int (dv 0)) (d_one (d_not (d_isBool T.isinstance T.bool (dv 0))))
  | _ => exact d_andF (d_isInt T.isinstance T.int (dv 0))
/-! is_chosen, of sets -/
/-- ascending tasks below n -/
structure IsSet (n : Nat) (l : List Int) : Prop where
  asc : l.Pairwise (· < ·)
  lo : ∀ x ∈ l, 0 ≤ x
  hi : ∀ x ∈ l, x < (n : Int)
  len : l.length ≤ 8
theorem all_true {α : Type} : ∀ l : List α, (l.all fun _ => true) = true
  | [] => rfl
  | _ :: l => by rw [List.all_cons, all_true l]; rfl
theorem ints_at {l : List Int} {i : Nat} {x : Int} (h : l[i]? = some x) : atI (l.map PyData.int) (i : Int) = some (.int x) := atI_nat (by rw [List.getElem?_map, h]; rfl)
abbrev n_is_chosen : List Str := ["value", "size", "one", "at"]
theorem sc_is_chosen : FnScope n_is_chosen ["value", "size"] (defScope (top 24)) := ⟨rfl, rfl, rfl, by decide +kernel, rfl, by decide +kernel, by decide +kernel⟩
def R_is_set (ds : List PyData) (d : PyData) : Prop := ∃ (l : List Int) (n : Nat), ds = [.tuple (l.map .int), .int (n : Int)] ∧ IsSet n l ∧ l ≠ [] ∧ d = .bool true
theorem c_is_chosen (T : Txt K mg w) : C8.Cal P w K mg base 2 "is_chosen" (spR K R_is_set) [] := by
  refine cal_of T.is_chosen sc_is_chosen (fun _ _ _ _ _ _ us hl => match us, hl with | [_, _], _ => rfl) (fun ds d ⟨_, _, e, _⟩ => by rw [e]; rfl) ?_
  rintro f cdv A outer s H0 Ex hr ds d ⟨l, n, rfl, h, hne, rfl⟩ E
  have hlen := h.len
  have hpos : 1 ≤ l.length := List.length_pos_iff.mpr hne
  refine r_cons (s_ifF (PW.pt (t_orF (t_not (t_val (d_isTup T.isinstance T.tuple (dv 0)))) (t_or1 (t_not (t_val (d_allM (ps := l) (b := fun _ => true) rfl T.all (d_lcT (T := T1 2) [("one", 2)] rfl sc_is_chosen.nd (dv 0) (id (α := blkC n_is_chosen (defScope (top 24)) _ _ = true) (by decide +kernel)) (fun _ _ _ _ _ => pg_name sc_is_chosen.nd rfl (Or.inl rfl)) (tg1 (by decide)) (by rw [List.length_map]; omega) (lc_maps fun x hx => ⟨_, rfl, fun s H C cl fp =>
    d_andT (d_call (c_is_integer1 T) hr (by omega) (a_cons (dv 2) a_nil) ⟨_, rfl, rfl⟩) (d_one (d_chainLT di (dv 2) (dv 1) (by with_unfolding_all rfl) ?t1))⟩)) rfl rfl (all_true l))))))) r_nil) ?_
  · rw [decide_eq_true (h.lo x hx), decide_eq_true (h.hi x hx)]; rfl
  · refine r_one (s_ret (d_allM (ps := List.range (l.length - 1)) (b := fun _ => true) rfl T.all (d_lcR (T := T1 3) [("at", 3)] (n := l.length - 1) rfl sc_is_chosen.nd T.range (d_sub (d_len T.len (dv 0) rfl) di (by rw [List.length_map]; omega)) (by omega) (id (α := blkC n_is_chosen (defScope (top 24)) _ _ = true) (by decide +kernel)) (fun _ _ _ _ _ => pg_name sc_is_chosen.nd rfl (Or.inl rfl)) (tg1 (by decide)) (lc_maps fun i hi => ?_)) rfl rfl (all_true _)))
    have hi' : i < l.length - 1 := List.mem_range.mp hi
    have e1 : l[i]? = some (l[i]'(by omega)) := List.getElem?_eq_getElem _
    have e2 : l[i + 1]? = some (l[i + 1]'(by omega)) := List.getElem?_eq_getElem _
    refine ⟨_, rfl, fun s H C cl fp => d_lt (d_ixT (dv 0) (dv 3) (ints_at e1)) (d_ixT (dv 0) (d_add (dv 3) di) (ints_at (i := i + 1) e2)) (decide_eq_true ?_)⟩
    exact List.pairwise_iff_getElem.mp h.asc i (i + 1) (by omega) (by omega) (by omega)
end
end Tb

set_option maxHeartbeats 1000000
/-! rules.py -/
namespace Tb
open PySem PySem.Spec PyProof.Rows
open L2
section
variable {P : Program} {w : World} {K : PySem.W.Frag} {mg : Str → Option Value} {base : Heap}
theorem sc_is_task : FnScope ["value", "size"] ["value", "size"] (defScope (top 31)) := ⟨rfl, rfl, rfl, by decide +kernel, rfl, by decide +kernel, by decide +kernel⟩
theorem c_is_task (T : Txt K mg w) : C8.Cal P w K mg base 2 "is_task" (spR K fun ds d => ∃ v n, ds = [v, .int n] ∧ d = .bool (isTask v n)) [] := by
  refine cal_of T.is_task sc_is_task (fun _ _ _ _ _ _ us hl => match us, hl with | [_, _], _ => rfl) (fun ds d ⟨_, _, e, _⟩ => by rw [e]; rfl) ?_
  rintro f cdv A outer s H0 Ex hr ds d ⟨v, n, rfl, rfl⟩ E
  refine r_one (s_ret ?_)
  cases v with
  | int i => exact d_andT (d_call (c_is_integer2 T) hr (by omega) (a_cons (dv 0) a_nil) ⟨_, rfl, rfl⟩) (d_one (d_chainLT di (dv 0) (dv 1)))
  | _ => exact d_andF (d_call (c_is_integer2 T) hr (by omega) (a_cons (dv 0) a_nil) ⟨_, rfl, rfl⟩)
abbrev n_is_allowed : List Str := ["value", "one"]
theorem sc_is_allowed : FnScope n_is_allowed ["value"] (defScope (top 32)) := ⟨rfl, rfl, rfl, by decide +kernel, rfl, by decide +kernel, by decide +kernel⟩
theorem c_is_allowed (T : Txt K mg w) : C8.Cal P w K mg base 1 "is_allowed" (spR K fun ds d => ∃ al : List R4, ds = [.tuple (rD al)] ∧ al ≠ [] ∧ R3.filter (fun x => decide (x ∈ al)) = al ∧ d = .bool true) [] := by
  refine cal_of T.is_allowed sc_is_allowed (fun _ _ _ _ _ _ us hl => match us, hl with | [_], _ => rfl) (fun ds d ⟨_, e, _⟩ => by rw [e]; rfl) ?_
  rintro f cdv A outer s H0 Ex hr ds d ⟨al, rfl, hne, ho, rfl⟩ E
  have hlen : al.length ≤ 3 := by rw [← ho]; exact Nat.le_trans (List.length_filter_le _ _) (by decide)
  refine r_cons (s_ifF (PW.pt (t_orF (t_not (t_val (d_isTup T.isinstance T.tuple (dv 0)))) (t_orF (t_not (t_truT (dv 0) (k_ := true) (hk_ := ?t0))) (t_or1 (t_not (t_val (d_allM (ps := al) (b := fun _ => true) rfl T.all (d_lcT (T := T1 1) [("one", 1)] rfl sc_is_allowed.nd (dv 0) (id (α := blkC n_is_allowed (defScope (top 32)) _ _ = true) (by decide +kernel)) (fun _ _ _ _ _ => pg_name sc_is_allowed.nd rfl (Or.inl rfl)) (tg1 (by decide)) (by rw [List.length_map]; omega) (lc_maps fun x hx => ⟨_, rfl, fun s H C cl fp =>
    d_isStr T.isinstance T.str (dv 1)⟩)) rfl rfl (all_true al)))))))) r_nil) ?_
  · cases al with
    | nil => exact absurd rfl hne
    | cons _ _ => rfl
  · refine r_one (s_ret (d_eqD (d2 := .tuple (rD al)) hr.units (dv 0) (d_tuple T.tuple (l := rD al) (d_lcT (T := T1 1) (es := rD al) [("one", 1)] rfl sc_is_allowed.nd (dg T.RELATIONS) (id (α := blkC n_is_allowed (defScope (top 32)) _ _ = true) (by decide +kernel)) (fun _ _ _ _ _ => pg_name sc_is_allowed.nd rfl (Or.inl rfl)) (tg1 (by decide)) (by decide) ?lc)) (shaped_rD al) (shaped_rD al) (eqvAll_rD al)))
    case lc =>
      have e : rD al = (R3.filter fun x => decide (x ∈ al)).map fun x => .str x.s := by rw [ho]; rfl
      refine Lc.is ?_ e.symm
      exact lc_filterE R3 (fun x => decide (x ∈ al)) (fun x => .str x.s) (fun x => .str x.s) fun x hx => ⟨_, rfl, fun s H C cl fp => t_inT (dv 1) (dv 0) rfl (flat_rD al) rfl (inD_str x al), fun _ s H C cl fp => dv 1⟩
theorem sc_is_rule : FnScope ["value", "size"] ["value", "size"] (defScope (top 33)) := ⟨rfl, rfl, rfl, by decide +kernel, rfl, by decide +kernel, by decide +kernel⟩
theorem c_is_rule (T : Txt K mg w) : C8.Cal P w K mg base 3 "is_rule" (spR K fun ds d => ∃ (r : Rule) (n : Nat), ds = [r.toD, .int (n : Int)] ∧ r.ok n ∧ d = .bool true) [] := by
  refine cal_of T.is_rule sc_is_rule (fun _ _ _ _ _ _ us hl => match us, hl with | [_, _], _ => rfl) (fun ds d ⟨_, _, e, _⟩ => by rw [e]; rfl) ?_
  rintro f cdv A outer s H0 Ex hr ds d ⟨r, n, rfl, h, rfl⟩ E
  unfold Rule.toD
  have ta : isTask (.int r.a) (n : Int) = true := by show (decide (0 ≤ r.a) && decide (r.a < (n : Int))) = true; rw [decide_eq_true h.a0, decide_eq_true h.an]; rfl
  have tb : isTask (.int r.b) (n : Int) = true := by show (decide (0 ≤ r.b) && decide (r.b < (n : Int))) = true; rw [decide_eq_true h.b0, decide_eq_true h.bn]; rfl
  refine r_cons (s_ifF (PW.pt (t_orF (t_not (t_val (d_isTup T.isinstance T.tuple (dv 0)))) (t_orF (t_ne (d_len T.len (dv 0)) di) (t_orF (t_not (t_val (d_call (c_is_task T) hr (by omega) (a_cons (d_ixT (dv 0) di) (a_cons (dv 1) a_nil)) ⟨_, _, rfl, rfl⟩)) (congrArg not ta))
    (t_or1 (t_not (t_val (d_call (c_is_task T) hr (by omega) (a_cons (d_ixT (dv 0) di) (a_cons (dv 1) a_nil)) ⟨_, _, rfl, rfl⟩)) (congrArg not tb))))))) r_nil) ?_
  exact r_one (s_ret (d_andT (d_ne (d_ixT (dv 0) di) (d_ixT (dv 0) di) (k := false) (by show some (decide (r.a = r.b)) = _; rw [decide_eq_false h.ne])) (d_one (d_call (c_is_allowed T) hr (by omega) (a_cons (d_ixT (dv 0) di) a_nil) ⟨r.al, rfl, h.al, h.ord, rfl⟩))))
theorem sc_is_size : FnScope ["value"] ["value"] (defScope (top 34)) := ⟨rfl, rfl, rfl, by decide +kernel, rfl, by decide +kernel, by decide +kernel⟩
theorem c_is_size (T : Txt K mg w) : C8.Cal P w K mg base 2 "is_size" (spR K fun ds d => ∃ n : Nat, ds = [.int (n : Int)] ∧ 1 ≤ n ∧ n ≤ 7 ∧ d = .bool true) [] := by
  refine cal_of T.is_size sc_is_size (fun _ _ _ _ _ _ us hl => match us, hl with | [_], _ => rfl) (fun ds d ⟨_, e, _⟩ => by rw [e]; rfl) ?_
  rintro f cdv A outer s H0 Ex hr ds d ⟨n, rfl, h1, h7, rfl⟩ E
  refine r_one (s_ret (d_andT (d_call (c_is_integer2 T) hr (by omega) (a_cons (dv 0) a_nil) ⟨_, rfl, rfl⟩) (d_one (d_chainLE di (dv 0) (dg T.MOST_TASKS_rules) (by with_unfolding_all rfl) ?_))))
  rw [decide_eq_true (show (1 : Int) ≤ (n : Int) by omega), decide_eq_true (show (n : Int) ≤ 7 by omega)]; rfl
/-- a problem of ours -/
structure Prob (n : Nat) (rs : List Rule) : Prop where
  n1 : 1 ≤ n
  n4 : n ≤ 4
  len : rs.length ≤ 20
  ok : ∀ r ∈ rs, r.ok n
abbrev n_is_problem : List Str := ["value", "rule"]
theorem sc_is_problem : FnScope n_is_problem ["value"] (defScope (top 35)) := ⟨rfl, rfl, rfl, by decide +kernel, rfl, by decide +kernel, by decide +kernel⟩
theorem c_is_problem (T : Txt K mg w) : C8.Cal P w K mg base 4 "is_problem" (spR K fun ds d => ∃ (n : Nat) (rs : List Rule), ds = [probD n rs] ∧ Prob n rs ∧ d = .bool true) [] := by
  refine cal_of T.is_problem sc_is_problem (fun _ _ _ _ _ _ us hl => match us, hl with | [_], _ => rfl) (fun ds d ⟨_, _, e, _⟩ => by rw [e]; rfl) ?_
  rintro f cdv A outer s H0 Ex hr ds d ⟨n, rs, rfl, h, rfl⟩ E
  unfold probD rsD
  have h1 := h.n1
  have h4 := h.n4
  have hl := h.len
  refine r_cons (s_ifF (PW.pt (t_orF (t_not (t_val (d_isTup T.isinstance T.tuple (dv 0)))) (t_orF (t_ne (d_len T.len (dv 0)) di) (t_orF (t_not (t_val (d_call (c_is_size T) hr (by omega) (a_cons (d_ixT (dv 0) di) a_nil) ⟨n, rfl, h1, by omega, rfl⟩)))
    (t_or1 (t_not (t_val (d_isTup T.isinstance T.tuple (d_ixT (dv 0) di))))))))) r_nil) ?_
  exact r_one (s_ret (d_andT (d_le (d_len T.len (d_ixT (dv 0) di) rfl) (dg T.MOST_RULES) (decide_eq_true (by rw [List.length_map]; omega))) (d_one (d_allM (ps := rs) (b := fun _ => true) rfl T.all (d_lcT (T := T1 1) [("rule", 1)] rfl sc_is_problem.nd (d_ixT (dv 0) di) (id (α := blkC n_is_problem (defScope (top 35)) _ _ = true) (by decide +kernel)) (fun _ _ _ _ _ => pg_name sc_is_problem.nd rfl (Or.inl rfl)) (tg1 (by decide)) (by rw [List.length_map]; omega) (lc_maps fun r hrr => ⟨_, rfl, fun s H C cl fp =>
    d_call (c_is_rule T) hr (by omega) (a_cons (dv 1) (a_cons (d_ixT (dv 0) di) a_nil)) ⟨r, n, rfl, h.ok r hrr, rfl⟩⟩)) rfl rfl (all_true rs)))))
abbrev n_opposites : List Str := ["relations", "found", "one"]
theorem sc_opposites : FnScope n_opposites ["relations"] (defScope (top 36)) := ⟨rfl, rfl, rfl, by decide +kernel, rfl, by decide +kernel, by decide +kernel⟩
theorem c_opposites (T : Txt K mg w) : C8.Cal P w K mg base 2 "opposites" (spR K fun ds d => ∃ al : List R4, ds = [.tuple (rD al)] ∧ al.length ≤ 100 ∧ d = .tuple (rD (opps al))) [] := by
  refine cal_of T.opposites sc_opposites (fun _ _ _ _ _ _ us hl => match us, hl with | [_], _ => rfl) (fun ds d ⟨_, e, _⟩ => by rw [e]; rfl) ?_
  rintro f cdv A outer s H0 Ex hr ds d ⟨al, rfl, hl, rfl⟩ E
  refine r_cons (s_set 1 sc_opposites.nd (d_lcT (T := T1 2) (es := (al.map R4.opp).map fun x => .str x.s) [("one", 2)] rfl sc_opposites.nd (dv 0) (id (α := blkC n_opposites (defScope (top 36)) _ _ = true) (by decide +kernel)) (fun _ _ _ _ _ => pg_name sc_opposites.nd rfl (Or.inl rfl)) (tg1 (by decide)) (by unfold rD; rw [List.length_map]; omega) ?l1)) ?_
  case l1 =>
    rw [List.map_map]
    exact lc_maps fun x hx => ⟨_, rfl, fun s H C cl fp => d_call (c_opposite T) hr (by omega) (a_cons (dv 2) a_nil) ⟨x, rfl, rfl⟩⟩
  · refine r_one (s_ret (d_tuple T.tuple (l := rD (opps al)) (d_lcT (T := T1 2) (es := rD (opps al)) [("one", 2)] rfl sc_opposites.nd (dg T.RELATIONS) (id (α := blkC n_opposites (defScope (top 36)) _ _ = true) (by decide +kernel)) (fun _ _ _ _ _ => pg_name sc_opposites.nd rfl (Or.inl rfl)) (tg1 (by decide)) (by decide) ?l2)))
    case l2 => exact lc_filterE R3 (fun x => decide (x ∈ al.map R4.opp)) (fun x => .str x.s) (fun x => .str x.s) fun x hx => ⟨_, rfl, fun s H C cl fp => t_inL (dv 2) (dv 1) rfl (flat_rD _) rfl (inD_str x _), fun _ s H C cl fp => dv 2⟩
/-! allowed_of -/
abbrev n_allowed_of : List Str := ["problem", "first", "second", "found", "rule", "one"]
theorem sc_allowed_of : FnScope n_allowed_of ["problem", "first", "second"] (defScope (top 37)) := ⟨rfl, rfl, rfl, by decide +kernel, rfl, by decide +kernel, by decide +kernel⟩
def R_allowed_of (ds : List PyData) (d : PyData) : Prop := ∃ (n : Nat) (rs : List Rule) (x y : Int), ds = [probD n rs, .int x, .int y] ∧ rs.length ≤ 100 ∧ (∀ r ∈ rs, r.al.length ≤ 3) ∧ d = .tuple (rD (alw rs x y))
theorem filter_len {p : R4 → Bool} {f : List R4} (h : f.length ≤ 3) : (f.filter p).length ≤ 3 := Nat.le_trans (List.length_filter_le _ _) h
theorem c_allowed_of (T : Txt K mg w) : C8.Cal P w K mg base 3 "allowed_of" (spR K R_allowed_of) [] := by
  refine cal_of T.allowed_of sc_allowed_of (fun _ _ _ _ _ _ us hl => match us, hl with | [_, _, _], _ => rfl) (fun ds d ⟨_, _, _, _, e, _⟩ => by rw [e]; rfl) ?_
  rintro f cdv A outer s H0 Ex hr ds d ⟨n, rs, x, y, rfl, hl, ha, rfl⟩ E
  have lp : ∀ (qs : List Rule) (fo : List R4) (s4 : Slot), fo.length ≤ 3 → (∀ r ∈ qs, r.al.length ≤ 3) → ∃ s4',
      Loop (CxD P w K mg base n_allowed_of "allowed_of" (top 37) f cdv A outer s H0 Ex) E (T1 4) (bodyOf (stm 37 1)) (rsD qs) [.dat (probD n rs), .dat (.int x), .dat (.int y), .dat (.tuple (rD fo)), s4, .no] (.next [.dat (probD n rs), .dat (.int x), .dat (.int y), .dat (.tuple (rD (qs.foldl (stepR x y) fo))), s4', .no]) := by
    intro qs
    induction qs with
    | nil => intro fo s4 _ _; exact ⟨s4, .nil⟩
    | cons r qs ih =>
      intro fo s4 hf hq
      have hA : (stepA x y fo r).length ≤ 3 := by unfold stepA; split; exact filter_len hf; exact hf
      have hB : (stepR x y fo r).length ≤ 3 := by unfold stepR stepB; split; exact filter_len hA; exact hA
      obtain ⟨s4', k⟩ := ih (stepR x y fo r) (.dat r.toD) hB fun r' h' => hq r' (List.mem_cons_of_mem _ h')
      refine ⟨s4', .next rfl (r_cons (γ1 := [.dat (probD n rs), .dat (.int x), .dat (.int y), .dat (.tuple (rD (stepA x y fo r))), .dat r.toD, .no]) ?i1 (r_one ?i2)) k⟩
      case i1 =>
        unfold stepA
        by_cases h1 : r.a = x
        · by_cases h2 : r.b = y
          · rw [if_pos ⟨h1, h2⟩]
            refine s_ifT (PW.pt (t_andT (t_eq (d_ixT (dv 4) di) (dv 1) (by show some (decide (r.a = x)) = _; rw [decide_eq_true h1])) (t_and1 (t_eq (d_ixT (dv 4) di) (dv 2) (by show some (decide (r.b = y)) = _; rw [decide_eq_true h2]))))) (r_one (s_set 3 sc_allowed_of.nd (d_tuple T.tuple (d_lcT (T := T1 5) [("one", 5)] rfl sc_allowed_of.nd (dv 3) (id (α := blkC n_allowed_of (defScope (top 37)) _ _ = true) (by decide +kernel)) (fun _ _ _ _ _ => pg_name sc_allowed_of.nd rfl (Or.inl rfl)) (tg1 (by decide)) (by unfold rD; rw [List.length_map]; omega) (lc_filterE fo (fun z => decide (z ∈ r.al)) (fun x => .str x.s) (fun x => .str x.s) fun x hx => ⟨_, rfl, fun s H C cl fp => t_inT (dv 5) (d_ixT (dv 4) di) rfl (flat_rD _) rfl (inD_str x _), fun _ s H C cl fp => dv 5⟩)))))
          · rw [if_neg fun z => h2 z.2]
            exact s_ifF (PW.pt (t_andT (t_eq (d_ixT (dv 4) di) (dv 1) (by show some (decide (r.a = x)) = _; rw [decide_eq_true h1])) (t_and1 (t_eq (d_ixT (dv 4) di) (dv 2) (by show some (decide (r.b = y)) = _; rw [decide_eq_false h2]))))) r_nil
        · rw [if_neg fun z => h1 z.1]
          exact s_ifF (PW.pt (t_andF (t_eq (d_ixT (dv 4) di) (dv 1) (by show some (decide (r.a = x)) = _; rw [decide_eq_false h1])))) r_nil
      case i2 =>
        unfold stepR stepB
        generalize stepA x y fo r = fo1 at hA ⊢
        by_cases h1 : r.a = y
        · by_cases h2 : r.b = x
          · rw [if_pos ⟨h1, h2⟩]
            refine s_ifT (PW.pt (t_andT (t_eq (d_ixT (dv 4) di) (dv 2) (by show some (decide (r.a = y)) = _; rw [decide_eq_true h1])) (t_and1 (t_eq (d_ixT (dv 4) di) (dv 1) (by show some (decide (r.b = x)) = _; rw [decide_eq_true h2]))))) (r_one (s_set 3 sc_allowed_of.nd (d_tuple T.tuple (d_lcT (T := T1 5) [("one", 5)] rfl sc_allowed_of.nd (dv 3) (id (α := blkC n_allowed_of (defScope (top 37)) _ _ = true) (by decide +kernel)) (fun _ _ _ _ _ => pg_name sc_allowed_of.nd rfl (Or.inl rfl)) (tg1 (by decide)) (by unfold rD; rw [List.length_map]; omega) (lc_filterE fo1 (fun z => decide (z ∈ opps r.al)) (fun x => .str x.s) (fun x => .str x.s) fun x hx => ⟨_, rfl, fun s H C cl fp => t_inT (dv 5) (d_call (c_opposites T) hr (by omega) (a_cons (d_ixT (dv 4) di) a_nil) ⟨r.al, rfl, Nat.le_trans (hq r (by simp)) (by decide), rfl⟩) rfl (flat_rD _) rfl (inD_str x _), fun _ s H C cl fp => dv 5⟩)))))
          · rw [if_neg fun z => h2 z.2]
            exact s_ifF (PW.pt (t_andT (t_eq (d_ixT (dv 4) di) (dv 2) (by show some (decide (r.a = y)) = _; rw [decide_eq_true h1])) (t_and1 (t_eq (d_ixT (dv 4) di) (dv 1) (by show some (decide (r.b = x)) = _; rw [decide_eq_false h2]))))) r_nil
        · rw [if_neg fun z => h1 z.1]
          exact s_ifF (PW.pt (t_andF (t_eq (d_ixT (dv 4) di) (dv 2) (by show some (decide (r.a = y)) = _; rw [decide_eq_false h1])))) r_nil
  obtain ⟨s4', lp⟩ := lp rs R3 .no (by decide) ha
  exact r_cons (s_set 3 sc_allowed_of.nd (dg T.RELATIONS)) (r_cons (s_forT .never rfl (d_ixT (dv 0) di) (g1 4 sc_allowed_of.nd) lp) (r_one (s_ret (dv 3))))
theorem sc_keeps_rule : FnScope ["plan", "rule"] ["plan", "rule"] (defScope (top 38)) := ⟨rfl, rfl, rfl, by decide +kernel, rfl, by decide +kernel, by decide +kernel⟩
def R_keeps_rule (ds : List PyData) (d : PyData) : Prop := ∃ (p : Plan) (r : Rule), ds = [p.toD, r.toD] ∧ r.a ≠ r.b ∧ p.sz ≤ 8 ∧ r.a ∈ p.tasks ∧ r.b ∈ p.tasks ∧ d = .bool (decide (p.rel r.a r.b ∈ r.al))
theorem c_keeps_rule (T : Txt K mg w) : C8.Cal P w K mg base 13 "keeps_rule" (spR K R_keeps_rule) [] := by
  refine cal_of T.keeps_rule sc_keeps_rule (fun _ _ _ _ _ _ us hl => match us, hl with | [_, _], _ => rfl) (fun ds d ⟨_, _, e, _⟩ => by rw [e]; rfl) ?_
  rintro f cdv A outer s H0 Ex hr ds d ⟨p, r, rfl, hab, hz, ha, hb, rfl⟩ E
  unfold Rule.toD
  exact r_one (s_ret (d_inT (d_call (c_relation_of T) hr (by omega) (a_cons (dv 0) (a_cons (d_ixT (dv 1) di) (a_cons (d_ixT (dv 1) di) a_nil))) ⟨p, r.a, r.b, rfl, hab, hz, ha, hb, rfl⟩) (d_ixT (dv 1) di) rfl (flat_rD _) rfl (inD_str _ _)))
abbrev n_kept_by : List Str := ["problem", "plan", "rule"]
theorem sc_kept_by : FnScope n_kept_by ["problem", "plan"] (defScope (top 39)) := ⟨rfl, rfl, rfl, by decide +kernel, rfl, by decide +kernel, by decide +kernel⟩
def R_kept_by (ds : List PyData) (d : PyData) : Prop := ∃ (n : Nat) (rs : List Rule) (p : Plan), ds = [probD n rs, p.toD] ∧ rs.length ≤ 100 ∧ p.sz ≤ 8 ∧ (∀ r ∈ rs, r.a ≠ r.b ∧ r.a ∈ p.tasks ∧ r.b ∈ p.tasks) ∧ d = .bool (keeps rs p)
theorem c_kept_by (T : Txt K mg w) : C8.Cal P w K mg base 14 "kept_by" (spR K R_kept_by) [] := by
  refine cal_of T.kept_by sc_kept_by (fun _ _ _ _ _ _ us hl => match us, hl with | [_, _], _ => rfl) (fun ds d ⟨_, _, _, e, _⟩ => by rw [e]; rfl) ?_
  rintro f cdv A outer s H0 Ex hr ds d ⟨n, rs, p, rfl, hl, hz, hr2, rfl⟩ E
  exact r_one (s_ret (d_allM (ps := rs) (b := fun r => decide (p.rel r.a r.b ∈ r.al)) rfl T.all (d_lcT (T := T1 2) (l := rsD rs) [("rule", 2)] rfl sc_kept_by.nd (d_ixT (dv 0) di) (id (α := blkC n_kept_by (defScope (top 39)) _ _ = true) (by decide +kernel)) (fun _ _ _ _ _ => pg_name sc_kept_by.nd rfl (Or.inl rfl)) (tg1 (by decide)) (by unfold rsD; rw [List.length_map]; omega) (lc_maps fun r hrr => ⟨_, rfl, fun s H C cl fp =>
    d_call (c_keeps_rule T) hr (by omega) (a_cons (dv 1) (a_cons (dv 2) a_nil)) ⟨p, r, rfl, (hr2 r hrr).1, hz, (hr2 r hrr).2.1, (hr2 r hrr).2.2, rfl⟩⟩))))
end
end Tb

set_option maxHeartbeats 1000000
/-! sticking.py -/
namespace Tb
open PySem PySem.Spec PyProof.Rows
open L2
section
variable {P : Program} {w : World} {K : PySem.W.Frag} {mg : Str → Option Value} {base : Heap}
theorem sc_ties : FnScope ["problem", "first", "second"] ["problem", "first", "second"] (defScope (top 41)) := ⟨rfl, rfl, rfl, by decide +kernel, rfl, by decide +kernel, by decide +kernel⟩
theorem sc_bars : FnScope ["problem", "first", "second"] ["problem", "first", "second"] (defScope (top 42)) := ⟨rfl, rfl, rfl, by decide +kernel, rfl, by decide +kernel, by decide +kernel⟩
def R_lead (lead : List Rule → Int → Int → Bool) (ds : List PyData) (d : PyData) : Prop := ∃ (n : Nat) (rs : List Rule) (x y : Int), ds = [probD n rs, .int x, .int y] ∧ Few rs ∧ d = .bool (lead rs x y)
theorem c_ties (T : Txt K mg w) : C8.Cal P w K mg base 4 "ties" (spR K (R_lead tie)) [] := by
  refine cal_of T.ties sc_ties (fun _ _ _ _ _ _ us hl => match us, hl with | [_, _, _], _ => rfl) (fun ds d ⟨_, _, _, _, e, _⟩ => by rw [e]; rfl) ?_
  rintro f cdv A outer s H0 Ex hr ds d ⟨n, rs, x, y, rfl, hf, rfl⟩ E
  exact r_one (s_ret (d_ninT Tb.ds (d_call (c_allowed_of T) hr (by omega) (a_cons (dv 0) (a_cons (dv 1) (a_cons (dv 2) a_nil))) ⟨n, rs, x, y, rfl, hf.len, hf.al, rfl⟩) rfl (flat_rD _) rfl (congrArg not (inD_str .bs _))))
theorem c_bars (T : Txt K mg w) : C8.Cal P w K mg base 4 "bars" (spR K (R_lead bar)) [] := by
  refine cal_of T.bars sc_bars (fun _ _ _ _ _ _ us hl => match us, hl with | [_, _, _], _ => rfl) (fun ds d ⟨_, _, _, _, e, _⟩ => by rw [e]; rfl) ?_
  rintro f cdv A outer s H0 Ex hr ds d ⟨n, rs, x, y, rfl, hf, rfl⟩ E
  exact r_one (s_ret (d_ninT Tb.ds (d_call (c_allowed_of T) hr (by omega) (a_cons (dv 0) (a_cons (dv 1) (a_cons (dv 2) a_nil))) ⟨n, rs, x, y, rfl, hf.len, hf.al, rfl⟩) rfl (flat_rD _) rfl (congrArg not (inD_str .bf _))))
/-! reach -/
abbrev n_reach : List Str := ["problem", "chosen", "task", "leads", "found", "waiting", "here", "other"]
theorem sc_reach : FnScope n_reach ["problem", "chosen", "task", "leads"] (defScope (top 43)) := ⟨rfl, rfl, rfl, by decide +kernel, rfl, by decide +kernel, by decide +kernel⟩
def R_reach (mg : Str → Option Value) (ds : List PyData) (ws : List V) (d : PyData) : Prop := ∃ (n : Nat) (rs : List Rule) (ch : List Int) (t : Int) (lead : List Rule → Int → Int → Bool) (f : Addr), ds = [probD n rs, .tuple (ch.map .int), .int t] ∧ ws = [.ref f] ∧ Few rs ∧ ch.Pairwise (· < ·) ∧ ch.length ≤ 8 ∧ t ∈ ch ∧
  ((mg "ties" = some (.ref f) ∧ lead = tie) ∨ (mg "bars" = some (.ref f) ∧ lead = bar)) ∧ d = .tuple ((rset (lead rs) ch t).map .int)
theorem cal_at {x : Str} {k : Nat} {f : Addr} {R : List PyData → PyData → Prop} (c : C8.Cal P w K mg base k x (spR K R) []) (h : mg x = some (.ref f)) : C8.CalAt P w K mg base k f (spR K R) := by
  obtain ⟨f', fd, ps, ds, F, hm, kp, b, v⟩ := c.ex
  rw [h] at hm
  cases hm
  cases v
  exact ⟨fd, ps, F, kp, b⟩
theorem c_reach (T : Txt K mg w) : C8.Cal P w K mg base 5 "reach" (spX K (R_reach mg)) [] := by
  refine cal_ofX T.reach sc_reach (fun _ _ _ _ _ _ us hl => match us, hl with | [_, _, _, _], _ => rfl) (fun ds ws d ⟨_, _, _, _, _, _, e, e2, _⟩ => by rw [e, e2]; rfl) ?_
  rintro f cdv A outer s H0 Ex hr ds ws d ⟨n, rs, ch, t, lead, fl, rfl, rfl, hf, ha, hl, ht, hlead, rfl⟩ E
  have cl : C8.CalAt P w K mg base 4 fl (spR K (R_lead lead)) := by
    rcases hlead with ⟨h, rfl⟩ | ⟨h, rfl⟩
    · exact cal_at (c_ties T) h
    · exact cal_at (c_bars T) h
  have hnd := asc_nodup ha
  have hu : (CxD P w K mg base n_reach "reach" (top 43) f cdv A outer s H0 Ex).A.units + 1 < cLine := by
    exact Nat.lt_of_le_of_lt (Nat.add_le_add_left (by decide : 1 ≤ 64) _) hr.units
  have inner : ∀ (m i : Nat) (ks ws : List Int) (h : Int) (s7 : Slot), ch.length - i = m → notOwn s7 = true → notKey s7 = true → RInv (lead rs) ch t ks ws (some (h, i)) → 2 * (ch.length - ks.length) + ws.length ≤ 20 → ∃ ks' ws' s7', notOwn s7' = true ∧ notKey s7' = true ∧ RInv (lead rs) ch t ks' ws' none ∧ 2 * (ch.length - ks'.length) + ws'.length ≤ 2 * (ch.length - ks.length) + ws.length ∧
      Loop (CxD P w K mg base n_reach "reach" (top 43) f cdv A outer s H0 Ex) E (T1 7) (bodyOf ((bodyOf (stm 43 2)).getD 1 (.Pass ⟨0, 0, 0, 0⟩))) ((ch.drop i).map .int) [.dat (probD n rs), .dat (.tuple (ch.map .int)), .dat (.int t), .raw (.ref fl), .keys ks, .own (ws.map .int), .dat (.int h), s7]
        (.next [.dat (probD n rs), .dat (.tuple (ch.map .int)), .dat (.int t), .raw (.ref fl), .keys ks', .own (ws'.map .int), .dat (.int h), s7']) := by
    intro m
    induction m with
    | zero =>
      intro i ks ws h s7 hi h7 h7' r h20
      refine ⟨ks, ws, s7, h7, h7', r.done (by omega), Nat.le_refl _, ?_⟩
      rw [List.drop_eq_nil_of_le (by omega)]
      exact .nil
    | succ m ih =>
      intro i ks ws h s7 hi h7 h7' r h20
      have hlt : i < ch.length := by omega
      have hy : ch[i]? = some ch[i] := List.getElem?_eq_getElem hlt
      rw [List.drop_eq_getElem_cons hlt, List.map_cons]
      have hkl := r.len hnd
      by_cases hk : ch[i] ∈ ks
      · obtain ⟨ks', ws', s7', q7, q7', r', hm, lp⟩ := ih (i + 1) ks ws h (.dat (.int ch[i])) (by omega) rfl rfl (r.seen hy (.inl hk)) h20
        exact ⟨ks', ws', s7', q7, q7', r', hm, .next rfl (r_one (s_ifF (PW.pt (t_andF (t_ninK 4 hu (dv 7) (hk_ := by rw [decide_eq_true hk]; rfl)))) r_nil)) lp⟩
      · have tl : ∀ b, lead rs h ch[i] = b → PB (CxD P w K mg base n_reach "reach" (top 43) f cdv A outer s H0 Ex) E [.dat (probD n rs), .dat (.tuple (ch.map .int)), .dat (.int t), .raw (.ref fl), .keys ks, .own (ws.map .int), .dat (.int h), .dat (.int ch[i])] (testOf ((bodyOf ((bodyOf (stm 43 2)).getD 1 (.Pass ⟨0, 0, 0, 0⟩))).getD 0 (.Pass ⟨0, 0, 0, 0⟩))) b := fun b hb =>
          PW.pt (t_andT (t_ninK 4 hu (dv 7) (hk_ := by rw [decide_eq_false hk]; rfl)) (t_and1 (t_val (d_callV (i := 3) cl hr (by omega) (a_cons (dv 0) (a_cons (dv 6) (a_cons (dv 7) a_nil))) ⟨n, rs, h, ch[i], rfl, hf, by rw [hb]⟩))))
        cases hb : lead rs h ch[i] with
        | false =>
          obtain ⟨ks', ws', s7', q7, q7', r', hm, lp⟩ := ih (i + 1) ks ws h (.dat (.int ch[i])) (by omega) rfl rfl (r.seen hy (.inr hb)) h20
          exact ⟨ks', ws', s7', q7, q7', r', hm, .next rfl (r_one (s_ifF (tl _ hb) r_nil)) lp⟩
        | true =>
          have r2 := r.met hy hk hb
          have hkl2 := r2.len hnd
          obtain ⟨ks', ws', s7', q7, q7', r', hm, lp⟩ := ih (i + 1) (ks ++ [ch[i]]) (ws ++ [ch[i]]) h (.dat (.int ch[i])) (by omega) rfl rfl r2 (by
            rw [List.length_append, List.length_singleton] at hkl2
            rw [List.length_append, List.length_append, List.length_singleton]
            omega)
          refine ⟨ks', ws', s7', q7, q7', r', ?_, .next rfl (r_one (s_ifT (tl _ hb) (r_cons (s_putK 4 hu (dv 7) hk (by omega)) (r_one (s_append 5 (dv 7) ?_))))) ?_⟩
          · rw [List.length_append, List.length_singleton] at hkl2
            rw [List.length_append, List.length_append, List.length_singleton] at hm
            omega
          · rw [List.length_map]
            omega
          · rw [List.map_append] at lp
            exact lp
  have outer_ : ∀ (m : Nat) (ks ws : List Int) (s6 s7 : Slot), 2 * (ch.length - ks.length) + ws.length ≤ m → m ≤ 20 → notOwn s6 = true → notKey s6 = true → notOwn s7 = true → notKey s7 = true → RInv (lead rs) ch t ks ws none → ∃ ks' s6' s7', notOwn s6' = true ∧ notKey s6' = true ∧ notOwn s7' = true ∧ notKey s7' = true ∧ RInv (lead rs) ch t ks' [] none ∧
      WLoop (CxD P w K mg base n_reach "reach" (top 43) f cdv A outer s H0 Ex) E (testOf (stm 43 2)) (bodyOf (stm 43 2)) m [.dat (probD n rs), .dat (.tuple (ch.map .int)), .dat (.int t), .raw (.ref fl), .keys ks, .own (ws.map .int), s6, s7]
        (.next [.dat (probD n rs), .dat (.tuple (ch.map .int)), .dat (.int t), .raw (.ref fl), .keys ks', .own [], s6', s7']) := by
    intro m
    induction m with
    | zero =>
      intro ks ws s6 s7 hm _ a1 a2 a3 a4 r
      have e : ws = [] := List.length_eq_zero_iff.mp (by omega)
      subst e
      exact ⟨ks, s6, s7, a1, a2, a3, a4, r, .stop (t_truO 5)⟩
    | succ m ih =>
      intro ks ws s6 s7 hm hm20 a1 a2 a3 a4 r
      rcases List.eq_nil_or_concat ws with e | ⟨ws0, h, e⟩
      · subst e
        exact ⟨ks, s6, s7, a1, a2, a3, a4, r, .stop (t_truO 5)⟩
      · rw [List.concat_eq_append] at e
        subst e
        rw [List.length_append, List.length_singleton] at hm
        obtain ⟨ks1, ws1, s7', q7, q7', r', hm', lp⟩ := inner _ 0 ks ws0 h s7 rfl a3 a4 r.pop (by omega)
        obtain ⟨ks', s6', s7'', b1, b2, b3, b4, r'', wl⟩ := ih ks1 ws1 (.dat (.int h)) s7' (by omega) (by omega) rfl rfl q7 q7' r'
        refine ⟨ks', s6', s7'', b1, b2, b3, b4, r'', ?_⟩
        rw [List.map_append]
        refine .turn (t_truO 5 (hk_ := by cases ws0 <;> rfl)) (r_cons (s_pop 5 6 sc_reach.nd (hγ := rfl) (ho := ?_)) (r_one (s_forT .never rfl (dv 1) (g1 7 sc_reach.nd) lp))) wl
        show (notOwn s6 && (notOwn s7 && true)) = true
        rw [a1, a3]; rfl
  obtain ⟨ks', s6', s7', b1, b2, b3, b4, r, wl⟩ := outer_ 20 [t] [t] .no .no (by show 2 * (ch.length - 1) + 1 ≤ 20; omega) (by omega) rfl rfl rfl rfl (.start ht)
  have hp := r.perm hnd
  have hkl := r.len0 hnd
  refine r_cons (s_newKeys 4 sc_reach.nd (dv 2)) (r_cons (s_newOwn1 5 sc_reach.nd (dv 2)) (r_cons (s_while .never wl) ?_))
  exact r_one (s_ret (d_tuple T.tuple (d_sortedK 4 rfl T.sorted (by omega) hp.symm (asc_le (rset_asc ha)))))
/-! told_split -/
abbrev n_told_split : List Str := ["problem", "chosen", "part", "task", "other"]
theorem sc_told_split : FnScope n_told_split ["problem", "chosen"] (defScope (top 44)) := ⟨rfl, rfl, rfl, by decide +kernel, rfl, by decide +kernel, by decide +kernel⟩
def R_told_split (ds : List PyData) (d : PyData) : Prop := ∃ (n : Nat) (rs : List Rule) (ch : List Int), ds = [probD n rs, .tuple (ch.map .int)] ∧ Few rs ∧ ch.Pairwise (· < ·) ∧ ch.length ≤ 8 ∧ ch ≠ [] ∧ d = splitD ch (split rs ch)
theorem rset_len {lead : Int → Int → Bool} {ch : List Int} {t : Int} : (rset lead ch t).length ≤ ch.length := List.length_filter_le _ _
theorem c_told_split (T : Txt K mg w) : C8.Cal P w K mg base 6 "told_split" (spR K R_told_split) [] := by
  refine cal_of T.told_split sc_told_split (fun _ _ _ _ _ _ us hl => match us, hl with | [_, _], _ => rfl) (fun ds d ⟨_, _, _, e, _⟩ => by rw [e]; rfl) ?_
  rintro f cdv A outer s H0 Ex hr ds d ⟨n, rs, ch, rfl, hf, ha, hl, hne, rfl⟩ E
  obtain ⟨ft, fdt, _, hmt⟩ := T.ties.ex
  obtain ⟨fb, fdb, _, hmb⟩ := T.bars.ex
  obtain ⟨c0, ch', rfl⟩ : ∃ c0 ch', ch = c0 :: ch' := by
    cases ch with
    | nil => exact absurd rfl hne
    | cons a l => exact ⟨a, l, rfl⟩
  have hlen : ∀ l : List Int, ((l.map PyData.int).length : Int) = (l.length : Int) := fun l => by rw [List.length_map]
  refine r_cons (s_set 2 sc_told_split.nd (d_callX (c_reach T) hr (by omega) (ax_cons (dv 0) (ax_cons (dv 1) (ax_cons (d_ixT (dv 1) di (ints_at (l := c0 :: ch') (i := 0) rfl)) (ax_name hmt)))) ⟨n, rs, c0 :: ch', c0, tie, ft, rfl, rfl, hf, ha, hl, by simp, .inl ⟨hmt, rfl⟩, rfl⟩)) ?_
  unfold split
  rw [show (c0 :: ch').headD 0 = c0 from rfl]
  generalize hpt : rset (tie rs) (c0 :: ch') c0 = pt
  have hptl : pt.length ≤ (c0 :: ch').length := by rw [← hpt]; exact rset_len
  by_cases h1 : pt.length < (c0 :: ch').length
  · rw [if_pos h1]
    refine r_ret (s_ifT (t_lt (d_len T.len (dv 2) rfl) (d_len T.len (dv 1) rfl) (by rw [hlen, hlen]; exact decide_eq_true (by omega))) (r_one (s_ret (d_tup (a_cons Tb.ds (a_cons (dv 2) (a_cons (d_tuple T.tuple (d_lcT (T := T1 3) (es := (restOf (c0 :: ch') pt).map .int) [("task", 3)] rfl sc_told_split.nd (dv 1) (id (α := blkC n_told_split (defScope (top 44)) _ _ = true) (by decide +kernel)) (fun _ _ _ _ _ => pg_name sc_told_split.nd rfl (Or.inl rfl)) (tg1 (by decide)) (by rw [List.length_map]; omega) ?l1)) a_nil)))))))
    exact lc_filterE (c0 :: ch') (fun x => !decide (x ∈ pt)) .int .int fun x hx => ⟨_, rfl, fun s H C cl fp => t_ninT (dv 3) (dv 2) rfl (flat_ints _) rfl (congrArg not (inD_int _ _)), fun _ s H C cl fp => dv 3⟩
  · rw [if_neg h1]
    refine r_cons (s_ifF (t_lt (d_len T.len (dv 2) rfl) (d_len T.len (dv 1) rfl) (by rw [hlen, hlen]; exact decide_eq_false (by omega))) r_nil) ?_
    have lp : ∀ (qs : List Int) (s2 s3 : Slot), (∀ x ∈ qs, x ∈ c0 :: ch') → (∃ γ', Loop (CxD P w K mg base n_told_split "told_split" (top 44) f cdv A outer s H0 Ex) E (T1 3) (bodyOf (stm 44 2)) (qs.map .int) [.dat (probD n rs), .dat (.tuple ((c0 :: ch').map .int)), s2, s3, .no]
        (match barCut rs (c0 :: ch') qs with | none => .next γ' | some p => .ret (splitD (c0 :: ch') (some (true, p))))) := by
      intro qs
      induction qs with
      | nil => intro s2 s3 _; exact ⟨_, .nil⟩
      | cons q qs ih =>
        intro s2 s3 hq
        obtain ⟨γ', lp⟩ := ih (.dat (.tuple ((rset (bar rs) (c0 :: ch') q).map .int))) (.dat (.int q)) fun x hx => hq x (List.mem_cons_of_mem _ hx)
        refine ⟨γ', ?_⟩
        unfold barCut
        generalize hpb : rset (bar rs) (c0 :: ch') q = pb at lp ⊢
        have hpbl : pb.length ≤ (c0 :: ch').length := by rw [← hpb]; exact rset_len
        have st1 : PR (CxD P w K mg base n_told_split "told_split" (top 44) f cdv A outer s H0 Ex) E [.dat (probD n rs), .dat (.tuple ((c0 :: ch').map .int)), s2, .dat (.int q), .no] ((bodyOf (stm 44 2)).getD 0 (.Pass ⟨0, 0, 0, 0⟩)) (.next [.dat (probD n rs), .dat (.tuple ((c0 :: ch').map .int)), .dat (.tuple (pb.map .int)), .dat (.int q), .no]) :=
          s_set 2 sc_told_split.nd (d_callX (c_reach T) hr (by omega) (ax_cons (dv 0) (ax_cons (dv 1) (ax_cons (dv 3) (ax_name hmb)))) ⟨n, rs, c0 :: ch', q, bar, fb, rfl, rfl, hf, ha, hl, hq q (by simp), .inr ⟨hmb, rfl⟩, by rw [hpb]⟩)
        by_cases h2 : pb.length < (c0 :: ch').length
        · rw [if_pos h2]
          refine .ret rfl (r_cons st1 (r_ret (s_ifT (t_lt (d_len T.len (dv 2) rfl) (d_len T.len (dv 1) rfl) (by rw [hlen, hlen]; exact decide_eq_true (by omega))) (r_one (s_ret (d_tup (a_cons Tb.ds (a_cons (dv 2) (a_cons (d_tuple T.tuple (d_lcT (T := T1 4) (es := (restOf (c0 :: ch') pb).map .int) [("other", 4)] rfl sc_told_split.nd (dv 1) (id (α := blkC n_told_split (defScope (top 44)) _ _ = true) (by decide +kernel)) (fun _ _ _ _ _ => pg_name sc_told_split.nd rfl (Or.inl rfl)) (tg1 (by decide)) (by rw [List.length_map]; omega) ?l2)) a_nil)))))))))
          exact lc_filterE (c0 :: ch') (fun x => !decide (x ∈ pb)) .int .int fun x hx => ⟨_, rfl, fun s H C cl fp => t_ninT (dv 4) (dv 2) rfl (flat_ints _) rfl (congrArg not (inD_int _ _)), fun _ s H C cl fp => dv 4⟩
        · rw [if_neg h2]
          exact .next rfl (r_cons st1 (r_one (s_ifF (t_lt (d_len T.len (dv 2) rfl) (d_len T.len (dv 1) rfl) (by rw [hlen, hlen]; exact decide_eq_false (by omega))) r_nil))) lp
    obtain ⟨γ', lp⟩ := lp (c0 :: ch') (.dat (.tuple (pt.map .int))) .no fun x hx => hx
    cases hb : barCut rs (c0 :: ch') (c0 :: ch') with
    | none =>
      rw [hb] at lp
      exact r_cons (s_forT .never rfl (dv 1) (g1 3 sc_told_split.nd) lp) (r_one (s_ret dnone))
    | some p =>
      rw [hb] at lp
      exact r_ret (s_forT .never rfl (dv 1) (g1 3 sc_told_split.nd) lp)
theorem sc_stuck : FnScope ["problem", "chosen"] ["problem", "chosen"] (defScope (top 45)) := ⟨rfl, rfl, rfl, by decide +kernel, rfl, by decide +kernel, by decide +kernel⟩
def R_stuck (ds : List PyData) (d : PyData) : Prop := ∃ (n : Nat) (rs : List Rule) (ch : List Int), ds = [probD n rs, .tuple (ch.map .int)] ∧ Few rs ∧ ch.Pairwise (· < ·) ∧ ch.length ≤ 8 ∧ 2 ≤ ch.length ∧ split rs ch = none ∧ d = .bool true
theorem c_stuck (T : Txt K mg w) : C8.Cal P w K mg base 7 "stuck" (spR K R_stuck) [] := by
  refine cal_of T.stuck sc_stuck (fun _ _ _ _ _ _ us hl => match us, hl with | [_, _], _ => rfl) (fun ds d ⟨_, _, _, e, _⟩ => by rw [e]; rfl) ?_
  rintro f cdv A outer s H0 Ex hr ds d ⟨n, rs, ch, rfl, hf, ha, hl, h2, hs, rfl⟩ E
  refine r_one (s_ret (d_andT (d_gt (d_len T.len (dv 1) rfl) di (decide_eq_true (by rw [List.length_map]; omega))) (d_one (d_isN (d_call (c_told_split T) hr (by omega) (a_cons (dv 0) (a_cons (dv 1) a_nil)) ⟨n, rs, ch, rfl, hf, ha, hl, fun e => by subst e; exact absurd h2 (by decide), rfl⟩) (by rw [hs]; rfl)))))
end
end Tb

set_option maxHeartbeats 1000000
/-! plans.py: normal_of; solving.py -/
namespace Tb
open PySem PySem.Spec PyProof.Rows
open L2
section
variable {P : Program} {w : World} {K : PySem.W.Frag} {mg : Str → Option Value} {base : Heap}
/-- a def that answers None by its end -/
theorem cal_ofN {x nm : Str} {st : Stmt} {N ps : List Str} {k : Nat} {R : List PyData → Prop} (F : Dfn K mg x nm st) (Sc : FnScope N ps (defScope st))
    (hb : ∀ (kV doc pm : Value) (an : Option Addr) (cdv ct : Value) (us : List Value), us.length = ps.length → bindArgs (PySem.W.fnOf nm nm (defArgs st) (defBody st) (defScope st) .none kV doc pm an cdv ct) ⟨us, []⟩ = pure (ps.zip us))
    (len : ∀ ds, R ds → ds.length = ps.length)
    (body : ∀ (f : Addr) (cdv : Value) (A : Around) (outer : List Env) (s : Shared) (H0 : Hp) (Ex : XK), Room k (A.deeper (envOfC nm (defScope st) s.heap.objs.size f cdv)) → ∀ ds, R ds → ∀ E : Hp × Hp, ∃ γ', PRs (CxD P w K mg base N nm st f cdv A outer s H0 Ex) E (γ0 N ds) (defBody st) (.next γ')) :
    C8.Cal P w K mg base (k + 1) x (spR K fun ds d => R ds ∧ d = .none) [] := by
  obtain ⟨f, fd, FD, hm⟩ := F.ex
  refine ⟨f, fd, ps, [], FD.ok Sc (fun vs H Q E h => ?_) (fun cdv A outer s H vs Q E hr h => ?_), hm, FD.kp, FD.bindsN hb, .nil⟩
  · obtain ⟨B, ds, d, _, h1, h2, _⟩ := h
    rw [h1.length]
    exact len ds h2.1
  · obtain ⟨B, ds, d, e, h1, ⟨h2, rfl⟩, q⟩ := h
    obtain ⟨γ', hbod⟩ := body f cdv A outer s H E hr ds h2 (B, H)
    exact ⟨_, hbod.nox, B, ⟨Gr.refl e, slots_start h1⟩, fun σ' B' H' _ s' => q .non B' H' s'.gr .non⟩
/-! normal_of -/
abbrev n_normal_of : List Str := ["plan", "parts", "part"]
theorem sc_normal_of : FnScope n_normal_of ["plan"] (defScope (top 15)) := ⟨rfl, rfl, rfl, by decide +kernel, rfl, by decide +kernel, by decide +kernel⟩
def R_normal_of (n : Nat) (ds : List PyData) (d : PyData) : Prop := ∃ p : Plan, ds = [p.toD] ∧ p.dep ≤ n ∧ p.sz ≤ 8 ∧ p.tasks.Nodup ∧ p.full = true ∧ d = p.norm.toD
theorem least_R {p : Plan} (hz : p.sz ≤ 8) (hf : p.full = true) : R_least_task [p.toD] (.int (leastT p)) := by
  obtain ⟨h1, h2⟩ := least_ok (full_tasks p hf)
  have := dep_sz p
  have := tasks_sz p
  exact ⟨p, leastT p, rfl, by omega, by omega, h1, h2, rfl⟩
theorem normal_of_turn (T : Txt K mg w) (n : Nat) (ih : ∀ m, n = m + 1 → C8.Cal P w K mg base (m + 13) "normal_of" (spR K (R_normal_of m)) []) : C8.Cal P w K mg base (n + 13) "normal_of" (spR K (R_normal_of n)) [] := by
  refine cal_of T.normal_of sc_normal_of (fun _ _ _ _ _ _ us hl => match us, hl with | [_], _ => rfl) (fun ds d ⟨_, e, _⟩ => by rw [e]; rfl) ?_
  rintro f cdv A outer s H0 Ex hr ds d ⟨p, rfl, hd, hz, hn, hf, rfl⟩ E
  cases p with
  | task m => exact r_ret (s_ifT (t_val (d_isInt T.isinstance T.int (dv 0))) (r_one (s_ret (dv 0))))
  | node b ps =>
    unfold Plan.dep at hd
    have hz' := hz
    unfold Plan.sz at hz'
    unfold Plan.tasks at hn
    unfold Plan.full at hf
    rw [Bool.and_eq_true] at hf
    obtain ⟨m, rfl⟩ : ∃ j, n = j + 1 := ⟨n - 1, by omega⟩
    have hlen : ps.length ≤ 8 := Nat.le_trans (len_szL ps) (by omega)
    unfold Plan.toD
    refine r_cons (s_ifF (t_val (d_isInt T.isinstance T.int (dv 0))) r_nil) ?_
    refine r_cons (s_lcT (T := T1 2) (es := (normL ps).map Plan.toD) 1 [("part", 2)] rfl sc_normal_of.nd (d_ixT (dv 0) di) (id (α := blkC n_normal_of (defScope (top 15)) _ _ = true) (by decide +kernel)) (fun _ _ _ _ _ => pg_name sc_normal_of.nd rfl (Or.inl rfl)) (tg1 (by decide)) (by rw [toDs_len]; omega) ?l1) ?_
    case l1 =>
      rw [toDs_eq, normL_eq, List.map_map]
      exact lc_maps fun q hq => ⟨_, rfl, fun s H C cl fp => d_call (ih m rfl) hr (by omega) (a_cons (dv 2) a_nil) ⟨q, rfl, Nat.le_trans (dep_le hq) (by omega), Nat.le_trans (sz_mem hq) (by omega), nodup_part hn hq, fullL_iff.mp hf.2 q hq, rfl⟩⟩
    · have hnL : (normL ps).length = ps.length := by rw [normL_eq, List.length_map]
      cases b with
      | true =>
        unfold Plan.norm
        show PRs _ _ _ _ (.ret (.tuple [.str (wd true), .tuple (toDs (normL ps))]))
        rw [toDs_eq (normL ps)]
        exact r_one (s_ret (d_tup (a_cons (d_ixT (dv 0) di) (a_cons (d_tuple T.tuple (d_ifT (t_eq (d_ixT (dv 0) di) Tb.ds (by decide +kernel)) (dv 1))) a_nil))))
      | false =>
        unfold Plan.norm
        show PRs _ _ _ _ (.ret (.tuple [.str (wd false), .tuple (toDs (srtP (normL ps)))]))
        rw [toDs_eq (srtP (normL ps))]
        refine r_one (s_ret (d_tup (a_cons (d_ixT (dv 0) di) (a_cons (d_tuple T.tuple (d_ifF (t_eq (d_ixT (dv 0) di) Tb.ds (by decide +kernel)) (d_sortedKey (l := (normL ps).map Plan.toD) (kz := (normL ps).map leastT) (c_least_task T) hr (by omega) T.sorted (dv 1) ?hR (by rw [List.length_map, List.length_map]) (by rw [List.length_map]; omega) ?hu))) a_nil))))
        case hR =>
          intro i d z h1 h2
          rw [List.getElem?_map] at h1 h2
          cases hq : (normL ps)[i]? with
          | none => rw [hq] at h1; cases h1
          | some q =>
            rw [hq] at h1 h2
            cases h1
            cases h2
            have hm := List.mem_of_getElem? hq
            have hs := sz_mem hm
            rw [normL_sz] at hs
            exact least_R (by omega) (fullL_iff.mp (normL_full ps hf.2) q hm)
        case hu =>
          intro qs hp hw
          obtain ⟨L', lp, lm⟩ := perm_lift (f := fun p : Plan => (leastT p, p.toD)) hp (normL ps) (by rw [List.zip_map'])
          rw [← lm, List.pairwise_map] at hw
          have := srtP_uniq ((normL_tasks ps).nodup_iff.mpr hn) (normL_full ps hf.2) lp (hw.imp fun h => by simpa using h)
          rw [← this, ← lm, List.map_map]
          rfl
theorem c_normal_of (T : Txt K mg w) (n : Nat) : C8.Cal P w K mg base (n + 13) "normal_of" (spR K (R_normal_of n)) [] := by
  induction n with
  | zero => exact normal_of_turn T 0 fun m h => absurd h (by omega)
  | succ n ih => exact normal_of_turn T (n + 1) (fun m h => (show m = n by omega) ▸ ih)
/-! solving.py -/
theorem sc_check_problem : FnScope ["problem"] ["problem"] (defScope (top 47)) := ⟨rfl, rfl, rfl, by decide +kernel, rfl, by decide +kernel, by decide +kernel⟩
theorem c_check_problem (T : Txt K mg w) : C8.Cal P w K mg base 5 "check_problem" (spR K fun ds d => (∃ (n : Nat) (rs : List Rule), ds = [probD n rs] ∧ Prob n rs) ∧ d = .none) [] := by
  refine cal_ofN T.check_problem sc_check_problem (fun _ _ _ _ _ _ us hl => match us, hl with | [_], _ => rfl) (fun ds ⟨_, _, e, _⟩ => by rw [e]; rfl) ?_
  rintro f cdv A outer s H0 Ex hr ds ⟨n, rs, rfl, h⟩ E
  exact ⟨_, r_one (s_ifF (t_not (t_val (d_call (c_is_problem T) hr (by omega) (a_cons (dv 0) a_nil) ⟨n, rs, rfl, h, rfl⟩))) r_nil)⟩
abbrev n_joined : List Str := ["word", "first", "second", "parts", "plan"]
theorem sc_joined : FnScope n_joined ["word", "first", "second"] (defScope (top 48)) := ⟨rfl, rfl, rfl, by decide +kernel, rfl, by decide +kernel, by decide +kernel⟩
def R_joined (ds : List PyData) (d : PyData) : Prop := ∃ (b : Bool) (p q : Plan), ds = [.str (wd b), p.toD, q.toD] ∧ p.sz ≤ 100 ∧ q.sz ≤ 100 ∧ d = (joinP b p q).toD
theorem wd_eq (v b : Bool) : decide (wd v = wd b) = decide (v = b) := by cases v <;> cases b <;> decide +kernel
theorem toDs_append (a b : List Plan) : toDs (a ++ b) = toDs a ++ toDs b := by rw [toDs_eq, toDs_eq, toDs_eq, List.map_append]
theorem partsOf_len (b : Bool) (p : Plan) : (partsOf b p).length ≤ p.sz := Nat.le_trans (len_szL _) (partsOf_sz b p)
theorem c_joined (T : Txt K mg w) : C8.Cal P w K mg base 1 "joined" (spR K R_joined) [] := by
  refine cal_of T.joined sc_joined (fun _ _ _ _ _ _ us hl => match us, hl with | [_, _, _], _ => rfl) (fun ds d ⟨_, _, _, e, _⟩ => by rw [e]; rfl) ?_
  rintro f cdv A outer s H0 Ex hr ds d ⟨b, p, q, rfl, hp, hq, rfl⟩ E
  have turn : ∀ (acc : List Plan) (u : Plan), acc.length ≤ 100 → u.sz ≤ 100 → PRs (CxD P w K mg base n_joined "joined" (top 48) f cdv A outer s H0 Ex) E [.dat (.str (wd b)), .dat p.toD, .dat q.toD, .dat (.tuple (toDs acc)), .dat u.toD] (bodyOf (stm 48 1)) (.next [.dat (.str (wd b)), .dat p.toD, .dat q.toD, .dat (.tuple (toDs (acc ++ partsOf b u))), .dat u.toD]) := by
    intro acc u ha hu
    rw [toDs_append]
    have hl := partsOf_len b u
    refine r_one (s_set 3 sc_joined.nd (d_catT (l := toDs acc) (l2 := toDs (partsOf b u)) (dv 3) ?_ (by rw [toDs_len, toDs_len, sizeLine_is]; omega)))
    cases u with
    | task m => exact d_ifF (PW.pt (t_andF (t_val (d_isTup T.isinstance T.tuple (dv 4))))) (d_tup (a_cons (dv 4) a_nil))
    | node v ps =>
      by_cases h : v = b
      · have e : partsOf b (.node v ps) = ps := by rw [partsOf]; exact if_pos h
        rw [e]
        exact d_ifT (PW.pt (t_andT (t_val (d_isTup T.isinstance T.tuple (dv 4))) (t_and1 (t_eq (d_ixT (dv 4) di) (dv 0) (by exact congrArg some ((wd_eq v b).trans (decide_eq_true h))))))) (d_ixT (dv 4) di)
      · have e : partsOf b (.node v ps) = [.node v ps] := by rw [partsOf]; exact if_neg h
        rw [e]
        exact d_ifF (PW.pt (t_andT (t_val (d_isTup T.isinstance T.tuple (dv 4))) (t_and1 (t_eq (d_ixT (dv 4) di) (dv 0) (by exact congrArg some ((wd_eq v b).trans (decide_eq_false h))))))) (d_tup (a_cons (dv 4) a_nil))
  have hl := partsOf_len b p
  refine r_cons (s_set 3 sc_joined.nd (d_tup a_nil)) (r_cons (s_forT .never rfl (d_tup (a_cons (dv 1) (a_cons (dv 2) a_nil))) (g1 4 sc_joined.nd) (.next rfl (turn [] p (by simp) hp) (.next rfl (turn _ q ?_ hq) .nil))) (r_one (s_ret (d_tup (a_cons (dv 0) (a_cons (dv 3) a_nil))))))
  rw [List.nil_append]; omega
/-! taken_apart -/
abbrev n_taken_apart : List Str := ["problem", "chosen", "split", "word", "part", "rest", "first", "second", "answer"]
theorem sc_taken_apart : FnScope n_taken_apart ["problem", "chosen"] (defScope (top 49)) := ⟨rfl, rfl, rfl, by decide +kernel, rfl, by decide +kernel, by decide +kernel⟩
def R_taken_apart (k : Nat) (ds : List PyData) (d : PyData) : Prop := ∃ (n : Nat) (rs : List Rule) (ch : List Int), ds = [probD n rs, .tuple (ch.map .int)] ∧ Few rs ∧ ch.Pairwise (· < ·) ∧ ch.length ≤ 8 ∧ ch ≠ [] ∧ ch.length ≤ k + 1 ∧ d = (apart rs (k + 1) ch).toD
theorem taken_apart_turn (T : Txt K mg w) (k : Nat) (ih : ∀ m, k = m + 1 → C8.Cal P w K mg base (m + 8) "taken_apart" (spR K (R_taken_apart m)) []) : C8.Cal P w K mg base (k + 8) "taken_apart" (spR K (R_taken_apart k)) [] := by
  refine cal_of T.taken_apart sc_taken_apart (fun _ _ _ _ _ _ us hl => match us, hl with | [_, _], _ => rfl) (fun ds d ⟨_, _, _, e, _⟩ => by rw [e]; rfl) ?_
  rintro f cdv A outer s H0 Ex hr ds d ⟨n, rs, ch, rfl, hf, ha, h8, hne, hk, rfl⟩ E
  have hnd := asc_nodup ha
  have hlen : ((ch.map PyData.int).length : Int) = (ch.length : Int) := by rw [List.length_map]
  unfold apart
  by_cases h1 : ch.length = 1
  · rw [if_pos h1]
    match ch, h1 with
    | [x], _ => exact r_ret (s_ifT (t_eq (d_len T.len (dv 1)) di) (r_one (s_ret (d_tup (a_cons Tb.ds (a_cons (d_ixT (dv 1) di) a_nil))))))
  · rw [if_neg h1]
    refine r_cons (s_ifF (t_eq (d_len T.len (dv 1) rfl) di (congrArg some (decide_eq_false (by rw [hlen]; omega)))) r_nil) ?_
    refine r_cons (s_set 2 sc_taken_apart.nd (d_call (c_told_split T) hr (by omega) (a_cons (dv 0) (a_cons (dv 1) a_nil)) ⟨n, rs, ch, rfl, hf, ha, h8, hne, rfl⟩)) ?_
    cases hs : split rs ch with
    | none => exact r_ret (s_ifT (t_isN (dv 2)) (r_one (s_ret (d_tup (a_cons Tb.ds (a_cons (dv 1) a_nil))))))
    | some wp =>
      obtain ⟨b, part⟩ := wp
      have so := split_ok hne hs
      have hr1 := rest_len hnd so.sub
      have hpn := so.ne
      have hrn := rest_ne hnd so
      have hp1 : 1 ≤ part.length := List.length_pos_iff.mpr hpn
      have hr2 : 1 ≤ (restOf ch part).length := List.length_pos_iff.mpr hrn
      obtain ⟨m, rfl⟩ : ∃ j, k = j + 1 := ⟨k - 1, by omega⟩
      refine r_cons (s_ifF (t_isN (dv 2)) r_nil) (r_cons (s_tgt (T := T3 3 4 5) (dv 2) (g3 3 4 5 rfl sc_taken_apart.nd (pg_name sc_taken_apart.nd rfl (Or.inl rfl)) (pg_name sc_taken_apart.nd rfl (Or.inl rfl)) (pg_name sc_taken_apart.nd rfl (Or.inl rfl))) ⟨_, _, _, rfl, rfl⟩) ?_)
      refine r_cons (s_set 6 sc_taken_apart.nd (d_call (ih m rfl) hr (by omega) (a_cons (dv 0) (a_cons (dv 4) a_nil)) ⟨n, rs, part, rfl, hf, ha.sublist so.sub, by omega, hpn, by omega, rfl⟩)) (r_cons (s_set 7 sc_taken_apart.nd (d_call (ih m rfl) hr (by omega) (a_cons (dv 0) (a_cons (dv 5) a_nil)) ⟨n, rs, restOf ch part, rfl, hf, ha.sublist (rest_sub ch part), by omega, hrn, by omega, rfl⟩)) ?_)
      have z1 := fun p => apart_sz (rs := rs) (m + 1) part p (so.sub.nodup hnd) hpn
      have z2 := fun p => apart_sz (rs := rs) (m + 1) (restOf ch part) p ((rest_sub ch part).nodup hnd) hrn
      show PRs _ _ _ _ (.ret ((apart rs (m + 1) part).both b (apart rs (m + 1) (restOf ch part))).toD)
      generalize apart rs (m + 1) part = A1 at z1 ⊢
      generalize apart rs (m + 1) (restOf ch part) = A2 at z2 ⊢
      cases A1 with
      | set s1 => exact r_ret (s_forT .never rfl (d_tup (a_cons (dv 6) (a_cons (dv 7) a_nil))) (g1 8 sc_taken_apart.nd) (.ret rfl (r_ret (s_ifT (t_eq (d_ixT (dv 8) di) Tb.ds (by decide +kernel)) (r_one (s_ret (dv 8)))))))
      | plan p1 =>
        cases A2 with
        | set s2 => exact r_ret (s_forT .never rfl (d_tup (a_cons (dv 6) (a_cons (dv 7) a_nil))) (g1 8 sc_taken_apart.nd) (.next rfl (r_one (s_ifF (t_eq (d_ixT (dv 8) di) Tb.ds (by decide +kernel)) r_nil)) (.ret rfl (r_ret (s_ifT (t_eq (d_ixT (dv 8) di) Tb.ds (by decide +kernel)) (r_one (s_ret (dv 8))))))))
        | plan p2 =>
          have z1 := z1 p1 rfl
          have z2 := z2 p2 rfl
          refine r_cons (s_forT .never rfl (d_tup (a_cons (dv 6) (a_cons (dv 7) a_nil))) (g1 8 sc_taken_apart.nd) (.next rfl (r_one (s_ifF (t_eq (d_ixT (dv 8) di) Tb.ds (by decide +kernel)) r_nil)) (.next rfl (r_one (s_ifF (t_eq (d_ixT (dv 8) di) Tb.ds (by decide +kernel)) r_nil)) .nil))) ?_
          exact r_one (s_ret (d_tup (a_cons Tb.ds (a_cons (d_call (c_joined T) hr (by omega) (a_cons (dv 3) (a_cons (d_ixT (dv 6) di) (a_cons (d_ixT (dv 7) di) a_nil))) ⟨b, p1, p2, rfl, by omega, by omega, rfl⟩) a_nil))))
theorem c_taken_apart (T : Txt K mg w) (n : Nat) : C8.Cal P w K mg base (n + 8) "taken_apart" (spR K (R_taken_apart n)) [] := by
  induction n with
  | zero => exact taken_apart_turn T 0 fun m h => absurd h (by omega)
  | succ n ih => exact taken_apart_turn T (n + 1) (fun m h => (show m = n by omega) ▸ ih)
end
end Tb

set_option maxHeartbeats 1000000
/-! solving.py: solved, solve, accepts -/
namespace Tb
open PySem PySem.Spec PyProof.Rows
open L2
theorem Prob.few {n : Nat} {rs : List Rule} (h : Prob n rs) : Few rs := ⟨Nat.le_trans h.len (by decide), fun r hr => by
  have o := (h.ok r hr).ord
  rw [← o]
  exact Nat.le_trans (List.length_filter_le _ _) (by decide)⟩
section
variable {P : Program} {w : World} {K : PySem.W.Frag} {mg : Str → Option Value} {base : Heap}
abbrev n_solved : List Str := ["problem", "word", "value"]
theorem sc_solved : FnScope n_solved ["problem"] (defScope (top 50)) := ⟨rfl, rfl, rfl, by decide +kernel, rfl, by decide +kernel, by decide +kernel⟩
def R_solved (ds : List PyData) (d : PyData) : Prop := ∃ (n : Nat) (rs : List Rule), ds = [probD n rs] ∧ Prob n rs ∧ d = (ans n rs).toD
theorem c_solved (T : Txt K mg w) : C8.Cal P w K mg base 22 "solved" (spR K R_solved) [] := by
  refine cal_of T.solved sc_solved (fun _ _ _ _ _ _ us hl => match us, hl with | [_], _ => rfl) (fun ds d ⟨_, _, e, _⟩ => by rw [e]; rfl) ?_
  rintro f cdv A outer s H0 Ex hr ds d ⟨n, rs, rfl, h, rfl⟩ E
  have h1 := h.n1
  have h4 := h.n4
  have hn := asc_nodup (upto_asc n)
  have hne : upto n ≠ [] := fun e => by have := upto_len n; rw [e] at this; simp at this; omega
  have st : PD (CxD P w K mg base n_solved "solved" (top 50) f cdv A outer s H0 Ex) E (γ0 n_solved [probD n rs]) (match stm 50 0 with | .Assign _ e _ => e | _ => .Constant .none 0 ⟨0, 0, 0, 0⟩) (apart rs 4 (upto n)).toD :=
    d_call (c_taken_apart T 3) hr (by omega) (a_cons (dv 0) (a_cons (d_tupRg rfl T.tuple T.range (d_ixT (dv 0) di) (by omega)) a_nil)) ⟨n, rs, upto n, by rw [rgD_eq], h.few, upto_asc n, by rw [upto_len]; omega, hne, by rw [upto_len]; omega, rfl⟩
  have hm := fun p => apart_made (rs := rs) 4 (upto n) p hn hne
  have hz := fun p => apart_sz (rs := rs) 4 (upto n) p hn hne
  unfold ans
  generalize apart rs 4 (upto n) = a at st hm hz ⊢
  cases a with
  | set l => exact r_cons (s_tgt (T := T2 1 2) st (g2 1 2 rfl sc_solved.nd (pg_name sc_solved.nd rfl (Or.inl rfl)) (pg_name sc_solved.nd rfl (Or.inl rfl))) ⟨_, _, rfl, rfl⟩) (r_one (s_ret (d_tup (a_cons (dv 1) (a_cons (d_ifF (t_eq (dv 1) Tb.ds (by decide +kernel)) (dv 2)) a_nil)))))
  | plan p =>
    have m := hm p rfl
    have z := hz p rfl
    rw [upto_len] at z
    have hd := dep_sz p
    exact r_cons (s_tgt (T := T2 1 2) st (g2 1 2 rfl sc_solved.nd (pg_name sc_solved.nd rfl (Or.inl rfl)) (pg_name sc_solved.nd rfl (Or.inl rfl))) ⟨_, _, rfl, rfl⟩) (r_one (s_ret (d_tup (a_cons (dv 1) (a_cons (d_ifT (t_eq (dv 1) Tb.ds (by decide +kernel)) (d_call (c_normal_of T 8) hr (by omega) (a_cons (dv 2) a_nil) ⟨p, rfl, by omega, by omega, m.tasks.nodup_iff.mpr hn, wf_full p none m.wf, rfl⟩)) a_nil)))))
theorem sc_solve : FnScope ["problem"] ["problem"] (defScope (top 51)) := ⟨rfl, rfl, rfl, by decide +kernel, rfl, by decide +kernel, by decide +kernel⟩
theorem c_solve (T : Txt K mg w) : C8.Cal P w K mg base 23 "solve" (spR K R_solved) [] := by
  refine cal_of T.solve sc_solve (fun _ _ _ _ _ _ us hl => match us, hl with | [_], _ => rfl) (fun ds d ⟨_, _, e, _⟩ => by rw [e]; rfl) ?_
  rintro f cdv A outer s H0 Ex hr ds d ⟨n, rs, rfl, h, rfl⟩ E
  exact r_cons (s_expr (d_call (c_check_problem T) hr (by omega) (a_cons (dv 0) a_nil) ⟨⟨n, rs, rfl, h⟩, rfl⟩)) (r_one (s_ret (d_call (c_solved T) hr (by omega) (a_cons (dv 0) a_nil) ⟨n, rs, rfl, h, rfl⟩)))
theorem sc_accepts : FnScope ["problem", "answer"] ["problem", "answer"] (defScope (top 52)) := ⟨rfl, rfl, rfl, by decide +kernel, rfl, by decide +kernel, by decide +kernel⟩
def R_accepts (ds : List PyData) (d : PyData) : Prop := ∃ (n : Nat) (rs : List Rule) (a : Ans), ds = [probD n rs, a.toD] ∧ Prob n rs ∧ Good n rs a ∧ d = .bool true
theorem sub_set {n : Nat} {s : List Int} (h : s.Sublist (upto n)) (h4 : n ≤ 4) : IsSet n s :=
  ⟨(upto_asc n).sublist h, fun x hx => (mem_upto.mp (h.subset hx)).1, fun x hx => (mem_upto.mp (h.subset hx)).2, by have := h.length_le; rw [upto_len] at this; omega⟩
theorem good_plan {n : Nat} {rs : List Rule} {p : Plan} (h4 : n ≤ 4) (g : Good n rs (.plan p)) : isPlan p n = true := by
  obtain ⟨hz, ht, hw, _, _⟩ := g
  unfold isPlan
  have e : srt p.tasks = upto n := srt_uniq ht (asc_le (upto_asc n))
  rw [decide_eq_true e, Bool.and_true]
  cases p with
  | task m =>
    have := mem_upto.mp (ht.mem_iff.mp (show m ∈ (Plan.task m).tasks by rw [Plan.tasks]; simp))
    rw [hasForm, decide_eq_true this.1, decide_eq_true (by omega)]; rfl
  | node v ps =>
    have hl := tasks_deep hw
    rw [ht.length_eq, upto_len] at hl
    exact wf_form 6 _ none hw (by omega) hz fun t h => by
      have := mem_upto.mp (ht.mem_iff.mp h)
      omega
theorem c_accepts (T : Txt K mg w) : C8.Cal P w K mg base 15 "accepts_solving" (spR K R_accepts) [] := by
  refine cal_of T.accepts sc_accepts (fun _ _ _ _ _ _ us hl => match us, hl with | [_, _], _ => rfl) (fun ds d ⟨_, _, _, e, _⟩ => by rw [e]; rfl) ?_
  rintro f cdv A outer s H0 Ex hr ds d ⟨n, rs, a, rfl, h, g, rfl⟩ E
  have h1 := h.n1
  have h4 := h.n4
  refine r_cons (s_expr (d_call (c_check_problem T) hr (by omega) (a_cons (dv 0) a_nil) ⟨⟨n, rs, rfl, h⟩, rfl⟩)) ?_
  cases a with
  | plan p =>
    have ip := good_plan h4 g
    obtain ⟨hz, ht, hw, _, hk⟩ := g
    have hd := dep_sz p
    have hts := tasks_sz p
    refine r_cons (s_ifF (PW.pt (t_orF (t_not (t_val (d_isTup T.isinstance T.tuple (dv 1)))) (t_orF (t_ne (d_len T.len (dv 1)) di) (t_or1 (t_not (t_val (d_isStr T.isinstance T.str (d_ixT (dv 1) di)))))))) r_nil) ?_
    refine r_ret (s_ifT (t_eq (d_ixT (dv 1) di) Tb.ds (by decide +kernel)) (r_one (s_ret (d_andT (d_call (c_is_plan T) hr (by omega) (a_cons (d_ixT (dv 1) di) (a_cons (d_ixT (dv 0) di) a_nil)) ⟨p, n, rfl, h1, by omega, by omega, by omega, by rw [ip]⟩)
      (d_one (d_call (c_kept_by T) hr (by omega) (a_cons (dv 0) (a_cons (d_ixT (dv 1) di) a_nil)) ⟨n, rs, p, rfl, h.few.len, hz, fun r hr => ?_, by rw [hk]⟩))))))
    have o := h.ok r hr
    exact ⟨o.ne, ht.mem_iff.mpr (mem_upto.mpr ⟨o.a0, o.an⟩), ht.mem_iff.mpr (mem_upto.mpr ⟨o.b0, o.bn⟩)⟩
  | set l =>
    obtain ⟨hs, hst⟩ := g
    have is := sub_set hs h4
    have h2 := hst.two
    have hne : l ≠ [] := fun e => by subst e; exact absurd h2 (by decide)
    refine r_cons (s_ifF (PW.pt (t_orF (t_not (t_val (d_isTup T.isinstance T.tuple (dv 1)))) (t_orF (t_ne (d_len T.len (dv 1)) di) (t_or1 (t_not (t_val (d_isStr T.isinstance T.str (d_ixT (dv 1) di)))))))) r_nil) ?_
    refine r_cons (s_ifF (t_eq (d_ixT (dv 1) di) Tb.ds (by decide +kernel)) r_nil) ?_
    exact r_one (s_ret (d_andT (d_eq (d_ixT (dv 1) di) Tb.ds (by decide +kernel)) (d_andT (d_call (c_is_chosen T) hr (by omega) (a_cons (d_ixT (dv 1) di) (a_cons (d_ixT (dv 0) di) a_nil)) ⟨l, n, rfl, is, hne, rfl⟩)
      (d_one (d_call (c_stuck T) hr (by omega) (a_cons (dv 0) (a_cons (d_ixT (dv 1) di) a_nil)) ⟨n, rs, l, rfl, h.few, is.asc, is.len, h2, hst.none, rfl⟩)))))
end
end Tb

set_option maxHeartbeats 1000000
/-! book.py: is_command, behind -/
namespace Tb
open PySem PySem.Spec PyProof.Rows
open L2
inductive Cmd where
  | add (r : Rule)
  | drop (i : Nat)
  | put (i : Nat) (r : Rule)
def Cmd.toD : Cmd → PyData
  | .add r => .tuple [.str "add", r.toD]
  | .drop i => .tuple [.str "drop", .int (i : Int)]
  | .put i r => .tuple [.str "put", .int (i : Int), r.toD]
def Cmd.ok (n : Nat) : Cmd → Prop
  | .add r => r.ok n
  | .drop i => i < 20
  | .put i r => i < 20 ∧ r.ok n
/-- it may be done -/
def Cmd.fits (rs : List Rule) : Cmd → Bool
  | .add _ => decide (rs.length < 20)
  | .drop i => decide (i < rs.length)
  | .put i _ => decide (i < rs.length)
def Cmd.does (rs : List Rule) : Cmd → List Rule
  | .add r => rs ++ [r]
  | .drop i => rs.take i ++ rs.drop (i + 1)
  | .put i r => rs.take i ++ [r] ++ rs.drop (i + 1)
theorem does_prob {n : Nat} {rs : List Rule} {c : Cmd} (h : Prob n rs) (ok : c.ok n) (hf : c.fits rs = true) : Prob n (c.does rs) := by
  refine ⟨h.n1, h.n4, ?_, fun r hr => ?_⟩
  · have hl := h.len
    cases c with
    | add r =>
      have := of_decide_eq_true hf
      show (rs ++ [r]).length ≤ 20
      rw [List.length_append, List.length_singleton]; omega
    | drop i =>
      show (rs.take i ++ rs.drop (i + 1)).length ≤ 20
      rw [List.length_append, List.length_take, List.length_drop]; omega
    | put i r =>
      have := of_decide_eq_true hf
      show (rs.take i ++ [r] ++ rs.drop (i + 1)).length ≤ 20
      rw [List.length_append, List.length_append, List.length_take, List.length_drop, List.length_singleton]; omega
  · cases c with
    | add r' =>
      rcases List.mem_append.mp hr with hr | hr
      · exact h.ok r hr
      · rw [List.mem_singleton] at hr; rw [hr]; exact ok
    | drop i =>
      rcases List.mem_append.mp hr with hr | hr
      · exact h.ok r (List.mem_of_mem_take hr)
      · exact h.ok r (List.mem_of_mem_drop hr)
    | put i r' =>
      rcases List.mem_append.mp hr with hr | hr
      · rcases List.mem_append.mp hr with hr | hr
        · exact h.ok r (List.mem_of_mem_take hr)
        · rw [List.mem_singleton] at hr; rw [hr]; exact ok.2
      · exact h.ok r (List.mem_of_mem_drop hr)
section
variable {P : Program} {w : World} {K : PySem.W.Frag} {mg : Str → Option Value} {base : Heap}
theorem sc_is_command : FnScope ["value", "size"] ["value", "size"] (defScope (top 56)) := ⟨rfl, rfl, rfl, by decide +kernel, rfl, by decide +kernel, by decide +kernel⟩
def R_is_command (ds : List PyData) (d : PyData) : Prop := ∃ (c : Cmd) (n : Nat), ds = [c.toD, .int (n : Int)] ∧ c.ok n ∧ d = .bool true
theorem c_is_command (T : Txt K mg w) : C8.Cal P w K mg base 4 "is_command" (spR K R_is_command) [] := by
  refine cal_of T.is_command sc_is_command (fun _ _ _ _ _ _ us hl => match us, hl with | [_, _], _ => rfl) (fun ds d ⟨_, _, e, _⟩ => by rw [e]; rfl) ?_
  rintro f cdv A outer s H0 Ex hr ds d ⟨c, n, rfl, h, rfl⟩ E
  cases c with
  | add r =>
    refine r_cons (s_ifF (PW.pt (t_orF (t_not (t_val (d_isTup T.isinstance T.tuple (dv 0)))) (t_orF (t_ninT (d_len T.len (dv 0)) (d_tup (a_cons di (a_cons di a_nil)))) (t_or1 (t_not (t_val (d_isStr T.isinstance T.str (d_ixT (dv 0) di)))))))) r_nil) ?_
    exact r_ret (s_ifT (t_eq (d_ixT (dv 0) di) Tb.ds (by decide +kernel)) (r_one (s_ret (d_andT (d_eq (d_len T.len (dv 0)) di) (d_one (d_call (c_is_rule T) hr (by omega) (a_cons (d_ixT (dv 0) di) (a_cons (dv 1) a_nil)) ⟨r, n, rfl, h, rfl⟩))))))
  | drop i =>
    have hi : i < 20 := h
    have ti : isTask (.int (i : Int)) 20 = true := by show (decide (0 ≤ (i : Int)) && decide ((i : Int) < 20)) = true; rw [decide_eq_true (by omega), decide_eq_true (by omega)]; rfl
    refine r_cons (s_ifF (PW.pt (t_orF (t_not (t_val (d_isTup T.isinstance T.tuple (dv 0)))) (t_orF (t_ninT (d_len T.len (dv 0)) (d_tup (a_cons di (a_cons di a_nil)))) (t_or1 (t_not (t_val (d_isStr T.isinstance T.str (d_ixT (dv 0) di)))))))) r_nil) ?_
    refine r_cons (s_ifF (t_eq (d_ixT (dv 0) di) Tb.ds (by decide +kernel)) r_nil) ?_
    refine r_cons (s_ifF (t_not (t_val (d_call (c_is_task T) hr (by omega) (a_cons (d_ixT (dv 0) di) (a_cons (dg T.MOST_RULES) a_nil)) ⟨_, _, rfl, rfl⟩)) (congrArg not ti)) r_nil) ?_
    refine r_cons (s_ifF (t_eq (d_ixT (dv 0) di) Tb.ds (by decide +kernel)) r_nil) ?_
    exact r_one (s_ret (d_andT (d_eq (d_ixT (dv 0) di) Tb.ds (by decide +kernel)) (d_one (d_eq (d_len T.len (dv 0)) di))))
  | put i r =>
    obtain ⟨hi, ho⟩ := h
    have ti : isTask (.int (i : Int)) 20 = true := by show (decide (0 ≤ (i : Int)) && decide ((i : Int) < 20)) = true; rw [decide_eq_true (by omega), decide_eq_true (by omega)]; rfl
    refine r_cons (s_ifF (PW.pt (t_orF (t_not (t_val (d_isTup T.isinstance T.tuple (dv 0)))) (t_orF (t_ninT (d_len T.len (dv 0)) (d_tup (a_cons di (a_cons di a_nil)))) (t_or1 (t_not (t_val (d_isStr T.isinstance T.str (d_ixT (dv 0) di)))))))) r_nil) ?_
    refine r_cons (s_ifF (t_eq (d_ixT (dv 0) di) Tb.ds (by decide +kernel)) r_nil) ?_
    refine r_cons (s_ifF (t_not (t_val (d_call (c_is_task T) hr (by omega) (a_cons (d_ixT (dv 0) di) (a_cons (dg T.MOST_RULES) a_nil)) ⟨_, _, rfl, rfl⟩)) (congrArg not ti)) r_nil) ?_
    exact r_ret (s_ifT (t_eq (d_ixT (dv 0) di) Tb.ds (by decide +kernel)) (r_one (s_ret (d_andT (d_eq (d_len T.len (dv 0)) di) (d_one (d_call (c_is_rule T) hr (by omega) (a_cons (d_ixT (dv 0) di) (a_cons (dv 1) a_nil)) ⟨r, n, rfl, ho, rfl⟩))))))
abbrev n_behind : List Str := ["rules", "command", "at"]
theorem sc_behind : FnScope n_behind ["rules", "command"] (defScope (top 57)) := ⟨rfl, rfl, rfl, by decide +kernel, rfl, by decide +kernel, by decide +kernel⟩
def R_behind (ds : List PyData) (d : PyData) : Prop := ∃ (rs : List Rule) (c : Cmd), ds = [.tuple (rsD rs), c.toD] ∧ rs.length ≤ 100 ∧ c.fits rs = true ∧ d = .tuple (rsD (c.does rs))
theorem rsD_len (rs : List Rule) : (rsD rs).length = rs.length := by unfold rsD; rw [List.length_map]
theorem c_behind (T : Txt K mg w) : C8.Cal P w K mg base 1 "behind" (spR K R_behind) [] := by
  refine cal_of T.behind sc_behind (fun _ _ _ _ _ _ us hl => match us, hl with | [_, _], _ => rfl) (fun ds d ⟨_, _, e, _⟩ => by rw [e]; rfl) ?_
  rintro f cdv A outer s H0 Ex hr ds d ⟨rs, c, rfl, hl, h, rfl⟩ E
  have hlen : ((rsD rs).length : Int) = (rs.length : Int) := by rw [rsD_len]
  cases c with
  | add r =>
    have h20 := of_decide_eq_true h
    refine r_ret (s_ifT (t_eq (d_ixT (dv 1) di) Tb.ds (by decide +kernel)) (r_cons (s_ifF (t_ge (d_len T.len (dv 0) rfl) (dg T.MOST_RULES) (decide_eq_false (by rw [hlen]; omega))) r_nil) (r_one (s_ret (d_catT (l := rsD rs) (l2 := [r.toD]) (dv 0) (d_tup (a_cons (d_ixT (dv 1) di) a_nil)) (by rw [rsD_len, sizeLine_is]; show rs.length + 1 ≤ _; omega) ?_)))))
    show rsD rs ++ [r.toD] = rsD (rs ++ [r])
    unfold rsD
    rw [List.map_append]; rfl
  | drop i =>
    have hi := of_decide_eq_true h
    refine r_cons (s_ifF (t_eq (d_ixT (dv 1) di) Tb.ds (by decide +kernel)) r_nil) (r_cons (s_set 2 sc_behind.nd (d_ixT (dv 1) di)) (r_cons (s_ifF (t_ge (dv 2) (d_len T.len (dv 0) rfl) (decide_eq_false (by rw [hlen]; omega))) r_nil) (r_one (s_ret
      (d_catT (l := rsD (rs.take i)) (l2 := rsD (rs.drop (i + 1))) (d_catT (l := rsD (rs.take i)) (l2 := []) (d_slHi (l := rsD rs) (k := i) (dv 0) (dv 2) ?a) (d_slLo (k := 2) (dv 1) di) ?b (List.append_nil _)) (d_slLo (l := rsD rs) (k := i + 1) (dv 0) (d_add (dv 2) di) ?c) ?d ?e)))))
    case a => unfold rsD; rw [List.map_take]
    case b => rw [rsD_len, List.length_take, sizeLine_is]; show _ + 0 ≤ _; omega
    case c => unfold rsD; rw [List.map_drop]
    case d => rw [rsD_len, rsD_len, List.length_take, List.length_drop, sizeLine_is]; omega
    case e => show _ = rsD (rs.take i ++ rs.drop (i + 1)); unfold rsD; rw [List.map_append]
  | put i r =>
    have hi := of_decide_eq_true h
    refine r_cons (s_ifF (t_eq (d_ixT (dv 1) di) Tb.ds (by decide +kernel)) r_nil) (r_cons (s_set 2 sc_behind.nd (d_ixT (dv 1) di)) (r_cons (s_ifF (t_ge (dv 2) (d_len T.len (dv 0) rfl) (decide_eq_false (by rw [hlen]; omega))) r_nil) (r_one (s_ret
      (d_catT (l := rsD (rs.take i ++ [r])) (l2 := rsD (rs.drop (i + 1))) (d_catT (l := rsD (rs.take i)) (l2 := [r.toD]) (d_slHi (l := rsD rs) (k := i) (dv 0) (dv 2) ?a) (d_slLo (k := 2) (dv 1) di) ?b ?b2) (d_slLo (l := rsD rs) (k := i + 1) (dv 0) (d_add (dv 2) di) ?c) ?d ?e)))))
    case a => unfold rsD; rw [List.map_take]
    case b => rw [rsD_len, List.length_take, sizeLine_is]; show _ + 1 ≤ _; omega
    case b2 => unfold rsD; rw [List.map_append]; rfl
    case c => unfold rsD; rw [List.map_drop]
    case d => rw [rsD_len, rsD_len, List.length_append, List.length_take, List.length_drop, sizeLine_is]; show _ + 1 + _ ≤ _; omega
    case e => show _ = rsD (rs.take i ++ [r] ++ rs.drop (i + 1)); unfold rsD; rw [List.map_append (l₁ := rs.take i ++ [r])]
end
end Tb

set_option maxHeartbeats 1000000
/-! The law's own defs: tasks, relations, what is allowed. -/
namespace Tb
open PySem PySem.Spec PyProof.Rows
open L2
section
variable {X : Cx} {E : Hp × Hp} {γ : List Slot} {pos : Pos} {d : PyData}
theorem d_call0 {x : Str} {p : Pos} {k j : Nat} {R : List PyData → PyData → Prop} (c : C8.Cal X.prog X.w X.K X.mg X.base k x (spR X.K R) []) (hr : Room j X.A) (hk : k ≤ j) (h : R [] d) (hg : Gl X x := by rfl)
    (hdb : (x == ("__debug__" : Str)) = false := by decide) : PD X E γ (.Call (.Name x p) [] [] pos) d := by
  obtain ⟨f, fd, ps, ds, F, hm, kp, b, v⟩ := c.ex
  exact PE.weak (pe_call0 (E := C8.E0) F (hr.mono hk) hg hm kp b v C8.pass0 hdb) fun σ H Q ⟨B, s, q⟩ => ⟨B, [], d, s.bh, .nil, h, fun v B2 H2 g2 y => q v B2 H2 g2 y⟩
end
section
variable {P : Program} {w : World} {K : PySem.W.Frag} {mg : Str → Option Value} {base : Heap}
theorem sc_l_is_integer : FnScope ["_law_actual"] ["_law_actual"] (defScope (top 62)) := ⟨rfl, rfl, rfl, by decide +kernel, rfl, by decide +kernel, by decide +kernel⟩
theorem c_l_is_integer (T : Txt K mg w) : C8.Cal P w K mg base 1 "_law_is_integer" (spR K fun ds d => ∃ v, ds = [v] ∧ d = .bool (isI v)) [] := by
  refine cal_of T.l_is_integer sc_l_is_integer (fun _ _ _ _ _ _ us hl => match us, hl with | [_], _ => rfl) (fun ds d ⟨_, e, _⟩ => by rw [e]; rfl) ?_
  rintro f cdv A outer s H0 Ex hr ds d ⟨v, rfl, rfl⟩ E
  refine r_one (s_ret ?_)
  cases v with
  | int i => exact d_andT (d_isInt T.isinstance T.int (dv 0)) (d_one (d_not (d_isBool T.isinstance T.bool (dv 0))))
  | bool b => exact d_andT (d_isInt T.isinstance T.int (dv 0)) (d_one (d_not (d_isBool T.isinstance T.bool (dv 0))))
  | _ => exact d_andF (d_isInt T.isinstance T.int (dv 0))
theorem sc_l_relations : FnScope [] [] (defScope (top 69)) := ⟨rfl, rfl, rfl, by decide +kernel, rfl, by decide +kernel, by decide +kernel⟩
theorem c_l_relations (T : Txt K mg w) : C8.Cal P w K mg base 1 "_law_relations" (spR K fun ds d => ds = [] ∧ d = .list (rD R3)) [] := by
  refine cal_of T.l_relations sc_l_relations (fun _ _ _ _ _ _ us hl => match us, hl with | [], _ => rfl) (fun ds d ⟨e, _⟩ => by rw [e]; rfl) ?_
  rintro f cdv A outer s H0 Ex hr ds d ⟨rfl, rfl⟩ E
  exact r_one (s_ret (d_lst (a_cons Tb.ds (a_cons Tb.ds (a_cons Tb.ds a_nil)))))
/-! list.index of a text -/
section
variable {X : Cx} {E : Hp × Hp} {γ : List Slot} {pos : Pos} {e a : Expr}
theorem d_indexR {j : Nat} {r : R4} {p1 : Pos} {l : List R4} (he : PD X E γ e (.list (rD l))) (ha : PD X E γ a (.str r.s)) (hj : l[j]? = some r) (hlt : ∀ m, m < j → ∀ x, l[m]? = some x → x ≠ r)
    (hst : starEach [a] X.env = (false, eval a X.env) :: starEach [] X.env := by rfl) (hbase : attributeBase e "index" X.env (eval e X.env) = eval e X.env := by rfl)
    (hfew : ((backTo pos (starEach [a] X.env)).all (fun x => !x.1) && (backToKw pos (keywordEach [] X.env)).all (fun x => x.1.isSome) && decide ([a].length + ([] : List Keyword).length + (if ([] : List Keyword).isEmpty then 0 else 1) < 30)) = true := by rfl)
    (hline : (p1.endLine == pos.line) = true := by rfl) : PD X E γ (.Call (.Attribute e "index" p1) [a] [] pos) (.int (j : Int)) :=
  PE.weak (pe_bm PySem.F.plainAttrs_list PySem.F.slot_list_index PySem.F.type_list_index mt_index he (a_cons ha a_nil hst) hbase hfew hline hst) (fun σ H Q ⟨B, s, q⟩ => ⟨B, s, fun v B1 H1 g1 y => by
    cases y with
    | @lst z xs _ h1 h2 =>
      have hs : rD l = (l.map R4.s).map .str := by unfold rD; rw [List.map_map]; rfl
      rw [hs] at h2
      have ex := h2.strs
      subst ex
      refine ⟨.inl ⟨rfl, _, SqL.of (g1.bh _ _ h1)⟩, B1, s.up g1, fun ws B2 H2 g2 y2 => ?_⟩
      obtain ⟨w, rfl, yw⟩ := dtl1 y2
      cases yw
      refine ⟨z, _, .str r.s, j, .str r.s, rfl, rfl, SqL.of (g2.hh _ _ (g1.bh _ _ h1)), rfl, ?_, ?_, by simp [eqV], ?_, q _ B2 H2 (g1.trans g2) (.int _)⟩
      · simp [List.all_eq_true, flatV]
      · rw [List.getElem?_map, List.getElem?_map, hj]; rfl
      · intro m z' hm hz
        rw [List.getElem?_map, List.getElem?_map] at hz
        cases hq : l[m]? with
        | none => rw [hq] at hz; cases hz
        | some x =>
          rw [hq] at hz
          cases hz
          have h1 := hlt m hm x hq
          have h2 := s_inj x r
          rw [decide_eq_false h1, decide_eq_false_iff_not] at h2
          simp [eqV, h2]⟩)
end
theorem sc_l_opposite : FnScope ["_law_relation_here"] ["_law_relation_here"] (defScope (top 70)) := ⟨rfl, rfl, rfl, by decide +kernel, rfl, by decide +kernel, by decide +kernel⟩
theorem c_l_opposite (T : Txt K mg w) : C8.Cal P w K mg base 2 "_law_opposite" (spR K fun ds d => ∃ r : R4, ds = [.str r.s] ∧ r ∈ R3 ∧ d = .str r.opp.s) [] := by
  refine cal_of T.l_opposite sc_l_opposite (fun _ _ _ _ _ _ us hl => match us, hl with | [_], _ => rfl) (fun ds d ⟨_, e, _⟩ => by rw [e]; rfl) ?_
  rintro f cdv A outer s H0 Ex hr ds d ⟨r, rfl, h3, rfl⟩ E
  refine r_one (s_ret ?_)
  cases r with
  | bf => exact d_ixL (d_lst (a_cons Tb.ds (a_cons Tb.ds (a_cons Tb.ds a_nil)))) (d_indexR (j := 0) (r := .bf) (d_call0 (c_l_relations T) hr (by omega) ⟨rfl, rfl⟩) (dv 0) rfl (fun m hm => absurd hm (Nat.not_lt_zero _)))
  | bs => exact d_ixL (d_lst (a_cons Tb.ds (a_cons Tb.ds (a_cons Tb.ds a_nil)))) (d_indexR (j := 1) (r := .bs) (d_call0 (c_l_relations T) hr (by omega) ⟨rfl, rfl⟩) (dv 0) rfl (fun m hm x hx => by
      have : m = 0 := by omega
      subst this
      cases hx
      decide))
  | af => exact d_ixL (d_lst (a_cons Tb.ds (a_cons Tb.ds (a_cons Tb.ds a_nil)))) (d_indexR (j := 2) (r := .af) (d_call0 (c_l_relations T) hr (by omega) ⟨rfl, rfl⟩) (dv 0) rfl (fun m hm x hx => by
      match m, hm, hx with
      | 0, _, hx => cases hx; decide
      | 1, _, hx => cases hx; decide))
  | same => exact absurd h3 (by decide)
/-! tasks -/
abbrev n_l_tasks : List Str := ["_law_plan", "_law_found", "_law_part"]
theorem sc_l_tasks : FnScope n_l_tasks ["_law_plan"] (defScope (top 67)) := ⟨rfl, rfl, rfl, by decide +kernel, rfl, by decide +kernel, by decide +kernel⟩
theorem l_tasks_turn (T : Txt K mg w) (n : Nat) (ih : ∀ m, n = m + 1 → C8.Cal P w K mg base (m + 1) "_law_tasks" (spR K (R_all_tasks m)) []) : C8.Cal P w K mg base (n + 1) "_law_tasks" (spR K (R_all_tasks n)) [] := by
  refine cal_of T.l_tasks sc_l_tasks (fun _ _ _ _ _ _ us hl => match us, hl with | [_], _ => rfl) (fun ds d ⟨_, e, _⟩ => by rw [e]; rfl) ?_
  rintro f cdv A outer s H0 Ex hr ds d ⟨p, rfl, hd, hz, rfl⟩ E
  cases p with
  | task m => exact r_ret (s_ifT (t_val (d_isInt T.isinstance T.int (dv 0))) (r_one (s_ret (d_lst (a_cons (dv 0) a_nil)))))
  | node b ps =>
    unfold Plan.toD
    refine r_cons (s_ifF (t_val (d_isInt T.isinstance T.int (dv 0))) r_nil) ?_
    refine r_cons (s_set 1 sc_l_tasks.nd (d_lst a_nil)) ?_
    unfold Plan.dep at hd
    unfold Plan.tasks at hz ⊢
    obtain ⟨m, rfl⟩ : ∃ m, n = m + 1 := ⟨n - 1, by omega⟩
    have lp : ∀ (qs : List Plan) (acc : List PyData) (s2 : Slot), depL qs ≤ m → (acc.length + (tasksL qs).length ≤ 900) → ∃ s2',
        Loop (CxD P w K mg base n_l_tasks "_law_tasks" (top 67) f cdv A outer s H0 Ex) E (T1 2) (bodyOf (stm 67 2)) (toDs qs) [.dat (.tuple [.str (wd b), .tuple (toDs ps)]), .dat (.list acc), s2] (.next [.dat (.tuple [.str (wd b), .tuple (toDs ps)]), .dat (.list (acc ++ (tasksL qs).map .int)), s2']) := by
      intro qs
      induction qs with
      | nil =>
        intro acc s2 _ _
        refine ⟨s2, ?_⟩
        have e : acc ++ (tasksL []).map PyData.int = acc := List.append_nil _
        rw [e]
        exact .nil
      | cons q qs ihq =>
        intro acc s2 hd hz
        have h1 : q.dep ≤ m := Nat.le_trans (Nat.le_max_left _ _) hd
        have h3 : depL qs ≤ m := Nat.le_trans (Nat.le_max_right _ _) hd
        have h4 : (tasksL (q :: qs)).length = q.tasks.length + (tasksL qs).length := by rw [tasksL, List.length_append]
        obtain ⟨s2', k⟩ := ihq (acc ++ q.tasks.map .int) (.dat q.toD) h3 (by rw [List.length_append, List.length_map]; omega)
        refine ⟨s2', ?_⟩
        have e : acc ++ (tasksL (q :: qs)).map PyData.int = acc ++ q.tasks.map .int ++ (tasksL qs).map .int := by rw [tasksL, List.map_append, List.append_assoc]
        rw [e]
        refine .next rfl (r_one (s_set 1 sc_l_tasks.nd (d_catL (l := acc) (l2 := q.tasks.map .int) (dv 1) (d_call (ih m rfl) hr (by omega) (a_cons (dv 2) a_nil) ⟨q, rfl, h1, by omega, rfl⟩) (by rw [List.length_map, sizeLine_is]; omega)))) k
    obtain ⟨s2', lp⟩ := lp ps [] .no (by omega) (by simpa using hz)
    exact r_cons (s_forT .never rfl (d_ixT (dv 0) di) (g1 2 sc_l_tasks.nd) lp) (r_one (s_ret (dv 1)))
theorem c_l_tasks (T : Txt K mg w) (n : Nat) : C8.Cal P w K mg base (n + 1) "_law_tasks" (spR K (R_all_tasks n)) [] := by
  induction n with
  | zero => exact l_tasks_turn T 0 fun m h => absurd h (by omega)
  | succ n ih => exact l_tasks_turn T (n + 1) (fun m h => (show m = n by omega) ▸ ih)
end
end Tb

set_option maxHeartbeats 1000000
/-! The law's own defs: relation, allowed, keeps. -/
namespace Tb
open PySem PySem.Spec PyProof.Rows
open L2
theorem places_head {t : Int} {ps : List Plan} (h : t ∈ tasksL ps) {q : Nat → Bool} (hq : ∀ i p, ps[i]? = some p → q i = decide (t ∈ p.tasks)) : ((List.range ps.length).filter q)[0]? = some (idx t ps) := by
  have hl := idx_lt h
  obtain ⟨p, h1, h2⟩ := idx_at h
  have hi : q (idx t ps) = true := by rw [hq _ p h1, decide_eq_true h2]
  have key : ∀ (n m : Nat), (∀ i, i < m → i < n → q i = false) → m < n → q m = true → ((List.range n).filter q)[0]? = some m := by
    intro n
    induction n with
    | zero => intro m _ hm _; omega
    | succ n ih =>
      intro m h0 hm hqm
      rw [List.range_succ, List.filter_append]
      by_cases e : m < n
      · have := ih m (fun i a b => h0 i a (by omega)) e hqm
        rw [List.getElem?_append_left ((List.getElem?_eq_some_iff.mp this).1)]
        exact this
      · have em : m = n := by omega
        subst em
        have e0 : (List.range m).filter q = [] := List.filter_eq_nil_iff.mpr fun i hi => by
          rw [List.mem_range] at hi
          rw [h0 i hi (by omega)]
          exact Bool.false_ne_true
        rw [e0, List.nil_append, List.filter_cons_of_pos hqm]
        rfl
  refine key ps.length (idx t ps) (fun i hi hn => ?_) hl hi
  have e : ps[i]? = some ps[i] := List.getElem?_eq_getElem hn
  rw [hq i _ e]
  exact decide_eq_false (idx_not hi e)
section
variable {P : Program} {w : World} {K : PySem.W.Frag} {mg : Str → Option Value} {base : Heap}
abbrev n_l_relation : List Str := ["_law_plan", "_law_first", "_law_second", "_law_places", "_law_task", "_law_at"]
theorem sc_l_relation : FnScope n_l_relation ["_law_plan", "_law_first", "_law_second"] (defScope (top 68)) := ⟨rfl, rfl, rfl, by decide +kernel, rfl, by decide +kernel, by decide +kernel⟩
def R_l_relation (n : Nat) (ds : List PyData) (d : PyData) : Prop := ∃ (p : Plan) (x y : Int), ds = [p.toD, .int x, .int y] ∧ p.dep ≤ n ∧ p.sz ≤ 8 ∧ x ∈ p.tasks ∧ y ∈ p.tasks ∧ d = .str (p.rel x y).s
theorem l_relation_turn (T : Txt K mg w) (n : Nat) (ih : ∀ m, n = m + 1 → C8.Cal P w K mg base (m + 10) "_law_relation" (spR K (R_l_relation m)) []) : C8.Cal P w K mg base (n + 10) "_law_relation" (spR K (R_l_relation n)) [] := by
  refine cal_of T.l_relation sc_l_relation (fun _ _ _ _ _ _ us hl => match us, hl with | [_, _, _], _ => rfl) (fun ds d ⟨_, _, _, e, _⟩ => by rw [e]; rfl) ?_
  rintro f cdv A outer s H0 Ex hr ds d ⟨p, x, y, rfl, hd, hz, hx, hy, rfl⟩ E
  cases p with
  | task m =>
    have e : ((Plan.task m).rel x y).s = "same" := by rw [Plan.rel]; rfl
    rw [e]
    exact r_ret (s_ifT (t_val (d_isInt T.isinstance T.int (dv 0))) (r_one (s_ret Tb.ds)))
  | node b ps =>
    unfold Plan.dep at hd
    have hz' := hz
    unfold Plan.sz at hz'
    unfold Plan.tasks at hx hy
    have hlen : ps.length ≤ 8 := Nat.le_trans (len_szL ps) (by omega)
    obtain ⟨m, rfl⟩ : ∃ j, n = j + 1 := ⟨n - 1, by omega⟩
    unfold Plan.toD
    have turn : ∀ (t : Int) (acc : List PyData), acc.length ≤ 5 → t ∈ tasksL ps → PRs (CxD P w K mg base n_l_relation "_law_relation" (top 68) f cdv A outer s H0 Ex) E [.dat (.tuple [.str (wd b), .tuple (toDs ps)]), .dat (.int x), .dat (.int y), .own acc, .dat (.int t), .no] (bodyOf (stm 68 2)) (.next [.dat (.tuple [.str (wd b), .tuple (toDs ps)]), .dat (.int x), .dat (.int y), .own (acc ++ [.int (idx t ps : Int)]), .dat (.int t), .no]) := by
      intro t acc ha ht
      refine r_one (s_append 3 (d_ixL (ds := ((List.range ps.length).filter fun i => match ps[i]? with | some p => decide (t ∈ p.tasks) | none => false).map fun (i : Nat) => PyData.int (i : Int)) (d_lcR (T := T1 5) [("_law_at", 5)] (n := ps.length) rfl sc_l_relation.nd T.range (d_len T.len (d_ixT (dv 0) di) rfl (hk_ := by rw [toDs_len])) (by omega) (id (α := blkC n_l_relation (defScope (top 68)) _ _ = true) (by decide +kernel)) (fun _ _ _ _ _ => pg_name sc_l_relation.nd rfl (Or.inl rfl)) (tg1 (by decide)) (lc_filters fun i hi => ?lc)) di ?hat) (by omega))
      case hat =>
        have h := places_head (ps := ps) ht (q := fun i => match ps[i]? with | some p => decide (t ∈ p.tasks) | none => false) (fun i p e => by rw [e])
        exact atI_nat (j := 0) (by rw [List.getElem?_map, h]; rfl)
      case lc =>
        have hi' : i < ps.length := List.mem_range.mp hi
        have e1 : ps[i]? = some (ps[i]'hi') := List.getElem?_eq_getElem hi'
        have hm := List.mem_of_getElem? e1
        have h1 := dep_le hm
        have h2 := sz_mem hm
        have h3 := dep_sz ps[i]
        have h4 := tasks_sz ps[i]
        refine ⟨_, rfl, fun s H C cl fp => ?_, fun _ s H C cl fp => dv 5⟩
        rw [e1]
        exact t_inL (dv 4) (d_call (c_l_tasks T 8) hr (by omega) (a_cons (d_ixT (d_ixT (dv 0) di) (dv 5) (toDs_at e1)) a_nil) ⟨ps[i], rfl, by omega, by omega, rfl⟩) rfl (flat_ints _) rfl (inD_int _ _)
    refine r_cons (s_ifF (t_val (d_isInt T.isinstance T.int (dv 0))) r_nil) (r_cons (s_newOwn 3 sc_l_relation.nd) (r_cons (s_forL .never rfl (d_lst (a_cons (dv 1) (a_cons (dv 2) a_nil))) (g1 4 sc_l_relation.nd) (.next rfl (turn x [] (by decide) hx) (.next rfl (turn y _ (by show 1 ≤ 5; decide) hy) .nil))) (r_freeze 3 ?_)))
    rw [Plan.rel]
    by_cases h : idx x ps = idx y ps
    · obtain ⟨q, hq, hxq⟩ := idx_at hx
      obtain ⟨q', hq', hyq⟩ := idx_at hy
      rw [← h, hq] at hq'
      cases hq'
      have hm := List.mem_of_getElem? hq
      have h1 := dep_le hm
      have h2 := sz_mem hm
      rw [if_pos h, relAt_eq x y ps _ q hq]
      exact r_ret (s_ifT (t_eq (d_ixL (dv 3) di) (d_ixL (dv 3) di) (by rw [h]; simp [eqF])) (r_one (s_ret (d_call (ih m rfl) hr (by omega) (a_cons (d_ixT (d_ixT (dv 0) di) (d_ixL (dv 3) di) (toDs_at hq)) (a_cons (dv 1) (a_cons (dv 2) a_nil))) ⟨q, x, y, rfl, by omega, by omega, hxq, hyq, rfl⟩))))
    · rw [if_neg h]
      refine r_cons (s_ifF (t_eq (d_ixL (dv 3) di) (d_ixL (dv 3) di) (by
          show some (decide ((idx x ps : Int) = (idx y ps : Int))) = some false
          rw [decide_eq_false (by omega)])) r_nil) ?_
      cases b with
      | false => exact r_ret (s_ifT (t_eq (d_ixT (dv 0) di) Tb.ds (by decide +kernel)) (r_one (s_ret Tb.ds)))
      | true =>
        refine r_cons (s_ifF (t_eq (d_ixT (dv 0) di) Tb.ds (by decide +kernel)) r_nil) ?_
        by_cases h2 : idx x ps < idx y ps
        · rw [if_pos rfl, if_pos h2]
          exact r_one (s_ret (d_ixL (d_lst (a_cons Tb.ds (a_cons Tb.ds a_nil))) (d_intB (k := true) T.int (d_lt (d_ixL (dv 3) di) (d_ixL (dv 3) di) (decide_eq_true (by omega))))))
        · rw [if_pos rfl, if_neg h2]
          exact r_one (s_ret (d_ixL (d_lst (a_cons Tb.ds (a_cons Tb.ds a_nil))) (d_intB (k := false) T.int (d_lt (d_ixL (dv 3) di) (d_ixL (dv 3) di) (decide_eq_false (by omega))))))
theorem c_l_relation (T : Txt K mg w) (n : Nat) : C8.Cal P w K mg base (n + 10) "_law_relation" (spR K (R_l_relation n)) [] := by
  induction n with
  | zero => exact l_relation_turn T 0 fun m h => absurd h (by omega)
  | succ n ih => exact l_relation_turn T (n + 1) (fun m h => (show m = n by omega) ▸ ih)
end
end Tb

set_option maxHeartbeats 1000000
/-! The law's own defs: allowed, keeps, reaches, sets. -/
namespace Tb
open PySem PySem.Spec PyProof.Rows
open L2
theorem eqv_two (a b x y : Int) : PyData.eqv (.tuple [.int a, .int b]) (.tuple [.int x, .int y]) = decide (a = x ∧ b = y) := by
  have := eqvAll_ints [a, b] [x, y]
  show PyData.eqvAll _ _ = _
  rw [show [PyData.int a, .int b] = [a, b].map PyData.int from rfl, show [PyData.int x, .int y] = [x, y].map PyData.int from rfl, this]
  simp
section
variable {P : Program} {w : World} {K : PySem.W.Frag} {mg : Str → Option Value} {base : Heap}
abbrev n_l_allowed : List Str := ["_law_problem", "_law_first", "_law_second", "_law_found", "_law_one", "_law_relations_here", "_law_other", "_law_relation_here"]
theorem sc_l_allowed : FnScope n_l_allowed ["_law_problem", "_law_first", "_law_second"] (defScope (top 72)) := ⟨rfl, rfl, rfl, by decide +kernel, rfl, by decide +kernel, by decide +kernel⟩
theorem filter_opps {fo al : List R4} (h : ∀ z ∈ fo, z ∈ R3) : fo.filter (fun z => decide (z.opp ∈ al)) = fo.filter (fun z => decide (z ∈ opps al)) :=
  List.filter_congr fun z hz => by rw [decide_eq_decide]; exact (mem_opps (h z hz)).symm
theorem c_l_allowed (T : Txt K mg w) : C8.Cal P w K mg base 3 "_law_allowed" (spR K R_allowed_of) [] := by
  refine cal_of T.l_allowed sc_l_allowed (fun _ _ _ _ _ _ us hl => match us, hl with | [_, _, _], _ => rfl) (fun ds d ⟨_, _, _, _, e, _⟩ => by rw [e]; rfl) ?_
  rintro f cdv A outer s H0 Ex hr ds d ⟨n, rs, x, y, rfl, hl, ha, rfl⟩ E
  have lp : ∀ (qs : List Rule) (fo : List R4) (s4 s5 s6 : Slot), fo.length ≤ 3 → (∀ z ∈ fo, z ∈ R3) → (∀ r ∈ qs, r.al.length ≤ 3) → ∃ s4' s5' s6',
      Loop (CxD P w K mg base n_l_allowed "_law_allowed" (top 72) f cdv A outer s H0 Ex) E (T3 4 5 6) (bodyOf (stm 72 1)) (rsD qs) [.dat (probD n rs), .dat (.int x), .dat (.int y), .dat (.list (rD fo)), s4, s5, s6, .no] (.next [.dat (probD n rs), .dat (.int x), .dat (.int y), .dat (.list (rD (qs.foldl (stepR x y) fo))), s4', s5', s6', .no]) := by
    intro qs
    induction qs with
    | nil => intro fo s4 s5 s6 _ _ _; exact ⟨s4, s5, s6, .nil⟩
    | cons r qs ih =>
      intro fo s4 s5 s6 hf h3 hq
      have hA : (stepA x y fo r).length ≤ 3 := by unfold stepA; split; exact filter_len hf; exact hf
      have hA3 : ∀ z ∈ stepA x y fo r, z ∈ R3 := fun z hz => h3 z (stepA_sub hz)
      have hB : (stepR x y fo r).length ≤ 3 := by unfold stepR stepB; split; exact filter_len hA; exact hA
      obtain ⟨s4', s5', s6', k⟩ := ih (stepR x y fo r) (.dat (.int r.a)) (.dat (.tuple (rD r.al))) (.dat (.int r.b)) hB (fun z hz => h3 z (stepR_sub hz)) fun r' h' => hq r' (List.mem_cons_of_mem _ h')
      refine ⟨s4', s5', s6', .next ⟨_, _, _, rfl, rfl⟩ (r_cons (γ1 := [.dat (probD n rs), .dat (.int x), .dat (.int y), .dat (.list (rD (stepA x y fo r))), .dat (.int r.a), .dat (.tuple (rD r.al)), .dat (.int r.b), .no]) ?i1 (r_one ?i2)) k⟩
      case i1 =>
        unfold stepA
        by_cases h1 : r.a = x ∧ r.b = y
        · rw [if_pos h1]
          refine s_ifT (t_eqD hr.units (d_tup (a_cons (dv 4) (a_cons (dv 6) a_nil))) (d_tup (a_cons (dv 1) (a_cons (dv 2) a_nil))) (shaped_tints [r.a, r.b]) (shaped_tints [x, y]) ((eqv_two _ _ _ _).trans (decide_eq_true h1))) (r_one (s_lcL (T := T1 7) 3 [("_law_relation_here", 7)] rfl sc_l_allowed.nd (dv 3) (id (α := blkC n_l_allowed (defScope (top 72)) _ _ = true) (by decide +kernel)) (fun _ _ _ _ _ => pg_name sc_l_allowed.nd rfl (Or.inl rfl)) (tg1 (by decide)) (by unfold rD; rw [List.length_map]; omega) (lc_filterE fo (fun z => decide (z ∈ r.al)) (fun x => .str x.s) (fun x => .str x.s) fun x hx => ⟨_, rfl, fun s H C cl fp => t_inT (dv 7) (dv 5) rfl (flat_rD _) rfl (inD_str x _), fun _ s H C cl fp => dv 7⟩)))
        · rw [if_neg h1]
          exact s_ifF (t_eqD hr.units (d_tup (a_cons (dv 4) (a_cons (dv 6) a_nil))) (d_tup (a_cons (dv 1) (a_cons (dv 2) a_nil))) (shaped_tints [r.a, r.b]) (shaped_tints [x, y]) ((eqv_two _ _ _ _).trans (decide_eq_false h1))) r_nil
      case i2 =>
        unfold stepR stepB
        generalize stepA x y fo r = fo1 at hA hA3 ⊢
        by_cases h1 : r.a = y ∧ r.b = x
        · rw [if_pos h1, ← filter_opps hA3]
          refine s_ifT (t_eqD hr.units (d_tup (a_cons (dv 4) (a_cons (dv 6) a_nil))) (d_tup (a_cons (dv 2) (a_cons (dv 1) a_nil))) (shaped_tints [r.a, r.b]) (shaped_tints [y, x]) ((eqv_two _ _ _ _).trans (decide_eq_true h1))) (r_one (s_lcL (T := T1 7) 3 [("_law_relation_here", 7)] rfl sc_l_allowed.nd (dv 3) (id (α := blkC n_l_allowed (defScope (top 72)) _ _ = true) (by decide +kernel)) (fun _ _ _ _ _ => pg_name sc_l_allowed.nd rfl (Or.inl rfl)) (tg1 (by decide)) (by unfold rD; rw [List.length_map]; omega) (lc_filterE fo1 (fun z => decide (z.opp ∈ r.al)) (fun x => .str x.s) (fun x => .str x.s) fun x hx => ⟨_, rfl, fun s H C cl fp => t_inT (d_call (c_l_opposite T) hr (by omega) (a_cons (dv 7) a_nil) ⟨x, rfl, hA3 x hx, rfl⟩) (dv 5) rfl (flat_rD _) rfl (inD_str x.opp _), fun _ s H C cl fp => dv 7⟩)))
        · rw [if_neg h1]
          exact s_ifF (t_eqD hr.units (d_tup (a_cons (dv 4) (a_cons (dv 6) a_nil))) (d_tup (a_cons (dv 2) (a_cons (dv 1) a_nil))) (shaped_tints [r.a, r.b]) (shaped_tints [y, x]) ((eqv_two _ _ _ _).trans (decide_eq_false h1))) r_nil
  obtain ⟨s4', s5', s6', lp⟩ := lp rs R3 .no .no .no (by decide) (fun z hz => hz) ha
  exact r_cons (s_set 3 sc_l_allowed.nd (d_call0 (c_l_relations T) hr (by omega) ⟨rfl, rfl⟩)) (r_cons (s_forT .never rfl (d_ixT (dv 0) di) (g3 4 5 6 rfl sc_l_allowed.nd (pg_name sc_l_allowed.nd rfl (Or.inl rfl)) (pg_name sc_l_allowed.nd rfl (Or.inr rfl)) (pg_name sc_l_allowed.nd rfl (Or.inl rfl))) lp) (r_one (s_ret (d_tuple T.tuple (dv 3)))))
abbrev n_l_keeps : List Str := ["_law_problem", "_law_plan", "_law_one", "_law_relations_here", "_law_other"]
theorem sc_l_keeps : FnScope n_l_keeps ["_law_problem", "_law_plan"] (defScope (top 73)) := ⟨rfl, rfl, rfl, by decide +kernel, rfl, by decide +kernel, by decide +kernel⟩
def R_l_keeps (ds : List PyData) (d : PyData) : Prop := ∃ (n : Nat) (rs : List Rule) (p : Plan), ds = [probD n rs, p.toD] ∧ rs.length ≤ 100 ∧ p.sz ≤ 8 ∧ (∀ r ∈ rs, r.a ∈ p.tasks ∧ r.b ∈ p.tasks) ∧ d = .bool (keeps rs p)
theorem c_l_keeps (T : Txt K mg w) : C8.Cal P w K mg base 19 "_law_keeps" (spR K R_l_keeps) [] := by
  refine cal_of T.l_keeps sc_l_keeps (fun _ _ _ _ _ _ us hl => match us, hl with | [_, _], _ => rfl) (fun ds d ⟨_, _, _, e, _⟩ => by rw [e]; rfl) ?_
  rintro f cdv A outer s H0 Ex hr ds d ⟨n, rs, p, rfl, hl, hz, hr2, rfl⟩ E
  have hd := dep_sz p
  exact r_one (s_ret (d_allM (ps := rs) (b := fun r => decide (p.rel r.a r.b ∈ r.al)) rfl T.all (d_lcT (T := T3 2 3 4) (l := rsD rs) [("_law_one", 2), ("_law_relations_here", 3), ("_law_other", 4)] rfl sc_l_keeps.nd (d_ixT (dv 0) di) (id (α := blkC n_l_keeps (defScope (top 73)) _ _ = true) (by decide +kernel)) (fun _ _ _ _ _ => pg_tup rfl (pgs_cons (pg_name sc_l_keeps.nd rfl (Or.inl rfl)) (pgs_cons (pg_name sc_l_keeps.nd rfl (Or.inl rfl)) (pgs_cons (pg_name sc_l_keeps.nd rfl (Or.inl rfl)) pgs_nil rfl) rfl) rfl) rfl rfl) (tg3 (by decide) (by decide) (by decide)) (by unfold rsD; rw [List.length_map]; omega) (lc_maps fun r hrr => ⟨_, ⟨_, _, _, rfl, rfl⟩, fun s H C cl fp =>
    d_inT (d_call (c_l_relation T 8) hr (by omega) (a_cons (dv 1) (a_cons (dv 2) (a_cons (dv 4) a_nil))) ⟨p, r.a, r.b, rfl, by omega, hz, (hr2 r hrr).1, (hr2 r hrr).2, rfl⟩) (dv 3) rfl (flat_rD _) rfl (inD_str _ _)⟩))))
/-! reaches -/
abbrev n_l_reaches : List Str := ["_law_problem", "_law_chosen", "_law_start", "_law_relation_here", "_law_met", "_law_turn", "_law_other"]
theorem sc_l_reaches : FnScope n_l_reaches ["_law_problem", "_law_chosen", "_law_start", "_law_relation_here"] (defScope (top 75)) := ⟨rfl, rfl, rfl, by decide +kernel, rfl, by decide +kernel, by decide +kernel⟩
def leadOf (rs : List Rule) (z : R4) (x y : Int) : Bool := !decide (z ∈ alw rs x y)
def R_l_reaches (ds : List PyData) (d : PyData) : Prop := ∃ (n : Nat) (rs : List Rule) (ch : List Int) (t : Int) (z : R4), ds = [probD n rs, .tuple (ch.map .int), .int t, .str z.s] ∧ Few rs ∧ ch.Nodup ∧ ch.length ≤ 8 ∧ t ∈ ch ∧ (∀ x ∈ ch, Rch (leadOf rs z) ch t x) ∧ d = .bool true
theorem c_l_reaches (T : Txt K mg w) : C8.Cal P w K mg base 4 "_law_reaches" (spR K R_l_reaches) [] := by
  refine cal_of T.l_reaches sc_l_reaches (fun _ _ _ _ _ _ us hl => match us, hl with | [_, _, _, _], _ => rfl) (fun ds d ⟨_, _, _, _, _, e, _⟩ => by rw [e]; rfl) ?_
  rintro f cdv A outer s H0 Ex hr ds d ⟨n, rs, ch, t, z, rfl, hf, hnd, hl, ht, hall, rfl⟩ E
  have inner : ∀ (m i k : Nat) (ks : List Int) (x : Int) (s6 : Slot), ch.length - k = m → ks[i]? = some x → notOwn s6 = true → QInv (leadOf rs z) ch t ks i k → ∃ (ks' : List Int) (s6' : Slot), notOwn s6' = true ∧ QInv (leadOf rs z) ch t ks' i ch.length ∧
      Loop (CxD P w K mg base n_l_reaches "_law_reaches" (top 75) f cdv A outer s H0 Ex) E (T1 6) (bodyOf ((bodyOf ((bodyOf (stm 75 1)).getD 0 (.Pass ⟨0, 0, 0, 0⟩))).getD 0 (.Pass ⟨0, 0, 0, 0⟩))) ((ch.drop k).map .int) [.dat (probD n rs), .dat (.tuple (ch.map .int)), .dat (.int t), .dat (.str z.s), .own (ks.map .int), .dat (.int (i : Int)), s6]
        (.next [.dat (probD n rs), .dat (.tuple (ch.map .int)), .dat (.int t), .dat (.str z.s), .own (ks'.map .int), .dat (.int (i : Int)), s6']) := by
    intro m
    induction m with
    | zero =>
      intro i k ks x s6 hm hx h6 q
      refine ⟨ks, s6, h6, ⟨q.nd, q.t0, q.sub, q.cl, fun y hy j v hj => q.hh y hy j v (by omega)⟩, ?_⟩
      rw [List.drop_eq_nil_of_le (by omega)]
      exact .nil
    | succ m ih =>
      intro i k ks x s6 hm hx h6 q
      have hlt : k < ch.length := by omega
      have hy : ch[k]? = some ch[k] := List.getElem?_eq_getElem hlt
      rw [List.drop_eq_getElem_cons hlt, List.map_cons]
      have h1 := q.len
      have h7 : notOwn (Slot.dat (.int ch[k])) = true := rfl
      by_cases hk : ch[k] ∈ ks
      · obtain ⟨ks', s6', q6, q', lp⟩ := ih i (k + 1) ks x (.dat (.int ch[k])) (by omega) hx rfl (q.seen hx hy (.inl hk))
        exact ⟨ks', s6', q6, q', .next rfl (r_one (s_ifF (PW.pt (t_andF (t_ninO 4 (dv 6) rfl (flat_ints _) (hk_ := by rw [inD_int, decide_eq_true hk]; rfl)))) r_nil)) lp⟩
      · have tl : ∀ b, leadOf rs z x ch[k] = b → PB (CxD P w K mg base n_l_reaches "_law_reaches" (top 75) f cdv A outer s H0 Ex) E [.dat (probD n rs), .dat (.tuple (ch.map .int)), .dat (.int t), .dat (.str z.s), .own (ks.map .int), .dat (.int (i : Int)), .dat (.int ch[k])] (testOf ((bodyOf ((bodyOf ((bodyOf (stm 75 1)).getD 0 (.Pass ⟨0, 0, 0, 0⟩))).getD 0 (.Pass ⟨0, 0, 0, 0⟩))).getD 0 (.Pass ⟨0, 0, 0, 0⟩))) b := fun b hb =>
          PW.pt (t_andT (t_ninO 4 (dv 6) rfl (flat_ints _) (hk_ := by rw [inD_int, decide_eq_false hk]; rfl)) (t_and1 (t_ninT (dv 3) (d_call (c_l_allowed T) hr (by omega) (a_cons (dv 0) (a_cons (d_ixO 4 (dv 5) (ints_at hx)) (a_cons (dv 6) a_nil))) ⟨n, rs, x, ch[k], rfl, hf.len, hf.al, rfl⟩) rfl (flat_rD _) rfl ((congrArg not (inD_str z _)).trans hb))))
        cases hb : leadOf rs z x ch[k] with
        | false =>
          obtain ⟨ks', s6', q6, q', lp⟩ := ih i (k + 1) ks x (.dat (.int ch[k])) (by omega) hx rfl (q.seen hx hy (.inr hb))
          exact ⟨ks', s6', q6, q', .next rfl (r_one (s_ifF (tl _ hb) r_nil)) lp⟩
        | true =>
          have hx2 : (ks ++ [ch[k]])[i]? = some x := by rw [List.getElem?_append_left ((List.getElem?_eq_some_iff.mp hx).1)]; exact hx
          obtain ⟨ks', s6', q6, q', lp⟩ := ih i (k + 1) (ks ++ [ch[k]]) x (.dat (.int ch[k])) (by omega) hx2 rfl (q.met hx hy hk)
          refine ⟨ks', s6', q6, q', .next rfl (r_one (s_ifT (tl _ hb) (r_one (s_append (ds := ks.map .int) 4 (dv 6) (by rw [List.length_map]; omega))))) ?_⟩
          rw [List.map_append] at lp
          exact lp
  have outer_ : ∀ (m i : Nat) (ks : List Int) (s5 s6 : Slot), ch.length - i = m → notOwn s5 = true → notOwn s6 = true → QInv (leadOf rs z) ch t ks i 0 → ∃ (ks' : List Int) (s5' s6' : Slot), notOwn s5' = true ∧ notOwn s6' = true ∧ ks'.length = ch.length ∧
      Loop (CxD P w K mg base n_l_reaches "_law_reaches" (top 75) f cdv A outer s H0 Ex) E (T1 5) (bodyOf (stm 75 1)) ((rgD ch.length).drop i) [.dat (probD n rs), .dat (.tuple (ch.map .int)), .dat (.int t), .dat (.str z.s), .own (ks.map .int), s5, s6]
        (.next [.dat (probD n rs), .dat (.tuple (ch.map .int)), .dat (.int t), .dat (.str z.s), .own (ks'.map .int), s5', s6']) := by
    intro m
    induction m with
    | zero =>
      intro i ks s5 s6 hm h5 h6 q
      refine ⟨ks, s5, s6, h5, h6, q.all (by omega) hnd hall, ?_⟩
      rw [List.drop_eq_nil_of_le (by rw [rgD_len]; omega)]
      exact .nil
    | succ m ih =>
      intro i ks s5 s6 hm h5 h6 q
      have hlt : i < (rgD ch.length).length := by rw [rgD_len]; omega
      have e1 : (rgD ch.length)[i] = .int (i : Int) := Option.some.inj ((List.getElem?_eq_getElem hlt).symm.trans (rgD_get (by omega)))
      rw [List.drop_eq_getElem_cons hlt, e1]
      by_cases hk : i < ks.length
      · have hx : ks[i]? = some ks[i] := List.getElem?_eq_getElem hk
        obtain ⟨ks1, s6', q6, q1, lp⟩ := inner _ i 0 ks ks[i] s6 rfl hx h6 q
        obtain ⟨ks', s5'', s6'', a1, a2, a3, lp2⟩ := ih (i + 1) ks1 (.dat (.int (i : Int))) s6' (by omega) rfl q6 (q1.done (.inl (Nat.le_refl _)))
        exact ⟨ks', s5'', s6'', a1, a2, a3, .next rfl (r_one (s_ifT (t_lt (dv 5) (d_lenO 4 T.len) (decide_eq_true (by rw [List.length_map]; omega))) (r_one (s_forT .never rfl (dv 1) (g1 6 sc_l_reaches.nd) lp)))) lp2⟩
      · obtain ⟨ks', s5'', s6'', a1, a2, a3, lp2⟩ := ih (i + 1) ks (.dat (.int (i : Int))) s6 (by omega) rfl h6 (q.done (.inr (by omega)))
        exact ⟨ks', s5'', s6'', a1, a2, a3, .next rfl (r_one (s_ifF (t_lt (dv 5) (d_lenO 4 T.len) (decide_eq_false (by rw [List.length_map]; omega))) r_nil)) lp2⟩
  obtain ⟨ks', s5', s6', a1, a2, a3, lp⟩ := outer_ _ 0 [t] .no .no rfl rfl rfl (.start ht)
  refine r_cons (s_newOwn1 4 sc_l_reaches.nd (dv 2)) (r_cons (s_forR (n := ch.length) .never rfl T.range (d_len T.len (dv 1) rfl (hk_ := by rw [List.length_map])) (by omega) (g1 5 sc_l_reaches.nd) lp) (r_one (s_ret (d_eq (d_lenO 4 T.len) (d_len T.len (dv 1) rfl) (by
    show some (decide (((ks'.map PyData.int).length : Int) = ((ch.map PyData.int).length : Int))) = some true
    rw [List.length_map, List.length_map, a3, decide_eq_true rfl])))))
end
end Tb

set_option maxHeartbeats 1000000
/-! The law's own defs: what is right. -/
namespace Tb
open PySem PySem.Spec PyProof.Rows
open L2
def Cmd.why (rs : List Rule) (c : Cmd) : Str := if c.fits rs = true then "" else match c with
  | .add _ => "many"
  | _ => "missing"
section
variable {P : Program} {w : World} {K : PySem.W.Frag} {mg : Str → Option Value} {base : Heap}
abbrev n_l_is_set : List Str := ["_law_value", "_law_size", "_law_one", "_law_k"]
theorem sc_l_is_set : FnScope n_l_is_set ["_law_value", "_law_size"] (defScope (top 76)) := ⟨rfl, rfl, rfl, by decide +kernel, rfl, by decide +kernel, by decide +kernel⟩
theorem c_l_is_set (T : Txt K mg w) : C8.Cal P w K mg base 2 "_law_is_set" (spR K R_is_set) [] := by
  refine cal_of T.l_is_set sc_l_is_set (fun _ _ _ _ _ _ us hl => match us, hl with | [_, _], _ => rfl) (fun ds d ⟨_, _, e, _⟩ => by rw [e]; rfl) ?_
  rintro f cdv A outer s H0 Ex hr ds d ⟨l, n, rfl, h, hne, rfl⟩ E
  have hlen := h.len
  have hpos : 1 ≤ l.length := List.length_pos_iff.mpr hne
  refine r_cons (s_ifF (PW.pt (t_orF (t_not (t_val (d_isTup T.isinstance T.tuple (dv 0)))) (t_or1 (t_not (t_val (d_allM (ps := l) (b := fun _ => true) rfl T.all (d_lcT (T := T1 2) [("_law_one", 2)] rfl sc_l_is_set.nd (dv 0) (id (α := blkC n_l_is_set (defScope (top 76)) _ _ = true) (by decide +kernel)) (fun _ _ _ _ _ => pg_name sc_l_is_set.nd rfl (Or.inl rfl)) (tg1 (by decide)) (by rw [List.length_map]; omega) (lc_maps fun x hx => ⟨_, rfl, fun s H C cl fp =>
    d_andT (d_call (c_l_is_integer T) hr (by omega) (a_cons (dv 2) a_nil) ⟨_, rfl, rfl⟩) (d_one (d_chainLT di (dv 2) (dv 1) (by with_unfolding_all rfl) ?t1))⟩)) rfl rfl (all_true l))))))) r_nil) ?_
  · rw [decide_eq_true (h.lo x hx), decide_eq_true (h.hi x hx)]; rfl
  · refine r_one (s_ret (d_allM (ps := List.range (l.length - 1)) (b := fun _ => true) rfl T.all (d_lcR (T := T1 3) [("_law_k", 3)] (n := l.length - 1) rfl sc_l_is_set.nd T.range (d_sub (d_len T.len (dv 0) rfl) di (by rw [List.length_map]; omega)) (by omega) (id (α := blkC n_l_is_set (defScope (top 76)) _ _ = true) (by decide +kernel)) (fun _ _ _ _ _ => pg_name sc_l_is_set.nd rfl (Or.inl rfl)) (tg1 (by decide)) (lc_maps fun i hi => ?_)) rfl rfl (all_true _)))
    have hi' : i < l.length - 1 := List.mem_range.mp hi
    have e1 : l[i]? = some (l[i]'(by omega)) := List.getElem?_eq_getElem _
    have e2 : l[i + 1]? = some (l[i + 1]'(by omega)) := List.getElem?_eq_getElem _
    refine ⟨_, rfl, fun s H C cl fp => d_lt (d_ixT (dv 0) (dv 3) (ints_at e1)) (d_ixT (dv 0) (d_add (dv 3) di) (ints_at (i := i + 1) e2)) (decide_eq_true ?_)⟩
    exact List.pairwise_iff_getElem.mp h.asc i (i + 1) (by omega) (by omega) (by omega)
abbrev n_l_is_stuck : List Str := ["_law_problem", "_law_chosen", "_law_one"]
theorem sc_l_is_stuck : FnScope n_l_is_stuck ["_law_problem", "_law_chosen"] (defScope (top 77)) := ⟨rfl, rfl, rfl, by decide +kernel, rfl, by decide +kernel, by decide +kernel⟩
def R_l_is_stuck (ds : List PyData) (d : PyData) : Prop := ∃ (n : Nat) (rs : List Rule) (l : List Int), ds = [probD n rs, .tuple (l.map .int)] ∧ Few rs ∧ IsSet n l ∧ Stuck rs l ∧ d = .bool true
theorem c_l_is_stuck (T : Txt K mg w) : C8.Cal P w K mg base 5 "_law_is_stuck" (spR K R_l_is_stuck) [] := by
  refine cal_of T.l_is_stuck sc_l_is_stuck (fun _ _ _ _ _ _ us hl => match us, hl with | [_, _], _ => rfl) (fun ds d ⟨_, _, _, e, _⟩ => by rw [e]; rfl) ?_
  rintro f cdv A outer s H0 Ex hr ds d ⟨n, rs, l, rfl, hf, h, hs, rfl⟩ E
  have hlen := h.len
  have h2 := hs.two
  have hne : l ≠ [] := fun e => by subst e; exact absurd h2 (by decide)
  have hnd := asc_nodup h.asc
  have e0 : l[0]? = some (l.headD 0) := by
    cases l with
    | nil => exact absurd rfl hne
    | cons a l => rfl
  have hm0 := List.mem_of_getElem? e0
  refine r_cons (s_ifF (PW.pt (t_orF (t_not (t_val (d_call (c_l_is_set T) hr (by omega) (a_cons (dv 1) (a_cons (d_ixT (dv 0) di) a_nil)) ⟨l, n, rfl, h, hne, rfl⟩))) (t_or1 (t_lt (d_len T.len (dv 1) rfl) di (decide_eq_false (by rw [List.length_map]; omega)))))) r_nil) ?_
  refine r_cons (s_ifF (t_not (t_val (d_call (c_l_reaches T) hr (by omega) (a_cons (dv 0) (a_cons (dv 1) (a_cons (d_ixT (dv 1) di (ints_at (i := 0) e0)) (a_cons Tb.ds a_nil)))) ⟨n, rs, l, _, .bs, rfl, hf, hnd, hlen, hm0, stuck_tie hs.none, rfl⟩))) r_nil) ?_
  exact r_one (s_ret (d_allM (ps := l) (b := fun _ => true) rfl T.all (d_lcT (T := T1 2) [("_law_one", 2)] rfl sc_l_is_stuck.nd (dv 1) (id (α := blkC n_l_is_stuck (defScope (top 77)) _ _ = true) (by decide +kernel)) (fun _ _ _ _ _ => pg_name sc_l_is_stuck.nd rfl (Or.inl rfl)) (tg1 (by decide)) (by rw [List.length_map]; omega) (lc_maps fun x hx => ⟨_, rfl, fun s H C cl fp =>
    d_call (c_l_reaches T) hr (by omega) (a_cons (dv 0) (a_cons (dv 1) (a_cons (dv 2) (a_cons Tb.ds a_nil)))) ⟨n, rs, l, x, .bf, rfl, hf, hnd, hlen, hx, stuck_bar hs.none x hx, rfl⟩⟩)) rfl rfl (all_true l)))
abbrev n_l_is_plan_of : List Str := ["_law_value", "_law_word", "_law_part"]
theorem sc_l_is_plan_of : FnScope n_l_is_plan_of ["_law_value", "_law_word"] (defScope (top 78)) := ⟨rfl, rfl, rfl, by decide +kernel, rfl, by decide +kernel, by decide +kernel⟩
def R_l_is_plan_of (n : Nat) (ds : List PyData) (d : PyData) : Prop := ∃ (p : Plan) (o : Option Bool), ds = [p.toD, .str (oD o)] ∧ p.dep ≤ n ∧ p.sz ≤ 8 ∧ p.wf o = true ∧ d = .bool true
theorem l_is_plan_of_turn (T : Txt K mg w) (n : Nat) (ih : ∀ m, n = m + 1 → C8.Cal P w K mg base (m + 2) "_law_is_plan_of" (spR K (R_l_is_plan_of m)) []) : C8.Cal P w K mg base (n + 2) "_law_is_plan_of" (spR K (R_l_is_plan_of n)) [] := by
  refine cal_of T.l_is_plan_of sc_l_is_plan_of (fun _ _ _ _ _ _ us hl => match us, hl with | [_, _], _ => rfl) (fun ds d ⟨_, _, e, _⟩ => by rw [e]; rfl) ?_
  rintro f cdv A outer s H0 Ex hr ds d ⟨p, o, rfl, hd, hz, hw, rfl⟩ E
  cases p with
  | task m => exact r_ret (s_ifT (t_val (d_call (c_l_is_integer T) hr (by omega) (a_cons (dv 0) a_nil) ⟨_, rfl, rfl⟩)) (r_one (s_ret dbl)))
  | node b ps =>
    unfold Plan.dep at hd
    have hz' := hz
    unfold Plan.sz at hz'
    have hlen : ps.length ≤ 8 := Nat.le_trans (len_szL ps) (by omega)
    have hw' := wf_node.mp hw
    obtain ⟨m, rfl⟩ : ∃ j, n = j + 1 := ⟨n - 1, by omega⟩
    unfold Plan.toD
    refine r_cons (s_ifF (t_val (d_call (c_l_is_integer T) hr (by omega) (a_cons (dv 0) a_nil) ⟨_, rfl, rfl⟩)) r_nil) ?_
    refine r_cons (s_ifF (PW.pt (t_orF (t_not (t_val (d_isTup T.isinstance T.tuple (dv 0)))) (t_orF (t_ne (d_len T.len (dv 0)) di) (t_orF (t_not (t_val (d_isStr T.isinstance T.str (d_ixT (dv 0) di)))) (t_or1 (t_ninL (d_ixT (dv 0) di) (d_lst (a_cons Tb.ds (a_cons Tb.ds a_nil))) rfl rfl rfl (congrArg not (wd_in b)))))))) r_nil) ?_
    refine r_cons (s_ifF (PW.pt (t_orF (t_eq (d_ixT (dv 0) di) (dv 1) (by exact congrArg some ((oD_eq o b).trans (decide_eq_false hw'.1)))) (t_orF (t_not (t_val (d_isTup T.isinstance T.tuple (d_ixT (dv 0) di)))) (t_or1 (t_lt (d_len T.len (d_ixT (dv 0) di) rfl) di (decide_eq_false (by rw [toDs_len]; have := hw'.2.1; omega))))))) r_nil) ?_
    refine r_one (s_ret (d_allM (ps := ps) (b := fun _ => true) rfl T.all (d_lcT (T := T1 2) [("_law_part", 2)] rfl sc_l_is_plan_of.nd (d_ixT (dv 0) di) (id (α := blkC n_l_is_plan_of (defScope (top 78)) _ _ = true) (by decide +kernel)) (fun _ _ _ _ _ => pg_name sc_l_is_plan_of.nd rfl (Or.inl rfl)) (tg1 (by decide)) (by rw [toDs_len]; omega) ?_) rfl rfl (all_true ps)))
    rw [toDs_eq]
    exact lc_maps fun q hq => ⟨_, rfl, fun s H C cl fp => d_call (ih m rfl) hr (by omega) (a_cons (dv 2) (a_cons (d_ixT (dv 0) di) a_nil)) ⟨q, some b, rfl, by have := dep_le hq; omega, by have := sz_mem hq; omega, hw'.2.2 q hq, rfl⟩⟩
theorem c_l_is_plan_of (T : Txt K mg w) (n : Nat) : C8.Cal P w K mg base (n + 2) "_law_is_plan_of" (spR K (R_l_is_plan_of n)) [] := by
  induction n with
  | zero => exact l_is_plan_of_turn T 0 fun m h => absurd h (by omega)
  | succ n ih => exact l_is_plan_of_turn T (n + 1) (fun m h => (show m = n by omega) ▸ ih)
theorem sc_l_is_solution : FnScope ["_law_problem", "_law_value"] ["_law_problem", "_law_value"] (defScope (top 79)) := ⟨rfl, rfl, rfl, by decide +kernel, rfl, by decide +kernel, by decide +kernel⟩
def R_l_is_solution (ds : List PyData) (d : PyData) : Prop := ∃ (n : Nat) (rs : List Rule) (p : Plan), ds = [probD n rs, p.toD] ∧ Prob n rs ∧ Good n rs (.plan p) ∧ d = .bool true
theorem c_l_is_solution (T : Txt K mg w) : C8.Cal P w K mg base 20 "_law_is_solution" (spR K R_l_is_solution) [] := by
  refine cal_of T.l_is_solution sc_l_is_solution (fun _ _ _ _ _ _ us hl => match us, hl with | [_, _], _ => rfl) (fun ds d ⟨_, _, _, e, _⟩ => by rw [e]; rfl) ?_
  rintro f cdv A outer s H0 Ex hr ds d ⟨n, rs, p, rfl, h, g, rfl⟩ E
  have h1 := h.n1
  have h4 := h.n4
  obtain ⟨hz, ht, hw, _, hk⟩ := g
  have hd := dep_sz p
  have hts := tasks_sz p
  have es : srt p.tasks = upto n := srt_uniq ht (asc_le (upto_asc n))
  have ee : PyData.eqv (.list ((srt p.tasks).map .int)) (.list (rgD n)) = true := by
    rw [rgD_eq]
    show PyData.eqvAll _ _ = _
    rw [eqvAll_ints, es, decide_eq_true rfl]
  refine r_cons (s_ifF (PW.pt (t_orF (t_not (t_val (d_call (c_l_is_plan_of T 8) hr (by omega) (a_cons (dv 1) (a_cons Tb.ds a_nil)) ⟨p, none, rfl, by omega, hz, hw, rfl⟩))) (t_or1 (t_neD hr.units (d_sorted T.sorted (d_call (c_l_tasks T 8) hr (by omega) (a_cons (dv 1) a_nil) ⟨p, rfl, by omega, by omega, rfl⟩) (by omega) (srt_perm _) (srt_pw _)) (d_lstRg rfl T.list T.range (d_ixT (dv 0) di) (by omega)) (shaped_lints _) (by rw [rgD_eq]; exact shaped_lints _) (congrArg not ee))))) r_nil) ?_
  refine r_one (s_ret (d_call (c_l_keeps T) hr (by omega) (a_cons (dv 0) (a_cons (dv 1) a_nil)) ⟨n, rs, p, rfl, h.few.len, hz, fun r hr => ?_, by rw [hk]⟩))
  have o := h.ok r hr
  exact ⟨ht.mem_iff.mpr (mem_upto.mpr ⟨o.a0, o.an⟩), ht.mem_iff.mpr (mem_upto.mpr ⟨o.b0, o.bn⟩)⟩
theorem sc_l_answer : FnScope ["_law_problem", "_law_value"] ["_law_problem", "_law_value"] (defScope (top 84)) := ⟨rfl, rfl, rfl, by decide +kernel, rfl, by decide +kernel, by decide +kernel⟩
theorem c_l_answer (T : Txt K mg w) : C8.Cal P w K mg base 21 "_law_answer_is_right" (spR K R_accepts) [] := by
  refine cal_of T.l_answer_is_right sc_l_answer (fun _ _ _ _ _ _ us hl => match us, hl with | [_, _], _ => rfl) (fun ds d ⟨_, _, _, e, _⟩ => by rw [e]; rfl) ?_
  rintro f cdv A outer s H0 Ex hr ds d ⟨n, rs, a, rfl, h, g, rfl⟩ E
  cases a with
  | plan p =>
    refine r_cons (s_ifF (PW.pt (t_orF (t_not (t_val (d_isTup T.isinstance T.tuple (dv 1)))) (t_orF (t_ne (d_len T.len (dv 1)) di) (t_or1 (t_not (t_val (d_isStr T.isinstance T.str (d_ixT (dv 1) di)))))))) r_nil) ?_
    exact r_ret (s_ifT (t_eq (d_ixT (dv 1) di) Tb.ds (by decide +kernel)) (r_one (s_ret (d_call (c_l_is_solution T) hr (by omega) (a_cons (dv 0) (a_cons (d_ixT (dv 1) di) a_nil)) ⟨n, rs, p, rfl, h, g, rfl⟩))))
  | set l =>
    refine r_cons (s_ifF (PW.pt (t_orF (t_not (t_val (d_isTup T.isinstance T.tuple (dv 1)))) (t_orF (t_ne (d_len T.len (dv 1)) di) (t_or1 (t_not (t_val (d_isStr T.isinstance T.str (d_ixT (dv 1) di)))))))) r_nil) ?_
    refine r_cons (s_ifF (t_eq (d_ixT (dv 1) di) Tb.ds (by decide +kernel)) r_nil) ?_
    exact r_one (s_ret (d_andT (d_eq (d_ixT (dv 1) di) Tb.ds (by decide +kernel)) (d_one (d_call (c_l_is_stuck T) hr (by omega) (a_cons (dv 0) (a_cons (d_ixT (dv 1) di) a_nil)) ⟨n, rs, l, rfl, h.few, sub_set g.1 h.n4, g.2, rfl⟩))))
theorem sc_l_why_not : FnScope ["_law_rules", "_law_command_here"] ["_law_rules", "_law_command_here"] (defScope (top 81)) := ⟨rfl, rfl, rfl, by decide +kernel, rfl, by decide +kernel, by decide +kernel⟩
def R_l_why_not (ds : List PyData) (d : PyData) : Prop := ∃ (rs : List Rule) (c : Cmd), ds = [.tuple (rsD rs), c.toD] ∧ d = .str (c.why rs)
theorem c_l_why_not (T : Txt K mg w) : C8.Cal P w K mg base 1 "_law_why_not" (spR K R_l_why_not) [] := by
  refine cal_of T.l_why_not sc_l_why_not (fun _ _ _ _ _ _ us hl => match us, hl with | [_, _], _ => rfl) (fun ds d ⟨_, _, e, _⟩ => by rw [e]; rfl) ?_
  rintro f cdv A outer s H0 Ex hr ds d ⟨rs, c, rfl, rfl⟩ E
  have hlen : ((rsD rs).length : Int) = (rs.length : Int) := by rw [rsD_len]
  cases c with
  | add r =>
    refine r_ret (s_ifT (t_eq (d_ixT (dv 1) di) Tb.ds (by decide +kernel)) (r_one (s_ret ?_)))
    by_cases h : rs.length < 20
    · have e : (Cmd.add r).why rs = "" := if_pos (decide_eq_true h)
      rw [e]
      exact d_ixL (d_lst (a_cons Tb.ds (a_cons Tb.ds a_nil))) (d_intB (k := false) T.int (d_ge (d_len T.len (dv 0) rfl) di (decide_eq_false (by rw [hlen]; omega))))
    · have e : (Cmd.add r).why rs = "many" := if_neg (by show ¬ decide (rs.length < 20) = true; rw [decide_eq_false h]; exact Bool.false_ne_true)
      rw [e]
      exact d_ixL (d_lst (a_cons Tb.ds (a_cons Tb.ds a_nil))) (d_intB (k := true) T.int (d_ge (d_len T.len (dv 0) rfl) di (decide_eq_true (by rw [hlen]; omega))))
  | drop i =>
    refine r_cons (s_ifF (t_eq (d_ixT (dv 1) di) Tb.ds (by decide +kernel)) r_nil) (r_one (s_ret ?_))
    by_cases h : i < rs.length
    · have e : (Cmd.drop i).why rs = "" := if_pos (decide_eq_true h)
      rw [e]
      exact d_ixL (d_lst (a_cons Tb.ds (a_cons Tb.ds a_nil))) (d_intB (k := true) T.int (d_lt (d_ixT (dv 1) di) (d_len T.len (dv 0) rfl) (decide_eq_true (by rw [hlen]; omega))))
    · have e : (Cmd.drop i).why rs = "missing" := if_neg (by show ¬ decide (i < rs.length) = true; rw [decide_eq_false h]; exact Bool.false_ne_true)
      rw [e]
      exact d_ixL (d_lst (a_cons Tb.ds (a_cons Tb.ds a_nil))) (d_intB (k := false) T.int (d_lt (d_ixT (dv 1) di) (d_len T.len (dv 0) rfl) (decide_eq_false (by rw [hlen]; omega))))
  | put i r =>
    refine r_cons (s_ifF (t_eq (d_ixT (dv 1) di) Tb.ds (by decide +kernel)) r_nil) (r_one (s_ret ?_))
    by_cases h : i < rs.length
    · have e : (Cmd.put i r).why rs = "" := if_pos (decide_eq_true h)
      rw [e]
      exact d_ixL (d_lst (a_cons Tb.ds (a_cons Tb.ds a_nil))) (d_intB (k := true) T.int (d_lt (d_ixT (dv 1) di) (d_len T.len (dv 0) rfl) (decide_eq_true (by rw [hlen]; omega))))
    · have e : (Cmd.put i r).why rs = "missing" := if_neg (by show ¬ decide (i < rs.length) = true; rw [decide_eq_false h]; exact Bool.false_ne_true)
      rw [e]
      exact d_ixL (d_lst (a_cons Tb.ds (a_cons Tb.ds a_nil))) (d_intB (k := false) T.int (d_lt (d_ixT (dv 1) di) (d_len T.len (dv 0) rfl) (decide_eq_false (by rw [hlen]; omega))))
theorem sc_l_behind : FnScope ["_law_rules", "_law_command_here"] ["_law_rules", "_law_command_here"] (defScope (top 82)) := ⟨rfl, rfl, rfl, by decide +kernel, rfl, by decide +kernel, by decide +kernel⟩
theorem c_l_behind (T : Txt K mg w) : C8.Cal P w K mg base 1 "_law_behind" (spR K R_behind) [] := by
  refine cal_of T.l_behind sc_l_behind (fun _ _ _ _ _ _ us hl => match us, hl with | [_, _], _ => rfl) (fun ds d ⟨_, _, e, _⟩ => by rw [e]; rfl) ?_
  rintro f cdv A outer s H0 Ex hr ds d ⟨rs, c, rfl, hl, h, rfl⟩ E
  cases c with
  | add r =>
    refine r_ret (s_ifT (t_eq (d_ixT (dv 1) di) Tb.ds (by decide +kernel)) (r_one (s_ret (d_catT (l := rsD rs) (l2 := [r.toD]) (dv 0) (d_tup (a_cons (d_ixT (dv 1) di) a_nil)) (by rw [rsD_len, sizeLine_is]; show rs.length + 1 ≤ _; omega) ?_))))
    show rsD rs ++ [r.toD] = rsD (rs ++ [r])
    unfold rsD
    rw [List.map_append]; rfl
  | drop i =>
    refine r_cons (s_ifF (t_eq (d_ixT (dv 1) di) Tb.ds (by decide +kernel)) r_nil) (r_one (s_ret
      (d_catT (l := rsD (rs.take i)) (l2 := rsD (rs.drop (i + 1))) (d_catT (l := rsD (rs.take i)) (l2 := []) (d_slHi (l := rsD rs) (k := i) (dv 0) (d_ixT (dv 1) di) ?a) (d_slLo (k := 2) (dv 1) di) ?b (List.append_nil _)) (d_slLo (l := rsD rs) (k := i + 1) (dv 0) (d_add (d_ixT (dv 1) di) di) ?c) ?d ?e)))
    case a => unfold rsD; rw [List.map_take]
    case b => rw [rsD_len, List.length_take, sizeLine_is]; show _ + 0 ≤ _; omega
    case c => unfold rsD; rw [List.map_drop]
    case d => rw [rsD_len, rsD_len, List.length_take, List.length_drop, sizeLine_is]; omega
    case e => show _ = rsD (rs.take i ++ rs.drop (i + 1)); unfold rsD; rw [List.map_append]
  | put i r =>
    refine r_cons (s_ifF (t_eq (d_ixT (dv 1) di) Tb.ds (by decide +kernel)) r_nil) (r_one (s_ret
      (d_catT (l := rsD (rs.take i ++ [r])) (l2 := rsD (rs.drop (i + 1))) (d_catT (l := rsD (rs.take i)) (l2 := [r.toD]) (d_slHi (l := rsD rs) (k := i) (dv 0) (d_ixT (dv 1) di) ?a) (d_slLo (k := 2) (dv 1) di) ?b ?b2) (d_slLo (l := rsD rs) (k := i + 1) (dv 0) (d_add (d_ixT (dv 1) di) di) ?c) ?d ?e)))
    case a => unfold rsD; rw [List.map_take]
    case b => rw [rsD_len, List.length_take, sizeLine_is]; show _ + 1 ≤ _; omega
    case b2 => unfold rsD; rw [List.map_append]; rfl
    case c => unfold rsD; rw [List.map_drop]
    case d => rw [rsD_len, rsD_len, List.length_append, List.length_take, List.length_drop, sizeLine_is]; show _ + 1 + _ ≤ _; omega
    case e => show _ = rsD (rs.take i ++ [r] ++ rs.drop (i + 1)); unfold rsD; rw [List.map_append (l₁ := rs.take i ++ [r])]
end
end Tb

set_option maxHeartbeats 1000000
/-! The law's own defs: all plans of a size. -/
namespace Tb
open PySem PySem.Spec PyProof.Rows
open L2
def blD (l : List (List Int)) : List PyData := l.map fun b => .list (b.map .int)
def rowD (r : List Plan) : PyData := .tuple (r.map Plan.toD)
def roD (l : List (List Plan)) : List PyData := l.map rowD
theorem blkStep_len (ts : List Int) : ∀ acc : List (List Int), acc.length ≤ (ts.foldl blkStep acc).length := by
  induction ts with
  | nil => intro acc; exact Nat.le_refl _
  | cons t ts ih =>
    intro acc
    rw [List.foldl_cons]
    refine Nat.le_trans ?_ (ih _)
    unfold blkStep
    rw [List.length_append]; omega
theorem subs_all_len : ∀ ts ∈ subs4, (blocksAll ts).length ≤ 16 ∧ ∀ b ∈ blocksAll ts, b.length ≤ 4 := by decide +kernel
theorem blk_keep {x : List Int} : ∀ {ts : List Int} {acc : List (List Int)}, x ∈ acc → x ∈ ts.foldl blkStep acc
  | [], _, h => h
  | t :: ts, acc, h => blk_keep (ts := ts) (acc := blkStep acc t) (List.mem_append_left _ h)
section
variable {P : Program} {w : World} {K : PySem.W.Frag} {mg : Str → Option Value} {base : Heap}
abbrev n_l_blocks : List Str := ["_law_tasks_here", "_law_word", "_law_found", "_law_task", "_law_block"]
theorem sc_l_blocks : FnScope n_l_blocks ["_law_tasks_here", "_law_word"] (defScope (top 64)) := ⟨rfl, rfl, rfl, by decide +kernel, rfl, by decide +kernel, by decide +kernel⟩
def R_l_blocks (ds : List PyData) (d : PyData) : Prop := ∃ (ts : List Int) (b : Bool), ds = [.list (ts.map .int), .str (wd b)] ∧ ts ∈ subs4 ∧ ts ≠ [] ∧ d = .list (blD (blocksM ts b))
theorem c_l_blocks (T : Txt K mg w) : C8.Cal P w K mg base 1 "_law_blocks" (spR K R_l_blocks) [] := by
  refine cal_of T.l_blocks sc_l_blocks (fun _ _ _ _ _ _ us hl => match us, hl with | [_, _], _ => rfl) (fun ds d ⟨_, _, e, _⟩ => by rw [e]; rfl) ?_
  rintro f cdv A outer s H0 Ex hr ds d ⟨ts, b, rfl, hts, hne, rfl⟩ E
  obtain ⟨h16, h4⟩ := subs_all_len ts hts
  have lp : ∀ (qs : List Int) (acc : List (List Int)) (s3 : Slot), (qs.foldl blkStep acc).length ≤ 16 → (∀ b ∈ qs.foldl blkStep acc, b.length ≤ 4) → ∃ s3' : Slot,
      Loop (CxD P w K mg base n_l_blocks "_law_blocks" (top 64) f cdv A outer s H0 Ex) E (T1 3) (bodyOf (stm 64 1)) (qs.map .int) [.dat (.list (ts.map .int)), .dat (.str (wd b)), .dat (.list (blD acc)), s3, .no] (.next [.dat (.list (ts.map .int)), .dat (.str (wd b)), .dat (.list (blD (qs.foldl blkStep acc))), s3', .no]) := by
    intro qs
    induction qs with
    | nil => intro acc s3 _ _; exact ⟨s3, .nil⟩
    | cons q qs ih =>
      intro acc s3 h1 h2
      obtain ⟨s3', k⟩ := ih (blkStep acc q) (.dat (.int q)) h1 h2
      have ha := blkStep_len (q :: qs) acc
      have hb : ∀ x ∈ acc, x.length ≤ 4 := fun x hx => h2 x (blk_keep hx)
      refine ⟨s3', .next rfl (r_one (s_set 2 sc_l_blocks.nd (d_catL (l := blD acc) (l2 := blD (acc.map fun b => b ++ [q])) (dv 2) (d_lcL (T := T1 4) [("_law_block", 4)] rfl sc_l_blocks.nd (dv 2) (id (α := blkC n_l_blocks (defScope (top 64)) _ _ = true) (by decide +kernel)) (fun _ _ _ _ _ => pg_name sc_l_blocks.nd rfl (Or.inl rfl)) (tg1 (by decide)) (by unfold blD; rw [List.length_map]; omega) ?l1) ?hz ?he))) k⟩
      case l1 =>
        unfold blD
        rw [List.map_map]
        refine lc_maps fun x hx => ⟨_, rfl, fun s H C cl fp => d_catL (l := x.map .int) (l2 := [.int q]) (dv 4) (d_lst (a_cons (dv 3) a_nil)) ?_ ?_⟩
        · rw [List.length_map, sizeLine_is]; have := hb x hx; show _ + 1 ≤ _; omega
        · rw [List.map_append]; rfl
      case hz =>
        unfold blD
        rw [List.length_map, List.length_map, List.length_map, sizeLine_is]
        omega
      case he => unfold blD blkStep; rw [List.map_append]
  obtain ⟨s3', lp⟩ := lp ts [[]] .no h16 h4
  refine r_cons (s_set 2 sc_l_blocks.nd (d_lst (l := blD [[]]) (a_cons (d_lst a_nil) a_nil))) (r_cons (s_forL .never rfl (dv 0) (g1 3 sc_l_blocks.nd) lp) ?_)
  have hsz : (blD (ts.foldl blkStep [[]])).length ≤ 100000 := by
    unfold blD; rw [List.length_map]; exact Nat.le_trans h16 (by decide)
  cases b with
  | false =>
    refine r_ret (s_ifT (t_eq (dv 1) Tb.ds (by decide +kernel)) (r_one (s_ret (d_lcL (T := T1 4) [("_law_block", 4)] rfl sc_l_blocks.nd (dv 2) (id (α := blkC n_l_blocks (defScope (top 64)) _ _ = true) (by decide +kernel)) (fun _ _ _ _ _ => pg_name sc_l_blocks.nd rfl (Or.inl rfl)) (tg1 (by decide)) hsz ?l2))))
    case l2 =>
      have e0 : ts[0]? = some (ts.headD 0) := by
        cases ts with
        | nil => exact absurd rfl hne
        | cons a l => rfl
      exact lc_filterE (blocksAll ts) (blkIn ts false) (fun b => .list (b.map .int)) (fun b => .list (b.map .int)) fun x hx => ⟨_, rfl, fun s H C cl fp => t_inL (d_ixL (dv 0) di (ints_at (i := 0) e0)) (dv 4) rfl (flat_ints _) rfl (inD_int _ _), fun _ s H C cl fp => dv 4⟩
  | true =>
    refine r_cons (s_ifF (t_eq (dv 1) Tb.ds (by decide +kernel)) r_nil) (r_one (s_ret (d_lcL (T := T1 4) [("_law_block", 4)] rfl sc_l_blocks.nd (dv 2) (id (α := blkC n_l_blocks (defScope (top 64)) _ _ = true) (by decide +kernel)) (fun _ _ _ _ _ => pg_name sc_l_blocks.nd rfl (Or.inl rfl)) (tg1 (by decide)) hsz ?l3)))
    case l3 =>
      exact lc_filterE (blocksAll ts) (blkIn ts true) (fun b => .list (b.map .int)) (fun b => .list (b.map .int)) fun x hx => ⟨_, rfl, fun s H C cl fp => t_truL (dv 4) (hk_ := by
        show _ = !x.isEmpty
        cases x <;> rfl), fun _ s H C cl fp => dv 4⟩
/-! rows and heads -/
abbrev n_l_rows : List Str := ["_law_tasks_here", "_law_word", "_law_whole", "_law_found", "_law_block", "_law_rest", "_law_head", "_law_task", "_law_tail"]
theorem sc_l_rows : FnScope n_l_rows ["_law_tasks_here", "_law_word", "_law_whole"] (defScope (top 63)) := ⟨rfl, rfl, rfl, by decide +kernel, rfl, by decide +kernel, by decide +kernel⟩
theorem sc_l_heads : FnScope ["_law_block", "_law_word", "_law_other", "_law_row"] ["_law_block", "_law_word"] (defScope (top 65)) := ⟨rfl, rfl, rfl, by decide +kernel, rfl, by decide +kernel, by decide +kernel⟩
abbrev n_l_heads : List Str := ["_law_block", "_law_word", "_law_other", "_law_row"]
def R_l_rows (k : Nat) (ds : List PyData) (d : PyData) : Prop := ∃ (ts : List Int) (b whole : Bool), ds = [.list (ts.map .int), .str (wd b), .bool whole] ∧ k < 13 ∧ ts ∈ subs4 ∧ 1 ≤ ts.length ∧ (whole = false → 2 ≤ ts.length) ∧ 3 * ts.length ≤ k + (if whole then 1 else 3) ∧ d = .list (roD (rowsM k ts b whole))
def R_l_heads (k : Nat) (ds : List PyData) (d : PyData) : Prop := ∃ (ts : List Int) (b : Bool), ds = [.list (ts.map .int), .str (wd b)] ∧ k < 13 ∧ ts ∈ subs4 ∧ 1 ≤ ts.length ∧ 3 * ts.length ≤ k + 2 ∧ d = .list ((headsM k ts b).map Plan.toD)
theorem rowStep_le {hs : List Plan} {rws : List (List Plan)} {rest : List Int} {whole : Bool} (f : List (List Plan)) : f.length ≤ (rowStep hs rws rest whole f).length := by
  unfold rowStep
  split
  · split
    · rw [List.length_append]; omega
    · exact Nat.le_refl _
  · induction hs generalizing f with
    | nil => exact Nat.le_refl _
    | cons h hs ih =>
      rw [List.foldl_cons]
      refine Nat.le_trans ?_ (ih _)
      rw [List.length_append]; omega
theorem foldl_le {α β : Type} {g : List β → α → List β} (hg : ∀ f a, f.length ≤ (g f a).length) : ∀ (l : List α) (f : List β), f.length ≤ (l.foldl g f).length
  | [], f => Nat.le_refl _
  | a :: l, f => Nat.le_trans (hg f a) (foldl_le hg l (g f a))
theorem l_rows_turn (T : Txt K mg w) (k : Nat) (ihR : C8.Cal P w K mg base (k + 2) "_law_rows" (spR K (R_l_rows k)) []) (ihH : C8.Cal P w K mg base (k + 2) "_law_heads" (spR K (R_l_heads k)) []) : C8.Cal P w K mg base (k + 3) "_law_rows" (spR K (R_l_rows (k + 1))) [] := by
  refine cal_of T.l_rows sc_l_rows (fun _ _ _ _ _ _ us hl => match us, hl with | [_, _, _], _ => rfl) (fun ds d ⟨_, _, _, e, _⟩ => by rw [e]; rfl) ?_
  rintro f cdv A outer s H0 Ex hr ds d ⟨ts, b, whole, rfl, hk, hts, h1, hw2, h3, rfl⟩ E
  have hlen4 := subs_len ts hts
  have hsm := (rows_small (k + 1) hk ts hts b whole).1
  have hbl := subs_blocks ts hts b
  rw [rowsM] at hsm ⊢
  generalize hB : blocksM ts b = Bs at hsm hbl ⊢
  -- one turn
  have turn : ∀ (acc : List (List Plan)) (q : List Int) (s5 s6 : Slot), q ∈ subs4 → restOf ts q ∈ subs4 → 1 ≤ q.length → q.length + (restOf ts q).length = ts.length → (rowStep (headsM k q b) (rowsM k (restOf ts q) b true) (restOf ts q) whole acc).length ≤ 500 → ∃ s5' s6' : Slot,
      PRs (CxD P w K mg base n_l_rows "_law_rows" (top 63) f cdv A outer s H0 Ex) E [.dat (.list (ts.map .int)), .dat (.str (wd b)), .dat (.bool whole), .dat (.list (roD acc)), .dat (.list (q.map .int)), s5, s6, .no, .no] (bodyOf (stm 63 1)) (.next [.dat (.list (ts.map .int)), .dat (.str (wd b)), .dat (.bool whole), .dat (.list (roD (rowStep (headsM k q b) (rowsM k (restOf ts q) b true) (restOf ts q) whole acc))), .dat (.list (q.map .int)), s5', s6', .no, .no]) := by
    intro acc q s5 s6 hq hr4 hq1 hql h500
    have st : PR (CxD P w K mg base n_l_rows "_law_rows" (top 63) f cdv A outer s H0 Ex) E [.dat (.list (ts.map .int)), .dat (.str (wd b)), .dat (.bool whole), .dat (.list (roD acc)), .dat (.list (q.map .int)), s5, s6, .no, .no] ((bodyOf (stm 63 1)).getD 0 (.Pass ⟨0, 0, 0, 0⟩)) (.next [.dat (.list (ts.map .int)), .dat (.str (wd b)), .dat (.bool whole), .dat (.list (roD acc)), .dat (.list (q.map .int)), .dat (.list ((restOf ts q).map .int)), s6, .no, .no]) :=
      s_lcL (T := T1 7) 5 [("_law_task", 7)] rfl sc_l_rows.nd (dv 0) (id (α := blkC n_l_rows (defScope (top 63)) _ _ = true) (by decide +kernel)) (fun _ _ _ _ _ => pg_name sc_l_rows.nd rfl (Or.inl rfl)) (tg1 (by decide)) (by rw [List.length_map]; omega) (lc_filterE ts (fun x => !decide (x ∈ q)) .int .int fun x hx => ⟨_, rfl, fun s H C cl fp => t_ninL (dv 7) (dv 4) rfl (flat_ints _) rfl (congrArg not (inD_int _ _)), fun _ s H C cl fp => dv 7⟩)
    have hhs := heads_small k (by omega) q hq b
    generalize hhe : headsM k q b = hs at hhs h500 ⊢
    by_cases hre : restOf ts q = []
    · rw [hre] at st h500 ⊢
      have hqt : q.length = ts.length := by rw [hre, List.length_nil] at hql; omega
      cases whole with
      | false =>
        refine ⟨_, _, r_cons st (r_one (s_ifF (t_truL (dv 5)) (r_one (s_ifF (t_val (dv 2)) r_nil))))⟩
      | true =>
        rw [if_pos rfl] at h3
        have e : rowStep hs (rowsM k [] b true) [] true acc = acc ++ hs.map fun h => [h] := rfl
        rw [e] at h500 ⊢
        rw [List.length_append, List.length_map] at h500
        refine ⟨_, _, r_cons st (r_one (s_ifF (t_truL (dv 5)) (r_one (s_ifT (t_val (dv 2)) (r_one (s_set 3 sc_l_rows.nd (d_catL (l := roD acc) (l2 := roD (hs.map fun h => [h])) (dv 3) (d_lcL (T := T1 6) (l := hs.map Plan.toD) [("_law_head", 6)] rfl sc_l_rows.nd (d_call ihH hr (by omega) (a_cons (dv 4) (a_cons (dv 1) a_nil)) ⟨q, b, rfl, by omega, hq, hq1, by omega, by rw [hhe]⟩) (id (α := blkC n_l_rows (defScope (top 63)) _ _ = true) (by decide +kernel)) (fun _ _ _ _ _ => pg_name sc_l_rows.nd rfl (Or.inl rfl)) (tg1 (by decide)) (by rw [List.length_map]; omega) ?l1) ?hz ?he)))))))⟩
        case l1 =>
          unfold roD
          rw [List.map_map]
          exact lc_maps fun x hx => ⟨_, rfl, fun s H C cl fp => d_tup (a_cons (dv 6) a_nil)⟩
        case hz => unfold roD; rw [List.length_map, List.length_map, List.length_map, sizeLine_is]; omega
        case he => unfold roD; rw [List.map_append]
    · have hre2 : (restOf ts q).isEmpty = false := by
        cases hc : restOf ts q with
        | nil => exact absurd hc hre
        | cons _ _ => rfl
      have hr1 : 1 ≤ (restOf ts q).length := List.length_pos_iff.mpr hre
      have hrs := rows_small k (by omega) (restOf ts q) hr4 b true
      have hk2 : 3 * ts.length ≤ k + 4 := by
        cases whole with
        | true => rw [if_pos rfl] at h3; omega
        | false => rw [if_neg Bool.false_ne_true] at h3; omega
      have cR : R_l_rows k [.list ((restOf ts q).map .int), .str (wd b), .bool true] (.list (roD (rowsM k (restOf ts q) b true))) := ⟨restOf ts q, b, true, rfl, by omega, hr4, hr1, (fun e => by cases e), by rw [if_pos rfl]; omega, rfl⟩
      generalize restOf ts q = rest at st hre2 cR hrs h500 ⊢
      have e : rowStep hs (rowsM k rest b true) rest whole acc = hs.foldl (fun f h => f ++ (rowsM k rest b true).map (fun r => h :: r)) acc := by
        unfold rowStep
        rw [hre2]; rfl
      rw [e] at h500 ⊢
      have lp : ∀ (gs : List Plan) (acc : List (List Plan)) (s6 : Slot), (gs.foldl (fun f h => f ++ (rowsM k rest b true).map (fun r => h :: r)) acc).length ≤ 500 → ∃ s6' : Slot,
          Loop (CxD P w K mg base n_l_rows "_law_rows" (top 63) f cdv A outer s H0 Ex) E (T1 6) (bodyOf ((bodyOf ((bodyOf (stm 63 1)).getD 1 (.Pass ⟨0, 0, 0, 0⟩))).getD 0 (.Pass ⟨0, 0, 0, 0⟩))) (gs.map Plan.toD) [.dat (.list (ts.map .int)), .dat (.str (wd b)), .dat (.bool whole), .dat (.list (roD acc)), .dat (.list (q.map .int)), .dat (.list (rest.map .int)), s6, .no, .no]
            (.next [.dat (.list (ts.map .int)), .dat (.str (wd b)), .dat (.bool whole), .dat (.list (roD (gs.foldl (fun f h => f ++ (rowsM k rest b true).map (fun r => h :: r)) acc))), .dat (.list (q.map .int)), .dat (.list (rest.map .int)), s6', .no, .no]) := by
        intro gs
        induction gs with
        | nil => intro acc s6 _; exact ⟨s6, .nil⟩
        | cons g gs ih =>
          intro acc s6 h5
          rw [List.foldl_cons] at h5 ⊢
          have h5' := foldl_le (g := fun f h => f ++ (rowsM k rest b true).map (fun r => h :: r)) (fun f a => by rw [List.length_append]; omega) gs (acc ++ (rowsM k rest b true).map (fun r => g :: r))
          rw [List.length_append, List.length_map] at h5'
          obtain ⟨s6', lp⟩ := ih (acc ++ (rowsM k rest b true).map (fun r => g :: r)) (.dat g.toD) h5
          refine ⟨s6', .next rfl (r_one (s_set 3 sc_l_rows.nd (d_catL (l := roD acc) (l2 := roD ((rowsM k rest b true).map fun r => g :: r)) (dv 3) (d_lcL (T := T1 8) (l := roD (rowsM k rest b true)) [("_law_tail", 8)] rfl sc_l_rows.nd (d_call ihR hr (by omega) (a_cons (dv 5) (a_cons (dv 1) (a_cons dbl a_nil))) cR) (id (α := blkC n_l_rows (defScope (top 63)) _ _ = true) (by decide +kernel)) (fun _ _ _ _ _ => pg_name sc_l_rows.nd rfl (Or.inl rfl)) (tg1 (by decide)) (by unfold roD; rw [List.length_map]; omega) ?l1) ?hz ?he))) lp⟩
          case l1 =>
            unfold roD
            rw [List.map_map]
            refine lc_maps fun x hx => ⟨_, rfl, fun s H C cl fp => d_catT (l := [g.toD]) (l2 := x.map Plan.toD) (d_tup (a_cons (dv 6) a_nil)) (dv 8) ?_ rfl⟩
            have := hrs.2 x hx
            rw [List.length_map, sizeLine_is]
            show 1 + _ ≤ _
            omega
          case hz => unfold roD; rw [List.length_map, List.length_map, List.length_map, sizeLine_is]; omega
          case he => unfold roD; rw [List.map_append]
      obtain ⟨s6', lp⟩ := lp hs acc s6 h500
      refine ⟨_, s6', r_cons st (r_one (s_ifT (t_truL (dv 5) (hk_ := ?ht)) (r_one (s_forL (l := hs.map Plan.toD) .never rfl (d_call ihH hr (by omega) (a_cons (dv 4) (a_cons (dv 1) a_nil)) ⟨q, b, rfl, by omega, hq, hq1, by omega, by rw [hhe]⟩) (g1 6 sc_l_rows.nd) lp))))⟩
      case ht =>
        cases rest with
        | nil => cases hre2
        | cons _ _ => rfl
  have lp : ∀ (qs : List (List Int)) (acc : List (List Plan)) (s4 s5 s6 : Slot), (∀ q ∈ qs, q ∈ Bs) → (qs.foldl (fun f q => rowStep (headsM k q b) (rowsM k (restOf ts q) b true) (restOf ts q) whole f) acc).length ≤ 500 → ∃ s4' s5' s6' : Slot,
      Loop (CxD P w K mg base n_l_rows "_law_rows" (top 63) f cdv A outer s H0 Ex) E (T1 4) (bodyOf (stm 63 1)) (blD qs) [.dat (.list (ts.map .int)), .dat (.str (wd b)), .dat (.bool whole), .dat (.list (roD acc)), s4, s5, s6, .no, .no]
        (.next [.dat (.list (ts.map .int)), .dat (.str (wd b)), .dat (.bool whole), .dat (.list (roD (qs.foldl (fun f q => rowStep (headsM k q b) (rowsM k (restOf ts q) b true) (restOf ts q) whole f) acc))), s4', s5', s6', .no, .no]) := by
    intro qs
    induction qs with
    | nil => intro acc s4 s5 s6 _ _; exact ⟨s4, s5, s6, .nil⟩
    | cons q qs ih =>
      intro acc s4 s5 s6 hq h5
      rw [List.foldl_cons] at h5 ⊢
      obtain ⟨g1', g2', g3', g4'⟩ := hbl q (hq q (by simp))
      have h5' := foldl_le (g := fun f q => rowStep (headsM k q b) (rowsM k (restOf ts q) b true) (restOf ts q) whole f) (fun f a => rowStep_le f) qs (rowStep (headsM k q b) (rowsM k (restOf ts q) b true) (restOf ts q) whole acc)
      obtain ⟨s5', s6', t1⟩ := turn acc q s5 s6 g1' g2' g3' g4' (Nat.le_trans h5' h5)
      obtain ⟨s4'', s5'', s6'', lp⟩ := ih _ (.dat (.list (q.map .int))) s5' s6' (fun x hx => hq x (List.mem_cons_of_mem _ hx)) h5
      exact ⟨s4'', s5'', s6'', .next rfl t1 lp⟩
  obtain ⟨s4', s5', s6', lp⟩ := lp Bs [] .no .no .no (fun q hq => hq) hsm
  refine r_cons (s_set 3 sc_l_rows.nd (d_lst a_nil)) (r_cons (s_forL (l := blD Bs) .never rfl (d_call (c_l_blocks T) hr (by omega) (a_cons (dv 0) (a_cons (dv 1) a_nil)) ⟨ts, b, rfl, hts, fun e => by rw [e] at h1; exact absurd h1 (by decide), by rw [hB]⟩) (g1 4 sc_l_rows.nd) lp) (r_one (s_ret (dv 3))))
theorem wd_atL (b : Bool) : atI [PyData.str "then", .str "beside"] (if b then 1 else 0) = some (.str (wd (!b))) := by cases b <;> rfl
theorem l_heads_turn (T : Txt K mg w) (k : Nat) (ihR : C8.Cal P w K mg base (k + 2) "_law_rows" (spR K (R_l_rows k)) []) : C8.Cal P w K mg base (k + 3) "_law_heads" (spR K (R_l_heads (k + 1))) [] := by
  refine cal_of T.l_heads sc_l_heads (fun _ _ _ _ _ _ us hl => match us, hl with | [_, _], _ => rfl) (fun ds d ⟨_, _, e, _⟩ => by rw [e]; rfl) ?_
  rintro f cdv A outer s H0 Ex hr ds d ⟨ts, b, rfl, hk, hts, h1, h3, rfl⟩ E
  rw [headsM]
  by_cases h : ts.length = 1
  · rw [if_pos h]
    match ts, h with
    | [x], _ => exact r_ret (s_ifT (t_eq (d_len T.len (dv 0)) di) (r_one (s_ret (d_lst (a_cons (d_ixL (dv 0) di) a_nil)))))
  · rw [if_neg h]
    have hsm := rows_small k (by omega) ts hts (!b) false
    refine r_cons (s_ifF (t_eq (d_len T.len (dv 0) rfl) di (congrArg some (decide_eq_false (by rw [List.length_map]; omega)))) r_nil) ?_
    refine r_cons (s_set 2 sc_l_heads.nd (d_ixL (d_lst (a_cons Tb.ds (a_cons Tb.ds a_nil))) (d_intB (k := b) T.int (d_eq (dv 1) Tb.ds (by cases b <;> decide +kernel))) (wd_atL b))) ?_
    refine r_one (s_ret (d_lcL (T := T1 3) (l := roD (rowsM k ts (!b) false)) [("_law_row", 3)] rfl sc_l_heads.nd (d_call ihR hr (by omega) (a_cons (dv 0) (a_cons (dv 2) (a_cons dbl a_nil))) ⟨ts, !b, false, rfl, by omega, hts, h1, fun _ => by omega, by rw [if_neg Bool.false_ne_true]; omega, rfl⟩) (id (α := blkC n_l_heads (defScope (top 65)) _ _ = true) (by decide +kernel)) (fun _ _ _ _ _ => pg_name sc_l_heads.nd rfl (Or.inl rfl)) (tg1 (by decide)) (by unfold roD; rw [List.length_map]; omega) ?_))
    unfold roD
    rw [List.map_map]
    exact lc_maps fun x hx => ⟨_, rfl, fun s H C cl fp => (d_tup (a_cons (dv 2) (a_cons (dv 3) a_nil))).is (by
      show PyData.tuple [.str (wd !b), .tuple (x.map Plan.toD)] = .tuple [.str (wd !b), .tuple (toDs x)]
      rw [toDs_eq])⟩
theorem c_l_both (T : Txt K mg w) : ∀ k : Nat, C8.Cal P w K mg base (k + 2) "_law_rows" (spR K (R_l_rows k)) [] ∧ C8.Cal P w K mg base (k + 2) "_law_heads" (spR K (R_l_heads k)) []
  | 0 => by
    refine ⟨cal_of T.l_rows sc_l_rows (fun _ _ _ _ _ _ us hl => match us, hl with | [_, _, _], _ => rfl) (fun ds d ⟨_, _, _, e, _⟩ => by rw [e]; rfl) ?_, cal_of T.l_heads sc_l_heads (fun _ _ _ _ _ _ us hl => match us, hl with | [_, _], _ => rfl) (fun ds d ⟨_, _, e, _⟩ => by rw [e]; rfl) ?_⟩
    · rintro f cdv A outer s H0 Ex hr ds d ⟨ts, b, whole, rfl, hk, hts, h1, hw2, h3, rfl⟩ E
      cases whole with
      | true => rw [if_pos rfl] at h3; omega
      | false =>
        have := hw2 rfl
        rw [if_neg Bool.false_ne_true] at h3; omega
    · rintro f cdv A outer s H0 Ex hr ds d ⟨ts, b, rfl, hk, hts, h1, h3, rfl⟩ E
      omega
  | k + 1 => ⟨l_rows_turn T k (c_l_both T k).1 (c_l_both T k).2, l_heads_turn T k (c_l_both T k).1⟩
theorem sc_l_plans : FnScope ["_law_size", "_law_tasks_here"] ["_law_size"] (defScope (top 66)) := ⟨rfl, rfl, rfl, by decide +kernel, rfl, by decide +kernel, by decide +kernel⟩
def R_l_plans (ds : List PyData) (d : PyData) : Prop := ∃ n : Nat, ds = [.int (n : Int)] ∧ 1 ≤ n ∧ n ≤ 4 ∧ d = .list ((plansM n).map Plan.toD)
theorem c_l_plans (T : Txt K mg w) : C8.Cal P w K mg base 13 "_law_plans" (spR K R_l_plans) [] := by
  refine cal_of T.l_plans sc_l_plans (fun _ _ _ _ _ _ us hl => match us, hl with | [_], _ => rfl) (fun ds d ⟨_, e, _⟩ => by rw [e]; rfl) ?_
  rintro f cdv A outer s H0 Ex hr ds d ⟨n, rfl, h1, h4, rfl⟩ E
  unfold plansM
  by_cases h : n = 1
  · rw [if_pos h]
    subst h
    exact r_ret (s_ifT (t_eq (dv 0) di) (r_one (s_ret (d_lst (a_cons di a_nil)))))
  · rw [if_neg h]
    have hu := upto_subs n (by omega)
    have hl := upto_len n
    have z1 := heads_small 10 (by omega) (upto n) hu false
    have z2 := heads_small 10 (by omega) (upto n) hu true
    refine r_cons (s_ifF (t_eq (dv 0) di (by exact congrArg some (decide_eq_false (by omega)))) r_nil) (r_cons (s_set 1 sc_l_plans.nd ((d_lstRg rfl T.list T.range (dv 0) (by omega)).is (by rw [rgD_eq]))) (r_one (s_ret
      (d_catL (l := (headsM 10 (upto n) false).map Plan.toD) (l2 := (headsM 10 (upto n) true).map Plan.toD) (d_call (c_l_both T 10).2 hr (by omega) (a_cons (dv 1) (a_cons Tb.ds a_nil)) ⟨upto n, false, rfl, by omega, hu, by omega, by omega, rfl⟩)
        (d_call (c_l_both T 10).2 hr (by omega) (a_cons (dv 1) (a_cons Tb.ds a_nil)) ⟨upto n, true, rfl, by omega, hu, by omega, by omega, rfl⟩) (by rw [List.length_map, List.length_map, sizeLine_is]; omega) (by rw [List.map_append])))))
abbrev n_l_solutions : List Str := ["_law_problem", "_law_plan"]
theorem sc_l_solutions : FnScope n_l_solutions ["_law_problem"] (defScope (top 74)) := ⟨rfl, rfl, rfl, by decide +kernel, rfl, by decide +kernel, by decide +kernel⟩
def R_l_solutions (ds : List PyData) (d : PyData) : Prop := ∃ (n : Nat) (rs : List Rule), ds = [probD n rs] ∧ Prob n rs ∧ d = .list (((plansM n).filter (keeps rs)).map Plan.toD)
theorem c_l_solutions (T : Txt K mg w) : C8.Cal P w K mg base 20 "_law_solutions" (spR K R_l_solutions) [] := by
  refine cal_of T.l_solutions sc_l_solutions (fun _ _ _ _ _ _ us hl => match us, hl with | [_], _ => rfl) (fun ds d ⟨_, _, e, _⟩ => by rw [e]; rfl) ?_
  rintro f cdv A outer s H0 Ex hr ds d ⟨n, rs, rfl, h, rfl⟩ E
  have h1 := h.n1
  have h4 := h.n4
  have hs := plans_small n (by omega)
  have hso := plans_sound n (by omega)
  refine r_one (s_ret (d_lcL (T := T1 1) (l := (plansM n).map Plan.toD) [("_law_plan", 1)] rfl sc_l_solutions.nd (d_call (c_l_plans T) hr (by omega) (a_cons (d_ixT (dv 0) di) a_nil) ⟨n, rfl, h1, h4, rfl⟩) (id (α := blkC n_l_solutions (defScope (top 74)) _ _ = true) (by decide +kernel)) (fun _ _ _ _ _ => pg_name sc_l_solutions.nd rfl (Or.inl rfl)) (tg1 (by decide)) (by rw [List.length_map]; omega) (lc_filters fun p hp => ⟨_, rfl, fun s H C cl fp =>
    t_val (d_call (c_l_keeps T) hr (by omega) (a_cons (dv 0) (a_cons (dv 1) a_nil)) ⟨n, rs, p, rfl, h.few.len, (hso p hp).2, ?_, rfl⟩), fun _ s H C cl fp => dv 1⟩)))
  intro r hrr
  have o := h.ok r hrr
  have hm : ∀ x, x ∈ p.tasks ↔ x ∈ upto n := fun x => by rw [← (hso p hp).1]; exact (srt_perm _).mem_iff.symm
  exact ⟨(hm _).mpr (mem_upto.mpr ⟨o.a0, o.an⟩), (hm _).mpr (mem_upto.mpr ⟨o.b0, o.bn⟩)⟩
end
end Tb

set_option maxHeartbeats 1000000
/-! What stands at a place and what is wanted there; the law's stream. -/
namespace Tb
open PySem PySem.Spec PyProof.Rows
open L2
section
variable {X : Cx} {E : Hp × Hp} {γ γ1 : List Slot} {pos : Pos} {a b c e : Expr} {d : PyData} {i j : Int}
/-! ### more arithmetic -/
theorem d_mul {k_ : Int} (ha : PD X E γ a (.int i)) (hb : PD X E γ b (.int j)) (hc : -(2 ^ 64) < j ∧ j < 2 ^ 64) (hk_ : i * j = k_ := by rfl) : PD X E γ (.BinOp a .Mult b pos) (.int k_) := PD.is (d_op op_mul (opd_IC (Or.inr hc) fun _ => .int _) ha hb) (congrArg _ hk_)
theorem d_mod {k_ : Int} (ha : PD X E γ a (.int i)) (hb : PD X E γ b (.int j)) (hc : 0 < j) (hk_ : i % j = k_ := by rfl) : PD X E γ (.BinOp a .Mod b pos) (.int k_) := PD.is (d_op op_mod (opd_IC (C := fun _ j => 0 < j) hc fun _ => .int _) ha hb) (congrArg _ hk_)
theorem d_fdiv {k_ : Int} (ha : PD X E γ a (.int i)) (hb : PD X E γ b (.int j)) (hc : CDiv i j) (hk_ : i / j = k_ := by rfl) : PD X E γ (.BinOp a .FloorDiv b pos) (.int k_) := PD.is (d_op op_fdiv (opd_IC (C := CDiv) hc fun _ => .int _) ha hb) (congrArg _ hk_)
theorem d_pow {k_ : Int} (ha : PD X E γ a (.int i)) (hb : PD X E γ b (.int j)) (hc : CPow i j) (hk_ : i ^ j.toNat = k_ := by rfl) : PD X E γ (.BinOp a .Pow b pos) (.int k_) := PD.is (d_op op_pow (opd_IC (C := CPow) hc fun _ => .int _) ha hb) (congrArg _ hk_)
theorem DtL.set {K : PySem.W.Frag} {B : Hp} {v : V} {d : PyData} (h : Dt K B v d) : ∀ {vs : List V} {ds : List PyData} (n : Nat), DtL K B vs ds → DtL K B (vs.set n v) (ds.set n d)
  | _, _, _, .nil => .nil
  | _, _, 0, .cons _ t => .cons h t
  | _, _, n + 1, .cons q t => .cons q (DtL.set h n t)
/-- x[k] = e of a list of our own -/
theorem s_setO (n : Nat) {k : Int} {m : Nat} {x : Str} {p1 p3 : Pos} {ds : List PyData} (h : PD X E γ e d) (hb : PD X E γ b (.int k)) (hk : ixN ds.length k = some m) (hN : X.N[n]? = some x := by rfl) (hγ : γ[n]? = some (.own ds) := by rfl) (ho : soleOwn n γ = true := by rfl)
    (hv : Vis X.env.scope x := by first | exact Or.inl rfl | exact Or.inr (Or.inl rfl) | exact Or.inr (Or.inr rfl)) (hd : (x == ("__debug__" : Str)) = false := by decide) (hcd : (x == ("__classdict__" : Str)) = false := by decide)
    (ha : ∀ v, assign (.Subscript (.Name x p1) b p3) X.env v = (do
      let ov ← holding [v] (eval (.Name x p1) X.env)
      let iv ← holding [v, ov] (eval b X.env)
      standAt p3
      holding [v, ov, iv] (setItem ov iv v)
      release [v, ov, iv] []) := by intro _; rfl)
    (hs : swapsWithSole [.Subscript (.Name x p1) b p3] e pos.line X.env = pure false := by rfl) (hw : swappedStores [.Subscript (.Name x p1) b p3] e X.env = pure none := by rfl) (h1 : (assignEach [.Subscript (.Name x p1) b p3] X.env).map (·.2) = [assign (.Subscript (.Name x p1) b p3) X.env] := by rfl) :
    PR X E γ (.Assign [.Subscript (.Name x p1) b p3] e pos) (.next (γ.set n (.own (ds.set m d)))) :=
  (ps_asg h (pg_sub (pe_var hN hv hd hcd) hb set_list ha) hs hw h1).weak fun D σ H ⟨B, s, q⟩ => ⟨B, s, fun v B1 H1 g1 y => by
    have s1 := s.up g1
    obtain ⟨z, vs, h1, h2, h3, h4, h5⟩ := s1.own hγ
    refine ⟨_, h1, B1, s1, fun w B2 H2 g2 y2 => ?_⟩
    cases y2
    have s2 := s1.up g2
    have h4' := g2.hh _ _ h4
    refine ⟨z, vs, k, m, rfl, rfl, h4', by rw [h5.length]; exact hk, ?_⟩
    refine q σ B2 _ (g1.trans g2).bb (s2.change ho h1 h2 (g2.fr z h3 (by rw [h4]; exact fun z => nomatch z)) h4' ((h5.up g2.bb).set (y.up g2.bb) m))⟩
/-! ### what is wanted at a place -/
def Ev (X : Cx) (e : Expr) : TE := fun σ H Q => ∃ t Q0, PE X e t ∧ t σ H Q0 ∧ ∀ v H', Q0 v H' → Q v H'
theorem Ev.mono {σ : St} {H : Hp} {Q Q' : VK} (h : Ev X e σ H Q) (k : ∀ v H', Q v H' → Q' v H') : Ev X e σ H Q' := by
  obtain ⟨t, Q0, h1, h2, h3⟩ := h
  exact ⟨t, Q0, h1, h2, fun v H' q => k v H' (h3 v H' q)⟩
theorem ev_of {σ : St} {H : Hp} {Q : VK} {t : TE} (h : PE X e t) (q : t σ H Q) : Ev X e σ H Q := ⟨t, Q, h, q, fun _ _ q => q⟩
def Sx (X : Cx) (st : Stmt) : TS := fun D σ H => ∃ t, PS X st t ∧ t D σ H
def Sxs (X : Cx) (st : List Stmt) : TS := fun D σ H => ∃ t, PSs X st t ∧ t D σ H
theorem pe_ev : PE X e (Ev X e) := ⟨fun pins s σ H Q I ⟨t, Q0, h, q, k⟩ => thn (h.run pins s σ H Q0 I q) fun u s1 ⟨x, H1, I1, r1, q1⟩ => ⟨x, H1, I1, r1, k x H1 q1⟩⟩
theorem ps_sx {st : Stmt} : PS X st (Sx X st) := ⟨fun pins s σ H D I ⟨t, h, q⟩ => h.run pins s σ H D I q⟩
theorem pss_sxs {st : List Stmt} : PSs X st (Sxs X st) := ⟨fun pins s σ H D I ⟨t, h, q⟩ => h.run pins s σ H D I q⟩
variable {σ : St} {B H : Hp} {D : Ends} {Q : VK} {st : Stmt} {rest body orelse : List Stmt}
theorem ev_pd (h : PD X E γ e d) (s : S X.K E γ σ B H) (q : ∀ v B' H', Gr B H B' H' → Dt X.K B' v d → Q v H') : Ev X e σ H Q := ev_of h ⟨B, s, q⟩
theorem sxs_nil (h : D.nx σ H) : Sxs X [] D σ H := ⟨_, pss_nil, h⟩
theorem sxs_cons (h : Sx X st { D with nx := fun σ' H' => Sxs X rest D σ' H' } σ H) : Sxs X (st :: rest) D σ H := ⟨_, pss_cons ps_sx pss_sxs, h⟩
theorem sx_pr (h : PR X E γ st (.next γ1)) (s : S X.K E γ σ B H) (q : ∀ σ' B' H', Same B B' → S X.K E γ1 σ' B' H' → D.nx σ' H') : Sx X st D σ H := ⟨_, h, B, s, q⟩
theorem sxs_pr (h : PR X E γ st (.next γ1)) (s : S X.K E γ σ B H) (q : ∀ σ' B' H', Same B B' → S X.K E γ1 σ' B' H' → Sxs X rest D σ' H') : Sxs X (st :: rest) D σ H := sxs_cons (sx_pr h s q)
theorem sxs_prs (h : PRs X E γ body (.next γ1)) (s : S X.K E γ σ B H) (q : ∀ σ' B' H', Same B B' → S X.K E γ1 σ' B' H' → D.nx σ' H') : Sxs X body D σ H := ⟨_, h, B, s, q⟩
theorem sx_set (n : Nat) {x : Str} {pos' : Pos} (hN : X.N.Nodup) (q : Ev X e σ H fun v H' => D.nx (σ.set n (some v)) H') (hi : X.N[n]? = some x := by rfl) (hx : Loc X.env.scope x := by first | exact Or.inl rfl | exact Or.inr rfl) (hs : swapsWith e (some (.Name x pos')) pos.line X.env = pure false := by rfl)
    (hf : X.fn x = true ∨ X.env.scope.names.lookup x = some .local := by first | exact .inl rfl | exact .inr rfl) : Sx X (.Assign [.Name x pos'] e pos) D σ H := ⟨_, ps_set hN hi hx pe_ev hs hf, q⟩
theorem sx_expr (q : Ev X e σ H fun _ H' => D.nx σ H') (hs : swapsWith e none pos.line X.env = pure false := by rfl) : Sx X (.Expr e pos) D σ H := ⟨_, ps_expr pe_ev hs, q⟩
theorem sx_ret (q : Ev X e σ H D.rt) : Sx X (.Return (some e) pos) D σ H := ⟨_, ps_ret pe_ev, q⟩
theorem sx_ifT (h : PB X E γ c true) (s : S X.K E γ σ B H) (q : ∀ B' H', Gr B H B' H' → Sxs X body D σ H') : Sx X (.If c body orelse pos) D σ H := ⟨_, ps_if h pss_sxs pss_never, B, s, fun B' H' g => iteT (q B' H' g)⟩
theorem sx_ifF (h : PB X E γ c false) (s : S X.K E γ σ B H) (q : ∀ B' H', Gr B H B' H' → Sxs X orelse D σ H') : Sx X (.If c body orelse pos) D σ H := ⟨_, ps_if h pss_never pss_sxs, B, s, fun B' H' g => iteF (q B' H' g)⟩
end
/-! ### lists that change -/
/-- a list of data at a, outside the data -/
def Own (K : PySem.W.Frag) (B H : Hp) (a : Addr) (ds : List PyData) : Prop := B a = none ∧ ∃ vs, H a = some (.lst vs) ∧ DtL K B vs ds
def plain : Slot → Bool
  | .own _ => false
  | .keys _ => false
  | _ => true
/-- the state: data and values in the slots -/
structure Z (K : PySem.W.Frag) (γ : List Slot) (σ : St) (B H : Hp) : Prop where
  bh : Same B H
  pl : γ.all plain = true
  sl : Slots K (B, B) B H γ σ
section
variable {K : PySem.W.Frag} {γ : List Slot} {σ : St} {B B' H H' : Hp} {a b : Addr} {ds : List PyData} {E E' : Hp × Hp}
theorem plain_slot {s : Slot} {o : Option V} (e : Same B B') : plain s = true → SlotR K E B H s o → SlotR K E' B' H' s o := fun n h => by
  cases s with
  | no => trivial
  | dat d => obtain ⟨v, h1, h2⟩ := h; exact ⟨v, h1, h2.up e⟩
  | raw v => exact h
  | own ds => cases n
  | keys ks => cases n
theorem plain_slots (e : Same B B') : ∀ {γ : List Slot} {σ : St}, γ.all plain = true → Slots K E B H γ σ → Slots K E' B' H' γ σ
  | _, _, _, .nil => .nil
  | _, _, n, .cons h t => by
    rw [List.all_cons, Bool.and_eq_true] at n
    exact .cons (plain_slot e n.1 h) (plain_slots e n.2 t)
theorem Z.s (z : Z K γ σ B H) : S K (B, B) γ σ B H := ⟨⟨Same.refl B, z.bh, z.bh, fun _ e n => absurd e n⟩, z.sl⟩
theorem Z.re (z : Z K γ σ B H) (e : Same B B') (bh : Same B' H') : Z K γ σ B' H' := ⟨bh, z.pl, plain_slots e z.pl z.sl⟩
theorem Z.up (z : Z K γ σ B H) (g : Gr B H B' H') : Z K γ σ B' H' := z.re g.bb g.bh
theorem all_set {p : Slot → Bool} {s : Slot} (hs : p s = true) : ∀ {γ : List Slot} (i : Nat), γ.all p = true → (γ.set i s).all p = true
  | [], _, h => h
  | x :: g, 0, h => by
    rw [List.all_cons, Bool.and_eq_true] at h
    show (p s && g.all p) = true
    rw [hs, h.2]; rfl
  | x :: g, i + 1, h => by
    rw [List.all_cons, Bool.and_eq_true] at h
    show (p x && (g.set i s).all p) = true
    rw [h.1, all_set hs i h.2]; rfl
theorem Z.set (z : Z K γ σ B H) {i : Nat} {d : PyData} {v : V} (h : Dt K B v d) : Z K (γ.set i (.dat d)) (σ.set i (some v)) B H := ⟨z.bh, all_set rfl i z.pl, Slots.set (s := .dat d) ⟨v, rfl, h⟩ i z.sl⟩
theorem Z.setRaw (z : Z K γ σ B H) {i : Nat} {v : V} : Z K (γ.set i (.raw v)) (σ.set i (some v)) B H := ⟨z.bh, all_set rfl i z.pl, Slots.set (s := .raw v) rfl i z.sl⟩
theorem Z.raw (z : Z K γ σ B H) {i : Nat} {v : V} (h : γ[i]? = some (.raw v)) : σ[i]? = some (some v) := z.s.raw h
theorem slots_put {s : Slot} {o : Option V} (r : SlotR K E B H s o) : ∀ {γ : List Slot} {σ : St} {i : Nat}, σ[i]? = some o → Slots K E B H γ σ → Slots K E B H (γ.set i s) σ
  | _, _, _, _, .nil => .nil
  | _, _, 0, e, .cons _ t => by
    simp at e
    subst e
    exact .cons r t
  | _, _, i + 1, e, .cons q t => .cons q (slots_put r (by simpa using e) t)
/-- a list is looked at -/
theorem S.look (s : S K (B, B) γ σ B H) {i : Nat} (h : σ[i]? = some (some (.ref a))) (o : Own K B H a ds) : S K (B, B) (γ.set i (.own ds)) σ B H := by
  obtain ⟨h1, vs, h2, h3⟩ := o
  exact ⟨s.gr, slots_put (s := .own ds) ⟨a, vs, rfl, h1, h1, h2, h3⟩ h s.sl⟩
theorem Own.up (o : Own K B H a ds) (g : Gr B H B' H') : Own K B' H' a ds := by
  obtain ⟨h1, vs, h2, h3⟩ := o
  exact ⟨g.fr a h1 (by rw [h2]; exact fun z => nomatch z), vs, g.hh _ _ h2, h3.up g.bb⟩
theorem Own.ne (o : Own K B H a ds) : H a ≠ none := by
  obtain ⟨_, vs, h2, _⟩ := o
  rw [h2]; exact fun z => nomatch z
/-- all but what stands at a is as it was -/
def But (a : Addr) (H H' : Hp) : Prop := ∀ b o, b ≠ a → H b = some o → H' b = some o
theorem But.same (h : But a H H') (bh : Same B H) (n : B a = none) : Same B H' := fun b o e => h b o (ne_of_none e n) (bh b o e)
theorem Own.but (o : Own K B H b ds) (h : But a H H') (n : b ≠ a) : Own K B H' b ds := by
  obtain ⟨h1, vs, h2, h3⟩ := o
  exact ⟨h1, vs, h b _ n h2, h3⟩
theorem but_upd {o : HO} : But a H (upd H a o) := fun b u hb e => by rw [upd_ne hb]; exact e
end
section
variable {X : Cx} {E : Hp × Hp} {γ : List Slot} {pos : Pos} {b c e : Expr} {d : PyData} {σ : St} {B H : Hp} {D : Ends} {Q : VK}
/-- x[k] = e -/
theorem sx_setO (n : Nat) {k : Int} {m : Nat} {a : Addr} {x : Str} {p1 p3 : Pos} (hσ : σ[n]? = some (some (.ref a))) (q : Ev X e σ H fun v H1 => Ev X b σ H1 fun y H2 => y = .int k ∧ ∃ vs, H2 a = some (.lst vs) ∧ ixN vs.length k = some m ∧ D.nx σ (upd H2 a (.lst (vs.set m v)))) (hN : X.N[n]? = some x := by rfl)
    (hv : Vis X.env.scope x := by first | exact Or.inl rfl | exact Or.inr (Or.inl rfl) | exact Or.inr (Or.inr rfl)) (hd : (x == ("__debug__" : Str)) = false := by decide) (hcd : (x == ("__classdict__" : Str)) = false := by decide)
    (ha : ∀ v, assign (.Subscript (.Name x p1) b p3) X.env v = (do
      let ov ← holding [v] (eval (.Name x p1) X.env)
      let iv ← holding [v, ov] (eval b X.env)
      standAt p3
      holding [v, ov, iv] (setItem ov iv v)
      release [v, ov, iv] []) := by intro _; rfl)
    (hs : swapsWithSole [.Subscript (.Name x p1) b p3] e pos.line X.env = pure false := by rfl) (hw : swappedStores [.Subscript (.Name x p1) b p3] e X.env = pure none := by rfl) (h1 : (assignEach [.Subscript (.Name x p1) b p3] X.env).map (·.2) = [assign (.Subscript (.Name x p1) b p3) X.env] := by rfl) :
    Sx X (.Assign [.Subscript (.Name x p1) b p3] e pos) D σ H := by
  refine ⟨_, ps_asg pe_ev (pg_sub (pe_var hN hv hd hcd) pe_ev set_list ha) hs hw h1, q.mono fun v H1 q1 => ⟨_, hσ, q1.mono fun y H2 q2 => ?_⟩⟩
  obtain ⟨rfl, vs, h2, h3, h4⟩ := q2
  exact ⟨a, vs, k, m, rfl, rfl, h2, h3, h4⟩
/-- x.append(e) -/
theorem sx_append (n : Nat) {a : Addr} {x : Str} {p1 p2 p3 : Pos} (hσ : σ[n]? = some (some (.ref a))) (hl : ∃ vs, H a = some (.lst vs)) (q : Ev X e σ H fun v H1 => ∃ vs, H1 a = some (.lst vs) ∧ vs.length < 1000 ∧ D.nx σ (upd H1 a (.lst (vs ++ [v])))) (hN : X.N[n]? = some x := by rfl)
    (hv : Vis X.env.scope x := by first | exact Or.inl rfl | exact Or.inr (Or.inl rfl) | exact Or.inr (Or.inr rfl)) (hd : (x == ("__debug__" : Str)) = false := by decide) (hcd : (x == ("__classdict__" : Str)) = false := by decide) (hs : swapsWith (.Call (.Attribute (.Name x p1) "append" p2) [e] [] p3) none pos.line X.env = pure false := by rfl)
    (hst : starEach [e] X.env = (false, eval e X.env) :: starEach [] X.env := by rfl) (hbase : attributeBase (.Name x p1) "append" X.env (eval (.Name x p1) X.env) = eval (.Name x p1) X.env := by rfl)
    (hfew : ((backTo p3 (starEach [e] X.env)).all (fun x => !x.1) && (backToKw p3 (keywordEach [] X.env)).all (fun x => x.1.isSome) && decide ([e].length + ([] : List Keyword).length + (if ([] : List Keyword).isEmpty then 0 else 1) < 30)) = true := by rfl)
    (hline : (p2.endLine == p3.line) = true := by rfl) : Sx X (.Expr (.Call (.Attribute (.Name x p1) "append" p2) [e] [] p3) pos) D σ H := by
  obtain ⟨vs0, hl⟩ := hl
  refine ⟨_, ps_expr (pe_bm PySem.F.plainAttrs_list PySem.F.slot_list_append PySem.F.type_list_append mt_append (pe_var hN hv hd hcd) (pa_cons pe_ev pa_nil hst) hbase hfew hline hst) hs, _, hσ, .inl ⟨rfl, _, SqL.of hl⟩, q.mono fun v H1 ⟨vs, h1, h2, h3⟩ => ?_⟩
  exact ⟨a, vs, v, rfl, rfl, h1, Nat.lt_of_lt_of_le h2 (by decide), h3⟩
end
/-! ### the stream -/
/-- the stream stands at a: its cells, the rest of the present cell, how many are taken -/
def Strm (H : Hp) (a b : Addr) : Prop := ∃ (cs : List Int) (v k : Int), H a = some (.lst [.ref b, .int v, .int k]) ∧ H b = some (.lst (cs.map V.int)) ∧ b ≠ a ∧ 0 ≤ v ∧ 0 ≤ k
theorem Strm.up {H H' : Hp} {a b : Addr} (h : Strm H a b) (e : Same H H') : Strm H' a b := by
  obtain ⟨cs, v, k, h1, h2, h3⟩ := h
  exact ⟨cs, v, k, e _ _ h1, e _ _ h2, h3⟩
theorem Strm.ne {H : Hp} {a b : Addr} (h : Strm H a b) : H a ≠ none := by
  obtain ⟨cs, v, k, h1, _⟩ := h
  rw [h1]; exact fun z => nomatch z
theorem Strm.ne2 {H : Hp} {a b : Addr} (h : Strm H a b) : H b ≠ none := by
  obtain ⟨cs, v, k, _, h1, _⟩ := h
  rw [h1]; exact fun z => nomatch z
theorem Strm.side {H : Hp} {a b c : Addr} {o : HO} (h : Strm H a b) (ha : c ≠ a) (hb : c ≠ b) : Strm (upd H c o) a b := by
  obtain ⟨cs, v, k, h1, h2, h3⟩ := h
  exact ⟨cs, v, k, by rw [upd_ne ha.symm]; exact h1, by rw [upd_ne hb.symm]; exact h2, h3⟩
def spStream (K : PySem.W.Frag) : Sp := fun vs H Q _ => ∃ (p : Addr) (ns : List Int), vs = [.ref p] ∧ SqL K H p (ns.map V.int) ∧ ∀ a b, H b = none → upd H b (.lst (ns.map V.int)) a = none → Q (.ref a) (upd (upd H b (.lst (ns.map V.int))) a (.lst [.ref b, .int 0, .int 0]))
def spNext : Sp := fun vs H Q _ => ∃ (a b : Addr) (m : Int), vs = [.ref a, .int m] ∧ 1 ≤ m ∧ m < 1073741824 ∧ Strm H a b ∧ ∀ z H', 0 ≤ z → z < m → Strm H' a b → But a H H' → Q (.int z) H'
section
variable {P : Program} {w : World} {K : PySem.W.Frag} {mg : Str → Option Value} {base : Heap}
/-- a def, by what is wanted at its entry -/
theorem cal_raw {x nm : Str} {st : Stmt} {N ps : List Str} {k : Nat} {sp : Sp} (F : Dfn K mg x nm st) (Sc : FnScope N ps (defScope st))
    (hb : ∀ (kV doc pm : Value) (an : Option Addr) (cdv ct : Value) (us : List Value), us.length = ps.length → bindArgs (PySem.W.fnOf nm nm (defArgs st) (defBody st) (defScope st) .none kV doc pm an cdv ct) ⟨us, []⟩ = pure (ps.zip us))
    (len : ∀ vs H Q E, sp vs H Q E → vs.length = ps.length)
    (body : ∀ (f : Addr) (cdv : Value) (A : Around) (outer : List Env) (s : Shared) (H0 : Hp) (Ex : XK), Room k (A.deeper (envOfC nm (defScope st) s.heap.objs.size f cdv)) → ∀ vs Q, sp vs H0 Q Ex → Sxs (CxD P w K mg base N nm st f cdv A outer s H0 Ex) (defBody st) { nx := fun _ H' => Q .non H', rt := Q } (L2.start N vs) H0) :
    C8.Cal P w K mg base (k + 1) x sp [] := by
  obtain ⟨f, fd, FD, hm⟩ := F.ex
  refine ⟨f, fd, ps, [], FD.ok Sc len (fun cdv A outer s H vs Q E hr h => ?_), hm, FD.kp, FD.bindsN hb, .nil⟩
  exact ⟨_, pss_sxs.nox, body f cdv A outer s H E hr vs Q h⟩
theorem sc_l_stream : FnScope ["_law_script"] ["_law_script"] (defScope (top 60)) := ⟨rfl, rfl, rfl, by decide +kernel, rfl, by decide +kernel, by decide +kernel⟩
theorem c_l_stream (T : Txt K mg w) : C8.Cal P w K mg base 1 "_law_stream" (spStream K) [] := by
  refine cal_raw T.l_stream sc_l_stream (fun _ _ _ _ _ _ us hl => match us, hl with | [_], _ => rfl) (fun vs H Q E ⟨_, _, e, _⟩ => by rw [e]; rfl) ?_
  rintro f cdv A outer s H0 Ex hr vs Q ⟨p, ns, rfl, hs, q⟩
  refine sxs_cons (sx_ret (ev_of (pe_lst (pa_cons (pe_callTy call_list_of rfl T.list (by decide +kernel) (pa_cons (pv 0) pa_nil)) (pa_cons pe_int (pa_cons pe_int pa_nil)))) ?_))
  refine ⟨_, rfl, p, _, rfl, .inl hs, fun l hl => ?_⟩
  exact ⟨by show 3 ≤ sizeLine; decide, fun z hz => q z l hl hz⟩
abbrev n_l_next : List Str := ["_law_stream_here", "_law_many", "_law_k", "_law_cell", "_law_digit"]
theorem sc_l_next : FnScope n_l_next ["_law_stream_here", "_law_many"] (defScope (top 61)) := ⟨rfl, rfl, rfl, by decide +kernel, rfl, by decide +kernel, by decide +kernel⟩
/-- within _law_next: what stands where -/
structure NS (K : PySem.W.Frag) (a b : Addr) (cs : List Int) (H0 : Hp) (γ : List Slot) (σ : St) (v k : Int) (B H : Hp) : Prop where
  z : Z K γ σ B H
  g0 : γ[0]? = some (.raw (.ref a))
  ha : H a = some (.lst [.ref b, .int v, .int k])
  hb : H b = some (.lst (cs.map V.int))
  ne : b ≠ a
  cells : Dt K B (.ref b) (.list (cs.map .int))
  ba : B a = none
  but : But a H0 H
section
variable {a b : Addr} {cs : List Int} {H0 : Hp} {γ : List Slot} {σ : St} {v k : Int} {B H B' H' : Hp}
theorem NS.up (n : NS K a b cs H0 γ σ v k B H) (g : Gr B H B' H') : NS K a b cs H0 γ σ v k B' H' :=
  ⟨n.z.up g, n.g0, g.hh _ _ n.ha, g.hh _ _ n.hb, n.ne, n.cells.up g.bb, g.fr a n.ba (by rw [n.ha]; exact fun z => nomatch z), fun x o hx e => g.hh _ _ (n.but x o hx e)⟩
theorem NS.own (n : NS K a b cs H0 γ σ v k B H) : Own K B H a [.list (cs.map .int), .int v, .int k] := ⟨n.ba, _, n.ha, .cons n.cells (.cons (.int _) (.cons (.int _) .nil))⟩
theorem NS.look (n : NS K a b cs H0 γ σ v k B H) : S K (B, B) (γ.set 0 (.own [.list (cs.map .int), .int v, .int k])) σ B H := n.z.s.look (n.z.raw n.g0) n.own
theorem NS.set (n : NS K a b cs H0 γ σ v k B H) {i : Nat} {d : PyData} {u : V} (h : Dt K B u d) (hi : i ≠ 0) : NS K a b cs H0 (γ.set i (.dat d)) (σ.set i (some u)) v k B H :=
  ⟨n.z.set h, by rw [List.getElem?_set_ne hi]; exact n.g0, n.ha, n.hb, n.ne, n.cells, n.ba, n.but⟩
theorem NS.put (n : NS K a b cs H0 γ σ v k B H) (v' k' : Int) : NS K a b cs H0 γ σ v' k' B (upd H a (.lst [.ref b, .int v', .int k'])) :=
  ⟨n.z.re (Same.refl B) (fun x o e => by rw [upd_ne (ne_of_none e n.ba)]; exact n.z.bh x o e), n.g0, upd_same, by rw [upd_ne n.ne]; exact n.hb, n.ne, n.cells, n.ba, fun x o hx e => by rw [upd_ne hx]; exact n.but x o hx e⟩
end
theorem c_l_next (T : Txt K mg w) : C8.Cal P w K mg base 1 "_law_next" spNext [] := by
  refine cal_raw T.l_next sc_l_next (fun _ _ _ _ _ _ us hl => match us, hl with | [_, _], _ => rfl) (fun vs H Q E ⟨_, _, _, e, _⟩ => by rw [e]; rfl) ?_
  rintro f cdv A outer s H0 Ex hr vs Q ⟨a, b, m, rfl, hm1, hm2, ⟨cs, v, k, ha, hb, hba, hv, hk⟩, q⟩
  have n0 : NS K a b cs H0 [.raw (.ref a), .dat (.int m), .no, .no, .no] (L2.start n_l_next [.ref a, .int m]) v k (upd (fun _ => none) b (.lst (cs.map V.int))) H0 := by
    refine ⟨⟨fun x o e => ?_, rfl, .cons rfl (.cons ⟨_, rfl, .int m⟩ (.cons (show SlotR _ _ _ _ .no none from trivial) (.cons (show SlotR _ _ _ _ .no none from trivial) (.cons (show SlotR _ _ _ _ .no none from trivial) .nil))))⟩, rfl, ha, hb, hba, .lst upd_same (DtL.ofInts cs), by rw [upd_ne hba.symm], fun x o _ e => e⟩
    by_cases h : x = b
    · subst h; rw [upd_same] at e; rw [hb]; exact e
    · rw [upd_ne h] at e; cases e
  -- behind the if: the rest of the cell is not negative
  have tail : ∀ (v' k' : Int) (s2 s3 : Slot) (σ' : St) (B' H' : Hp), 0 ≤ v' → 0 ≤ k' → NS K a b cs H0 [.raw (.ref a), .dat (.int m), s2, s3, .no] σ' v' k' B' H' →
      Sxs (CxD P w K mg base n_l_next "_law_next" (top 61) f cdv A outer s H0 Ex) ((defBody (top 61)).drop 1) { nx := fun _ H' => Q .non H', rt := Q } σ' H' := by
    intro v' k' s2 s3 σ' B' H' hv' hk' n1
    refine sxs_cons (sx_set 4 sc_l_next.nd (ev_pd (d_mod (d_intI T.int (d_ixO 0 di rfl)) (dv 1) (by omega)) n1.look fun u B2 H2 g2 y => ?_))
    have n2 := (n1.up g2).set (i := 4) y (by decide)
    refine sxs_cons (sx_setO 0 (k := 1) (m := 1) (n2.z.raw n2.g0) (ev_pd (d_fdiv (d_ixO 0 di rfl) (dv 1) ⟨by omega, hm2⟩) n2.look fun u B3 H3 g3 y3 => ?_))
    have n3 := n2.up g3
    refine ev_pd di n3.look fun u4 B4 H4 g4 y4 => ?_
    have n4 := n3.up g4
    cases y3
    cases y4
    refine ⟨rfl, _, n4.ha, rfl, ?_⟩
    have n5 := n4.put (v' / m) k'
    refine sxs_cons (sx_ret (ev_pd (dv 4) n5.look fun u B6 H6 g6 y6 => ?_))
    have n6 := n5.up g6
    cases y6
    exact q _ _ (Int.emod_nonneg _ (by omega)) (Int.emod_lt_of_pos _ (by omega)) ⟨cs, _, _, n6.ha, n6.hb, n6.ne, Int.ediv_nonneg hv' (by omega), hk'⟩ n6.but
  by_cases h0 : v = 0
  · refine sxs_cons (sx_ifT (t_eq (d1 := .int v) (d_ixO 0 di rfl) di (by exact congrArg some (decide_eq_true h0))) n0.look fun B1 H1 g1 => ?_)
    have n1 := n0.up g1
    refine sxs_cons (sx_set 2 sc_l_next.nd (ev_pd (d_ixO 0 di rfl) n1.look fun u B2 H2 g2 y2 => ?_))
    have n2 := (n1.up g2).set (i := 2) y2 (by decide)
    refine sxs_cons (sx_set 3 sc_l_next.nd (ev_pd (d_add di (dv 2)) n2.look fun u B3 H3 g3 y3 => ?_))
    have n3 := (n2.up g3).set (i := 3) y3 (by decide)
    -- behind the second if
    have mid2 : ∀ (c : Int) (σ' : St) (B' H' : Hp), 0 ≤ c → NS K a b cs H0 [.raw (.ref a), .dat (.int m), .dat (.int k), .dat (.int c), .no] σ' v k B' H' →
        Sxs (CxD P w K mg base n_l_next "_law_next" (top 61) f cdv A outer s H0 Ex) ((bodyOf (stm 61 0)).drop 4) { nx := fun σ' H' => Sxs (CxD P w K mg base n_l_next "_law_next" (top 61) f cdv A outer s H0 Ex) ((defBody (top 61)).drop 1) { nx := fun _ H' => Q .non H', rt := Q } σ' H', rt := Q } σ' H' := by
      intro c σ' B' H' hc n4
      refine sxs_cons (sx_setO 0 (k := 1) (m := 1) (n4.z.raw n4.g0) (ev_pd (dv 3) n4.look fun u B5 H5 g5 y5 => ?_))
      have n5 := n4.up g5
      refine ev_pd di n5.look fun u6 B6 H6 g6 y6 => ?_
      have n6 := n5.up g6
      cases y5
      cases y6
      refine ⟨rfl, _, n6.ha, rfl, ?_⟩
      have n7 := n6.put c k
      refine sxs_cons (sx_setO 0 (k := 2) (m := 2) (n7.z.raw n7.g0) (ev_pd (d_add (dv 2) di) n7.look fun u B8 H8 g8 y8 => ?_))
      have n8 := n7.up g8
      refine ev_pd di n8.look fun u9 B9 H9 g9 y9 => ?_
      have n9 := n8.up g9
      cases y8
      cases y9
      refine ⟨rfl, _, n9.ha, rfl, ?_⟩
      exact sxs_nil (tail c (k + 1) _ _ _ _ _ hc (by omega) (n9.put c (k + 1)))
    have mid1 : ∀ (c : Int) (σ' : St) (B' H' : Hp), 0 ≤ c → NS K a b cs H0 [.raw (.ref a), .dat (.int m), .dat (.int k), .dat (.int c), .no] σ' v k B' H' →
        Sxs (CxD P w K mg base n_l_next "_law_next" (top 61) f cdv A outer s H0 Ex) ((bodyOf (stm 61 0)).drop 3) { nx := fun σ' H' => Sxs (CxD P w K mg base n_l_next "_law_next" (top 61) f cdv A outer s H0 Ex) ((defBody (top 61)).drop 1) { nx := fun _ H' => Q .non H', rt := Q } σ' H', rt := Q } σ' H' := by
      intro c σ' B' H' hc n4
      have tst : ∀ kb : Bool, decide (c < 10 ^ 18) = kb → PB (CxD P w K mg base n_l_next "_law_next" (top 61) f cdv A outer s H0 Ex) (B', B') [.own [.list (cs.map .int), .int v, .int k], .dat (.int m), .dat (.int k), .dat (.int c), .no] (testOf ((bodyOf (stm 61 0)).getD 3 (.Pass ⟨0, 0, 0, 0⟩))) kb := fun kb hkb => t_lt (dv 3) (d_pow di di ⟨by decide, by decide, by decide⟩) hkb
      by_cases hlt : c < 10 ^ 18
      · refine sxs_cons (sx_ifT (tst true (decide_eq_true hlt)) n4.look fun B5 H5 g5 => ?_)
        have n5 := n4.up g5
        refine sxs_cons (sx_set 3 sc_l_next.nd (ev_pd (d_mod (d_intI T.int (d_add (d_add (d_mul (dv 3) di (by decide)) (d_mul (dv 2) di (by decide))) di)) di (by decide)) n5.look fun u B6 H6 g6 y6 => ?_))
        have n6 := (n5.up g6).set (i := 3) y6 (by decide)
        have c1 : 0 ≤ (c * 48271 + k * 69621 + 11) % 2147483647 := Int.emod_nonneg _ (by decide)
        refine sxs_cons (sx_set 3 sc_l_next.nd (ev_pd (d_add (d_mul (d_mod (d_intI T.int (d_add (d_mul (dv 3) di (by decide)) di)) di (by decide)) di (by decide)) (dv 3)) n6.look fun u B7 H7 g7 y7 => ?_))
        have n7 := (n6.up g7).set (i := 3) y7 (by decide)
        have c2 : 0 ≤ ((c * 48271 + k * 69621 + 11) % 2147483647 * 16807 + 13) % 2147483647 := Int.emod_nonneg _ (by decide)
        exact sxs_nil (mid2 _ _ _ _ (by omega) n7)
      · refine sxs_cons (sx_ifF (tst false (decide_eq_false hlt)) n4.look fun B5 H5 g5 => ?_)
        exact sxs_nil (mid2 c _ _ _ hc (n4.up g5))
    by_cases hkl : k < (cs.length : Int)
    · refine sxs_cons (sx_ifT (t_lt (dv 2) (d_len (l := cs.map PyData.int) T.len (d_ixO 0 di rfl) rfl) (decide_eq_true (by rw [List.length_map]; exact hkl))) n3.look fun B5 H5 g5 => ?_)
      have n5 := n3.up g5
      obtain ⟨x, hx⟩ : ∃ x, cs[k.toNat]? = some x := ⟨_, List.getElem?_eq_getElem (by omega)⟩
      have hxk : atI (cs.map PyData.int) k = some (.int x) := by
        have e : (k.toNat : Int) = k := by omega
        rw [← e]
        exact ints_at hx
      refine sxs_cons (sx_set 3 sc_l_next.nd (ev_pd (d_abs T.abs (d_ixL (d_ixO 0 di rfl) (dv 2) hxk)) n5.look fun u B6 H6 g6 y6 => ?_))
      have n6 := (n5.up g6).set (i := 3) y6 (by decide)
      exact sxs_nil (mid1 _ _ _ _ (by split <;> omega) n6)
    · refine sxs_cons (sx_ifF (t_lt (dv 2) (d_len (l := cs.map PyData.int) T.len (d_ixO 0 di rfl) rfl) (decide_eq_false (by rw [List.length_map]; exact hkl))) n3.look fun B5 H5 g5 => ?_)
      exact sxs_nil (mid1 _ _ _ _ (by omega) (n3.up g5))
  · refine sxs_cons (sx_ifF (t_eq (d1 := .int v) (d_ixO 0 di rfl) di (by exact congrArg some (decide_eq_false h0))) n0.look fun B1 H1 g1 => ?_)
    exact sxs_nil (tail v k _ _ _ _ _ hv hk (n0.up g1))
end
end Tb

set_option maxHeartbeats 1000000
/-! The law's defs that draw: _law_rule, _law_command. -/
namespace Tb
open PySem PySem.Spec PyProof.Rows
open L2
/-- growth, but for what stands at a -/
structure Gx (a : Addr) (B H B' H' : Hp) : Prop where
  bb : Same B B'
  but : But a H H'
  bh : Same B' H'
  fr : ∀ b, B b = none → H b ≠ none → B' b = none
section
variable {a : Addr} {B H B' H' B2 H2 : Hp}
theorem Gx.refl (h : Same B H) : Gx a B H B H := ⟨Same.refl B, fun _ _ _ e => e, h, fun _ e _ => e⟩
theorem Gx.gr (g : Gx a B H B' H') (k : Gr B' H' B2 H2) (hn : ∀ b, b = a → H' b ≠ none) : Gx a B H B2 H2 :=
  ⟨g.bb.trans k.bb, fun b o hb e => k.hh _ _ (g.but b o hb e), k.bh, fun b e n => k.fr b (g.fr b e n) (by
    by_cases hb : b = a
    · exact hn b hb
    · obtain ⟨o, ho⟩ := Option.ne_none_iff_exists'.mp n
      rw [g.but b o hb ho]; exact fun z => nomatch z)⟩
theorem Gx.but' (g : Gx a B H B' H') (k : But a H' H2) (n : B' a = none) : Gx a B H B' H2 :=
  ⟨g.bb, fun b o hb e => k b o hb (g.but b o hb e), k.same g.bh n, g.fr⟩
end
/-- a state with the stream at a -/
structure WS (K : PySem.W.Frag) (a b : Addr) (B0 H0 : Hp) (γ : List Slot) (σ : St) (B H : Hp) : Prop where
  z : Z K γ σ B H
  sm : Strm H a b
  ba : B a = none
  gx : Gx a B0 H0 B H
section
variable {K : PySem.W.Frag} {a b : Addr} {B0 H0 : Hp} {γ : List Slot} {σ : St} {B H B' H' : Hp}
theorem WS.up (n : WS K a b B0 H0 γ σ B H) (g : Gr B H B' H') : WS K a b B0 H0 γ σ B' H' :=
  ⟨n.z.up g, n.sm.up g.hh, g.fr a n.ba n.sm.ne, n.gx.gr g fun b e => by rw [e]; exact n.sm.ne⟩
theorem WS.draw (n : WS K a b B0 H0 γ σ B H) (sm : Strm H' a b) (but : But a H H') : WS K a b B0 H0 γ σ B H' :=
  ⟨n.z.re (Same.refl B) (but.same n.z.bh n.ba), sm, n.ba, n.gx.but' but n.ba⟩
theorem WS.set (n : WS K a b B0 H0 γ σ B H) {i : Nat} {d : PyData} {u : V} (h : Dt K B u d) : WS K a b B0 H0 (γ.set i (.dat d)) (σ.set i (some u)) B H := ⟨n.z.set h, n.sm, n.ba, n.gx⟩
end
section
variable {X : Cx} {pos : Pos} {e : Expr} {σ : St} {H : Hp} {Q : VK}
theorem ev_next {x : Str} {p p1 : Pos} {j : Nat} {a b : Addr} (c : C8.Cal X.prog X.w X.K X.mg X.base 1 "_law_next" spNext []) (hr : Room j X.A) (hk : 1 ≤ j) (i : Nat) (hσ : σ[i]? = some (some (.ref a)))
    (q : Ev X e σ H fun v H1 => ∃ m, v = .int m ∧ 1 ≤ m ∧ m < 1073741824 ∧ Strm H1 a b ∧ ∀ z H', 0 ≤ z → z < m → Strm H' a b → But a H1 H' → Q (.int z) H') (hN : X.N[i]? = some x := by rfl)
    (hv : Vis X.env.scope x := by first | exact Or.inl rfl | exact Or.inr (Or.inl rfl) | exact Or.inr (Or.inr rfl)) (hd : (x == ("__debug__" : Str)) = false := by decide) (hcd : (x == ("__classdict__" : Str)) = false := by decide) (hg : Gl X "_law_next" := by rfl)
    (he : starEach [.Name x p1, e] X.env = (false, eval (.Name x p1) X.env) :: starEach [e] X.env := by rfl) (he2 : starEach [e] X.env = (false, eval e X.env) :: starEach [] X.env := by rfl) (hpl : (backTo pos (starEach [e] X.env)).any (·.1) = false := by rfl) : Ev X (.Call (.Name "_law_next" p) [.Name x p1, e] [] pos) σ H Q :=
  ev_of (C8.pe_c c hr hk hg (pa_cons (pe_var hN hv hd hcd) (pa_cons pe_ev pa_nil he2) he) (by decide) he hpl) ⟨_, hσ, q.mono fun v H1 ⟨m, h1, h2, h3, h4, h5⟩ => ⟨a, b, m, by rw [h1]; rfl, h2, h3, h4, h5⟩⟩
end
/-- a rule is drawn -/
def spRule (K : PySem.W.Frag) : Sp := fun vs H Q _ => ∃ (a b : Addr) (n : Nat) (B : Hp), vs = [.ref a, .int (n : Int), .non] ∧ 2 ≤ n ∧ n ≤ 4 ∧ Strm H a b ∧ Same B H ∧ B a = none ∧ ∀ (r : Rule) v B' H', r.ok n → Gx a B H B' H' → B' a = none → Strm H' a b → Dt K B' v r.toD → Q v H'
section
variable {P : Program} {w : World} {K : PySem.W.Frag} {mg : Str → Option Value} {base : Heap}
abbrev n_l_rule : List Str := ["_law_stream_here", "_law_size", "_law_plan", "_law_first", "_law_second", "_law_wanted", "_law_one"]
theorem sc_l_rule : FnScope n_l_rule ["_law_stream_here", "_law_size", "_law_plan"] (defScope (top 71)) := ⟨rfl, rfl, rfl, by decide +kernel, rfl, by decide +kernel, by decide +kernel⟩
theorem ord_ok (l : List R4) : R3.filter (fun x => decide (x ∈ R3.filter fun x => decide (x ∈ l))) = R3.filter fun x => decide (x ∈ l) :=
  List.filter_congr fun x hx => by
    rw [decide_eq_decide, List.mem_filter, decide_eq_true_eq]
    exact ⟨fun h => h.2, fun h => ⟨hx, h⟩⟩
theorem c_l_rule (T : Txt K mg w) : C8.Cal P w K mg base 3 "_law_rule" (spRule K) [] := by
  refine cal_raw T.l_rule sc_l_rule (fun _ _ _ _ _ _ us hl => match us, hl with | [_, _, _], _ => rfl) (fun vs H Q E ⟨_, _, _, _, e, _⟩ => by rw [e]; rfl) ?_
  rintro f cdv A outer s H0 Ex hr vs Q ⟨a, b, n, B0, rfl, hn2, hn4, hsm, bh, hba, q⟩
  have n0 : WS K a b B0 H0 [.raw (.ref a), .dat (.int (n : Int)), .dat .none, .no, .no, .no, .no] (L2.start n_l_rule [.ref a, .int (n : Int), .non]) B0 H0 :=
    ⟨⟨bh, rfl, .cons rfl (.cons ⟨_, rfl, .int _⟩ (.cons ⟨_, rfl, .non⟩ (.cons (show SlotR _ _ _ _ .no none from trivial) (.cons (show SlotR _ _ _ _ .no none from trivial) (.cons (show SlotR _ _ _ _ .no none from trivial) (.cons (show SlotR _ _ _ _ .no none from trivial) .nil))))))⟩, hsm, hba, Gx.refl bh⟩
  -- the last statement
  have fin : ∀ (x y : Int) (l : List R4) (s6 : Slot) (σ' : St) (B' H' : Hp), 0 ≤ x → x < n → 0 ≤ y → y < n → x ≠ y → l ≠ [] → l.length ≤ 3 → (∀ z ∈ l, z ∈ R3) → WS K a b B0 H0 [.raw (.ref a), .dat (.int (n : Int)), .dat .none, .dat (.int x), .dat (.int y), .dat (.list (rD l)), s6] σ' B' H' →
      Sxs (CxD P w K mg base n_l_rule "_law_rule" (top 71) f cdv A outer s H0 Ex) ((defBody (top 71)).drop 6) { nx := fun _ H' => Q .non H', rt := Q } σ' H' := by
    intro x y l s6 σ' B' H' x0 xn y0 yn xy hl hl3 h3 m
    refine sxs_cons (sx_ret (ev_pd (d := (Rule.mk x (R3.filter fun z => decide (z ∈ l)) y).toD) (d_tup (a_cons (dv 3) (a_cons (d_tuple T.tuple (l := rD (R3.filter fun z => decide (z ∈ l))) (d_lcL (T := T1 6) (l := rD R3) [("_law_one", 6)] rfl sc_l_rule.nd (d_call0 (c_l_relations T) hr (by omega) ⟨rfl, rfl⟩) (id (α := blkC n_l_rule (defScope (top 71)) _ _ = true) (by decide +kernel)) (fun _ _ _ _ _ => pg_name sc_l_rule.nd rfl (Or.inl rfl)) (tg1 (by decide)) (by decide) (lc_filterE R3 (fun z => decide (z ∈ l)) (fun x => .str x.s) (fun x => .str x.s) fun x hx => ⟨_, rfl, fun s H C cl fp => t_inL (dv 6) (dv 5) rfl (flat_rD _) rfl (inD_str x _), fun _ s H C cl fp => dv 6⟩))) (a_cons (dv 4) a_nil)))) m.z.s fun u B1 H1 g1 y1 => ?_))
    have m1 := m.up g1
    refine q _ u B1 H1 ⟨x0, xn, y0, yn, xy, fun e => ?_, ord_ok l⟩ m1.gx m1.ba m1.sm y1
    obtain ⟨z, hz⟩ := List.exists_mem_of_ne_nil l hl
    have : z ∈ R3.filter fun z => decide (z ∈ l) := List.mem_filter.mpr ⟨h3 z hz, decide_eq_true hz⟩
    have e' : (R3.filter fun z => decide (z ∈ l)) = [] := e
    rw [e'] at this
    cases this
  refine sxs_cons (sx_set 3 sc_l_rule.nd (ev_next (b := b) (c_l_next T) hr (by omega) 0 (n0.z.raw rfl) (ev_pd (dv 1) n0.z.s fun u B1 H1 g1 y1 => ?_)))
  cases y1
  have n1 := n0.up g1
  refine ⟨_, rfl, by omega, by omega, n1.sm, fun x H2 x0 xn sm2 b2 => ?_⟩
  have n2 := (n1.draw sm2 b2).set (i := 3) (.int x)
  refine sxs_cons (sx_set 4 sc_l_rule.nd (ev_next (b := b) (c_l_next T) hr (by omega) 0 (n2.z.raw rfl) (ev_pd (d_sub (dv 1) di) n2.z.s fun u B3 H3 g3 y3 => ?_)))
  cases y3
  have n3 := n2.up g3
  refine ⟨_, rfl, by omega, by omega, n3.sm, fun y H4 y0 yn sm4 b4 => ?_⟩
  have n4 := (n3.draw sm4 b4).set (i := 4) (.int y)
  refine sxs_cons (sx_set 4 sc_l_rule.nd (ev_pd (d_add (dv 4) (d_intB (k := decide (x ≤ y)) T.int (d_ge (dv 4) (dv 3)))) n4.z.s fun u B5 H5 g5 y5 => ?_))
  have n5 := (n4.up g5).set (i := 4) y5
  obtain ⟨y', hy', w0, wn, wx⟩ : ∃ y', y' = y + (if decide (x ≤ y) = true then 1 else 0) ∧ 0 ≤ y' ∧ y' < (n : Int) ∧ x ≠ y' := by
    refine ⟨_, rfl, ?_⟩
    by_cases h : x ≤ y
    · rw [decide_eq_true h, if_pos rfl]; omega
    · rw [decide_eq_false h, if_neg Bool.false_ne_true]; omega
  have e5 : y + (if decide (x ≤ y) = true then 1 else 0) = y' := hy'.symm
  have n5' : WS K a b B0 H0 [.raw (.ref a), .dat (.int (n : Int)), .dat .none, .dat (.int x), .dat (.int y'), .no, .no] ((((L2.start n_l_rule [V.ref a, V.int (n : Int), V.non]).set 3 (some (V.int x))).set 4 (some (V.int y))).set 4 (some u)) B5 H5 := by
    rw [← e5]; exact n5
  clear n5
  -- the relations that are drawn
  have comp : ∀ (k : ∀ (l : List R4) (σ' : St) (B' H' : Hp), l.length ≤ 3 → (∀ z ∈ l, z ∈ R3) → WS K a b B0 H0 [.raw (.ref a), .dat (.int (n : Int)), .dat .none, .dat (.int x), .dat (.int y'), .dat (.list (rD l)), .no] σ' B' H' → Sxs (CxD P w K mg base n_l_rule "_law_rule" (top 71) f cdv A outer s H0 Ex) ((defBody (top 71)).drop 4) { nx := fun _ H' => Q .non H', rt := Q } σ' H'),
      Sxs (CxD P w K mg base n_l_rule "_law_rule" (top 71) f cdv A outer s H0 Ex) ((defBody (top 71)).drop 3) { nx := fun _ H' => Q .non H', rt := Q } ((((L2.start n_l_rule [V.ref a, V.int (n : Int), V.non]).set 3 (some (V.int x))).set 4 (some (V.int y))).set 4 (some u)) H5 := by
    intro k
    generalize ((((L2.start n_l_rule [V.ref a, V.int (n : Int), V.non]).set 3 (some (V.int x))).set 4 (some (V.int y))).set 4 (some u)) = σ5 at n5' ⊢
    refine sxs_cons ⟨_, ps_set (i := 5) sc_l_rule.nd rfl (Or.inr rfl) (pe_lc (own := [("_law_one", 6)]) rfl sc_l_rule.nd (pi_list pe_ev) (blkOk_by (id (α := blkC n_l_rule (defScope (top 71)) _ _ = true) (by decide +kernel))) (fun _ _ _ _ _ => pg_name (i := 6) sc_l_rule.nd rfl (Or.inl rfl)) (fun _ _ _ _ _ => pts_one (pt_cmpR op_eq (C8.pe_c (c_l_next T) hr (by omega) rfl (pa_cons (pe_var (i := 0) rfl (by first | exact Or.inl rfl | exact Or.inr (Or.inl rfl) | exact Or.inr (Or.inr rfl))) (pa_cons pe_int pa_nil))) pe_int (nomark _))) (fun _ _ _ _ _ => pe_var (i := 6) rfl (by first | exact Or.inl rfl | exact Or.inr (Or.inl rfl) | exact Or.inr (Or.inr rfl)))), ?_⟩
    refine ev_pd (d_call0 (c_l_relations T) hr (by omega) ⟨rfl, rfl⟩) n5'.z.s fun v1 B6 H6 g6 y6 => ?_
    have n6 := n5'.up g6
    cases y6 with
    | @lst ar xs _ h1 h2 =>
      have exs : xs = R3.map fun r => V.str r.s := by
        have hs : rD R3 = (R3.map R4.s).map .str := rfl
        rw [hs] at h2
        have := h2.strs
        rw [List.map_map] at this
        exact this
      have hlen : σ5.length = 7 := by have := Paired.length n5'.z.sl; exact this.symm
      have hara : ar ≠ a := fun e => by rw [e, n6.ba] at h1; cases h1
      have hσ0 := n5'.z.raw (i := 0) rfl
      have h6a := n6.sm.ne
      refine ⟨ar, rfl, ⟨xs, SqL.of (n6.z.bh _ _ h1)⟩, fun Da hD => lc_list (xs := xs) (fun i Hc => ∃ l : List R4, (∀ z ∈ l, z ∈ R3) ∧ l.length ≤ i ∧ Hc Da = some (.lst (l.map fun r => V.str r.s)) ∧ Strm Hc a b ∧ ∀ b o, b ≠ a → H6 b = some o → Hc b = some o) ?h0 ?hl ?hs ?hd⟩
      case h0 => exact ⟨[], by simp, Nat.le_refl _, upd_same, n6.sm.up (same_new hD _), fun b o _ e => by rw [upd_ne (ne_of_none e hD)]; exact e⟩
      case hl =>
        rintro i Hc _ ⟨l, _, _, _, _, hb⟩
        exact SqL.of (hb ar _ hara (n6.z.bh _ _ h1))
      case hs =>
        rintro i xv Hc hx ⟨l, l1, l2, l3, l4, l5⟩
        obtain ⟨r, hr3, rfl⟩ : ∃ r ∈ R3, xv = V.str r.s := by
          rw [exs] at hx
          have := List.mem_of_getElem? hx
          obtain ⟨r, h, e⟩ := List.mem_map.mp this
          exact ⟨r, h, e.symm⟩
        have hil : i < 3 := by
          have := (List.getElem?_eq_some_iff.mp hx).1
          rw [exs] at this
          simpa [R3] using this
        refine ⟨(wipe_set (by simp)).trans (wipe_wipe σ5 [6]), ?_⟩
        have hs0 : ((wipe σ5 [6]).set 6 (some (V.str r.s)))[0]? = some (some (.ref a)) := by
          rw [List.getElem?_set_ne (by decide), wipe_get]
          rw [if_neg (by simp)]
          exact hσ0
        have hs6 : ((wipe σ5 [6]).set 6 (some (V.str r.s)))[6]? = some (some (V.str r.s)) := by
          rw [List.getElem?_set_self (by rw [wipe_length, hlen]; decide)]
        refine ⟨_, hs0, a, b, 2, rfl, by decide, by decide, l4, fun z Hn z0 z2 smn bn => ?_⟩
        have hDa : Da ≠ a := fun e => h6a (by rw [← e]; exact hD)
        refine ⟨rfl, _, rfl, ?_⟩
        by_cases hz : z = 1
        · subst hz
          refine iteT ⟨_, hs6, _, bn Da _ hDa l3, by rw [List.length_map, sizeLine_is]; omega, l ++ [r], fun z hz => ?_, by rw [List.length_append, List.length_singleton]; omega, by rw [upd_same, List.map_append]; rfl, ?_, fun b o hb e => ?_⟩
          · rcases List.mem_append.mp hz with hz | hz
            · exact l1 z hz
            · rw [List.mem_singleton] at hz; rw [hz]; exact hr3
          · exact smn.side hDa fun e => n6.sm.ne2 (by rw [← e]; exact hD)
          · rw [upd_ne (ne_of_none e hD)]; exact bn b o hb (l5 b o hb e)
        · have hf : decide (V.int z = V.int 1) = false := decide_eq_false fun e => hz (V.int.inj e)
          rw [hf]
          exact iteF ⟨l, l1, by omega, bn Da _ hDa l3, smn, fun b o hb e => bn b o hb (l5 b o hb e)⟩
      case hd =>
        rintro Hc ⟨l, l1, l2, l3, l4, l5⟩
        have hDa : Da ≠ a := fun e => h6a (by rw [← e]; exact hD)
        have b6 : B6 Da = none := n6.z.bh.free hD
        have e7 : Same B6 (upd B6 Da (.lst (l.map fun r => V.str r.s))) := same_new b6 _
        have bh7 : Same (upd B6 Da (.lst (l.map fun r => V.str r.s))) Hc := fun x o e => by
          by_cases hx : x = Da
          · subst hx; rw [upd_same] at e; rw [l3]; exact e
          · rw [upd_ne hx] at e
            exact l5 x o (ne_of_none e n6.ba) (n6.z.bh _ _ e)
        have dl : DtL K (upd B6 Da (.lst (l.map fun r => V.str r.s))) (l.map fun r => V.str r.s) (rD l) := by
          clear l1 l2 l3 bh7 e7
          generalize upd B6 Da (.lst (l.map fun r => V.str r.s)) = BB
          induction l with
          | nil => exact .nil
          | cons r l ih => exact .cons (.str _) ih
        refine k l _ _ Hc (by rw [exs] at l2; exact l2) l1 ⟨(n6.z.re e7 bh7).set (i := 5) (.lst upd_same dl), l4, by rw [upd_ne hDa.symm]; exact n6.ba, n6.gx.bb.trans e7, fun x o hx e => l5 x o hx (n6.gx.but x o hx e), bh7, fun x e n => ?_⟩
        have h6 : B6 x = none := n6.gx.fr x e n
        have hx : x ≠ Da := fun z => by
          by_cases hxa : x = a
          · exact hDa (z.symm.trans hxa)
          · obtain ⟨o, ho⟩ := Option.ne_none_iff_exists'.mp n
            have := n6.gx.but x o hxa ho
            rw [z, hD] at this
            cases this
        rw [upd_ne hx]
        exact h6
  refine comp fun l σ' B' H' hl3 h3 m => ?_
  refine sxs_cons (sx_ifF (t_notN (dv 2)) m.z.s fun B7 H7 g7 => sxs_nil ?_)
  have m7 := m.up g7
  by_cases hl : l = []
  · subst hl
    refine sxs_cons (sx_ifT (t_not (t_truL (dv 5))) m7.z.s fun B8 H8 g8 => ?_)
    have m8 := m7.up g8
    refine sxs_cons (sx_set 5 sc_l_rule.nd (ev_of (pe_lst (pa_cons (pe_ix ix_list pe_ev pe_ev (by exact fun _ _ => rfl)) pa_nil)) ?_))
    refine ev_pd (d_call0 (c_l_relations T) hr (by omega) ⟨rfl, rfl⟩) m8.z.s fun v1 B9 H9 g9 y9 => ?_
    have m9 := m8.up g9
    refine ev_next (b := b) (c_l_next T) hr (by omega) 0 (m9.z.raw rfl) (ev_pd di m9.z.s fun u B10 H10 g10 y10 => ?_)
    cases y10
    have m10 := m9.up g10
    refine ⟨_, rfl, by decide, by decide, m10.sm, fun z H11 z0 z3 sm11 b11 => ?_⟩
    have m11 := m10.draw sm11 b11
    have y10 := y9.up g10.bb
    obtain ⟨r, hr3⟩ : ∃ r, R3[z.toNat]? = some r := ⟨_, List.getElem?_eq_getElem (by show z.toNat < 3; omega)⟩
    have hz : atI (rD R3) z = some (.str r.s) := by
      have e : (z.toNat : Int) = z := by omega
      rw [← e]
      exact atI_nat (by unfold rD; rw [List.getElem?_map, hr3]; rfl)
    cases y10 with
    | @lst ar xs _ h1 h2 =>
      obtain ⟨w, hw, dw⟩ := h2.at hz
      refine ⟨ar, xs, z, w, rfl, rfl, SqL.of (m11.z.bh _ _ h1), hw, ?_⟩
      refine ⟨by show 1 ≤ sizeLine; decide, fun p hp => ?_⟩
      have g12 := Gr.new m11.z.bh hp (.lst [w])
      have m12 := (m11.up g12).set (i := 5) (.lst (ds := rD [r]) upd_same (.cons (dw.up g12.bb) .nil))
      exact sxs_nil (fin x y' [r] _ _ _ _ x0 xn w0 wn wx (by simp) (by simp) (fun z hz => by
        rw [List.mem_singleton] at hz
        rw [hz]
        exact List.mem_of_getElem? hr3) m12)
  · have e1 : (!(rD l).isEmpty) = true := by
      cases l with
      | nil => exact absurd rfl hl
      | cons _ _ => rfl
    refine sxs_cons (sx_ifF (t_not (t_truL (dv 5)) (by rw [e1]; rfl)) m7.z.s fun B8 H8 g8 => sxs_nil ?_)
    exact fin x y' l _ _ _ _ x0 xn w0 wn wx hl hl3 h3 (m7.up g8)
end
end Tb

set_option maxHeartbeats 1000000
/-! The law's defs that draw: _law_command, _law_history. -/
namespace Tb
open PySem PySem.Spec PyProof.Rows
open L2
section
variable {X : Cx} {E : Hp × Hp} {γ : List Slot} {pos : Pos} {a : Expr} {i : Int}
theorem d_neg {k_ : Int} (ha : PD X E γ a (.int i)) (hk_ : -i = k_ := by rfl) : PD X E γ (.UnaryOp .USub a pos) (.int k_) :=
  PD.is ((pe_un un_neg ha).weak fun σ H Q ⟨B, s, q⟩ => ⟨B, s, fun v B1 H1 g1 y => by
    cases y
    exact ⟨i, rfl, q _ B1 H1 g1 (.int _)⟩⟩) (congrArg _ hk_)
end
section
variable {K : PySem.W.Frag} {a b : Addr} {B0 H0 : Hp} {γ : List Slot} {σ : St} {B H : Hp}
/-- something is laid beside -/
theorem WS.side (n : WS K a b B0 H0 γ σ B H) {p : Addr} (hp : H p = none) (o : HO) : WS K a b B0 H0 γ σ B (upd H p o) := by
  have hpa : p ≠ a := fun e => n.sm.ne (by rw [← e]; exact hp)
  have hpb : p ≠ b := fun e => n.sm.ne2 (by rw [← e]; exact hp)
  have bp : B p = none := n.z.bh.free hp
  have bh : Same B (upd H p o) := fun x u e => by rw [upd_ne (ne_of_none e bp)]; exact n.z.bh x u e
  refine ⟨n.z.re (Same.refl B) bh, n.sm.side hpa hpb, n.ba, n.gx.bb, fun x u hx e => ?_, bh, n.gx.fr⟩
  have := n.gx.but x u hx e
  rw [upd_ne (fun z => by rw [z, hp] at this; cases this)]
  exact this
end
/-- a command is drawn -/
def spCommand (K : PySem.W.Frag) : Sp := fun vs H Q _ => ∃ (a b : Addr) (n : Nat) (rs : List Rule) (vr : V) (B : Hp), vs = [.ref a, .int (n : Int), vr] ∧ 1 ≤ n ∧ n ≤ 4 ∧ Strm H a b ∧ Same B H ∧ B a = none ∧ Dt K B vr (.tuple (rsD rs)) ∧ ∀ (c : Cmd) v B' H', c.ok n → Gx a B H B' H' → B' a = none → Strm H' a b → Dt K B' v c.toD → Q v H'
section
variable {P : Program} {w : World} {K : PySem.W.Frag} {mg : Str → Option Value} {base : Heap}
abbrev n_l_command : List Str := ["_law_stream_here", "_law_size", "_law_rules", "_law_pick", "_law_rule_here"]
theorem sc_l_command : FnScope n_l_command ["_law_stream_here", "_law_size", "_law_rules"] (defScope (top 80)) := ⟨rfl, rfl, rfl, by decide +kernel, rfl, by decide +kernel, by decide +kernel⟩
theorem c_l_command (T : Txt K mg w) : C8.Cal P w K mg base 4 "_law_command" (spCommand K) [] := by
  refine cal_raw T.l_command sc_l_command (fun _ _ _ _ _ _ us hl => match us, hl with | [_, _, _], _ => rfl) (fun vs H Q E ⟨_, _, _, _, _, _, e, _⟩ => by rw [e]; rfl) ?_
  rintro f cdv A outer s H0 Ex hr vs Q ⟨a, b, n, rs, vr, B0, rfl, hn1, hn4, hsm, bh, hba, hvr, q⟩
  have n0 : WS K a b B0 H0 [.raw (.ref a), .dat (.int (n : Int)), .dat (.tuple (rsD rs)), .no, .no] (L2.start n_l_command [.ref a, .int (n : Int), vr]) B0 H0 :=
    ⟨⟨bh, rfl, .cons rfl (.cons ⟨_, rfl, .int _⟩ (.cons ⟨_, rfl, hvr⟩ (.cons (show SlotR _ _ _ _ .no none from trivial) (.cons (show SlotR _ _ _ _ .no none from trivial) .nil))))⟩, hsm, hba, Gx.refl bh⟩
  -- an index that is drawn
  have mn : ∀ (l : Nat), ∃ k : Nat, (if ((l : Int) + 1) < 20 then ((l : Int) + 1) else 20) = (k : Int) ∧ 1 ≤ k ∧ k ≤ 20 := fun l => by
    by_cases h : (l : Int) + 1 < 20
    · rw [if_pos h]; exact ⟨l + 1, by omega, by omega, by omega⟩
    · rw [if_neg h]; exact ⟨20, rfl, by omega, by omega⟩
  obtain ⟨k, hk, hk1, hk20⟩ := mn rs.length
  have hlen : ((rsD rs).length : Int) = (rs.length : Int) := by rw [rsD_len]
  refine sxs_cons (sx_set 3 sc_l_command.nd (ev_next (b := b) (c_l_next T) hr (by omega) 0 (n0.z.raw rfl) (ev_pd di n0.z.s fun u B1 H1 g1 y1 => ?_)))
  cases y1
  have n1 := n0.up g1
  refine ⟨_, rfl, by decide, by decide, n1.sm, fun x H2 x0 x6 sm2 b2 => ?_⟩
  have n2 := (n1.draw sm2 b2).set (i := 3) (.int x)
  by_cases hd : n = 1 ∨ x = 5
  · have tst : PB (CxD P w K mg base n_l_command "_law_command" (top 80) f cdv A outer s H0 Ex) (B1, B1) [.raw (.ref a), .dat (.int (n : Int)), .dat (.tuple (rsD rs)), .dat (.int x), .no] (testOf (stm 80 1)) true := by
      by_cases h1 : n = 1
      · exact PW.pt (t_orT (t_eq (dv 1) di (by exact congrArg some (decide_eq_true (by omega)))))
      · exact PW.pt (t_orF (t_eq (dv 1) di (by exact congrArg some (decide_eq_false (by omega)))) (t_or1 (t_eq (dv 3) di (by exact congrArg some (decide_eq_true (by omega))))))
    refine sxs_cons (sx_ifT tst n2.z.s fun B3 H3 g3 => ?_)
    have n3 := n2.up g3
    refine sxs_cons (sx_ret (ev_of (pe_tup (pa_cons pe_str (pa_cons (pe_ix ix_list (pe_lst (pa_cons pe_ev (pa_cons pe_ev pa_nil))) (pe_callTy call_int1 rfl T.int (by decide +kernel) (pa_cons (pe_cmpR op_gt pe_ev pe_int (nomark _)) pa_nil)) (by exact fun _ _ => rfl)) pa_nil))) ?_))
    refine ev_next (b := b) (c_l_next T) hr (by omega) 0 (n3.z.raw rfl) (ev_pd di n3.z.s fun u B4 H4 g4 y4 => ?_)
    cases y4
    have n4 := n3.up g4
    refine ⟨_, rfl, by decide, by decide, n4.sm, fun z1 H5 z10 z120 sm5 b5 => ?_⟩
    have n5 := n4.draw sm5 b5
    refine ev_next (b := b) (c_l_next T) hr (by omega) 0 (n5.z.raw rfl) (ev_pd (d_min2 (k_ := (k : Int)) rfl T.min di (d_add (d_len T.len (dv 2) rfl) di) (hk_ := by rw [hlen]; exact hk)) n5.z.s fun u B6 H6 g6 y6 => ?_)
    cases y6
    have n6 := n5.up g6
    refine ⟨_, rfl, by omega, by omega, n6.sm, fun z2 H7 z20 z2k sm7 b7 => ?_⟩
    have n7 := n6.draw sm7 b7
    refine ⟨by show 2 ≤ sizeLine; decide, fun p hp => ?_⟩
    have n8 := n7.side hp (.lst [.int z1, .int z2])
    refine ev_next (b := b) (c_l_next T) hr (by omega) 0 (n8.z.raw rfl) (ev_pd di n8.z.s fun u B9 H9 g9 y9 => ?_)
    cases y9
    have n9 := n8.up g9
    refine ⟨_, rfl, by decide, by decide, n9.sm, fun z3 H10 z30 z33 sm10 b10 => ?_⟩
    have n10 := n9.draw sm10 b10
    have hpa : p ≠ a := fun e => n7.sm.ne (by rw [← e]; exact hp)
    have hp10 : H10 p = some (.lst [.int z1, .int z2]) := b10 p _ hpa (g9.hh _ _ upd_same)
    refine ⟨z3, 0, rfl, rfl, .inr ⟨_, rfl, ?_⟩⟩
    have key : ∀ z : Int, 0 ≤ z → z < 20 → Q (.ref 0) H10 ∨ True := fun _ _ _ => .inr trivial
    have fin : ∀ z : Int, 0 ≤ z → z < 20 → (2 ≤ sizeLine ∧ ∀ p2, H10 p2 = none → Q (.ref p2) (upd H10 p2 (.tup [.str "drop", .int z]))) := fun z h0 h20 => by
      refine ⟨by decide, fun p2 hp2 => ?_⟩
      have g11 := Gr.new n10.z.bh hp2 (.tup [.str "drop", .int z])
      have n11 := n10.up g11
      have ez : (z.toNat : Int) = z := by omega
      refine q (.drop z.toNat) _ _ _ (by show z.toNat < 20; omega) n11.gx n11.ba n11.sm ?_
      show Dt K _ _ (.tuple [.str "drop", .int (z.toNat : Int)])
      rw [ez]
      exact .tup (SqT.of upd_same) (.cons (.str _) (.cons (.int _) .nil))
    by_cases hz : 0 < z3
    · refine ⟨p, _, 1, .int z2, rfl, ?_, SqL.of hp10, rfl, fin z2 z20 (by omega)⟩
      rw [decide_eq_true hz]; rfl
    · refine ⟨p, _, 0, .int z1, rfl, ?_, SqL.of hp10, rfl, fin z1 z10 z120⟩
      rw [decide_eq_false hz]; rfl
  · have h1 : n ≠ 1 := fun e => hd (.inl e)
    have h5 : x ≠ 5 := fun e => hd (.inr e)
    refine sxs_cons (sx_ifF (PW.pt (t_orF (t_eq (d1 := .int (n : Int)) (dv 1) di (by exact congrArg some (decide_eq_false (by omega)))) (t_or1 (t_eq (d1 := .int x) (dv 3) di (by exact congrArg some (decide_eq_false h5)))))) n2.z.s fun B3 H3 g3 => sxs_nil ?_)
    have n3 := n2.up g3
    refine sxs_cons (sx_set 4 sc_l_command.nd (ev_of (C8.pe_c (c_l_rule T) hr (by omega) rfl (pa_cons (pe_var (i := 0) rfl (Or.inl rfl)) (pa_cons pe_ev (pa_cons pe_ev pa_nil)))) ⟨_, n3.z.raw rfl, ev_pd (dv 1) n3.z.s fun u B4 H4 g4 y4 => ?_⟩))
    have n4 := n3.up g4
    refine ev_pd dnone n4.z.s fun u5 B5 H5 g5 y5 => ?_
    have n5 := n4.up g5
    cases y4
    cases y5
    refine ⟨a, b, n, B5, rfl, by omega, hn4, n5.sm, n5.z.bh, n5.ba, fun r v B6 H6 ro gx6 ba6 sm6 y6 => ?_⟩
    have n6 : WS K a b B0 H0 _ _ B6 H6 := WS.set (i := 4) ⟨n5.z.re gx6.bb gx6.bh, sm6, ba6, n5.gx.bb.trans gx6.bb, fun x o hx e => gx6.but x o hx (n5.gx.but x o hx e), gx6.bh, fun x e nx => gx6.fr x (n5.gx.fr x e nx) (by
      by_cases hx : x = a
      · rw [hx]; exact n5.sm.ne
      · obtain ⟨o, ho⟩ := Option.ne_none_iff_exists'.mp nx
        rw [n5.gx.but x o hx ho]; exact fun z => nomatch z)⟩ y6
    by_cases h4 : x < 4
    · refine sxs_cons (sx_ifT (t_lt (dv 3) di (decide_eq_true h4)) n6.z.s fun B7 H7 g7 => ?_)
      have n7 := n6.up g7
      refine sxs_cons (sx_ret (ev_pd (d_tup (a_cons Tb.ds (a_cons (dv 4) a_nil))) n7.z.s fun u B8 H8 g8 y8 => ?_))
      have n8 := n7.up g8
      exact q (.add r) u B8 H8 ro n8.gx n8.ba n8.sm y8
    · refine sxs_cons (sx_ifF (t_lt (dv 3) di (decide_eq_false h4)) n6.z.s fun B7 H7 g7 => sxs_nil ?_)
      have n7 := n6.up g7
      refine sxs_cons (sx_ret (ev_of (pe_tup (pa_cons pe_str (pa_cons pe_ev (pa_cons pe_ev pa_nil)))) ?_))
      refine ev_next (b := b) (c_l_next T) hr (by omega) 0 (n7.z.raw rfl) (ev_pd (d_min2 (k_ := (k : Int)) rfl T.min di (d_add (d_len T.len (dv 2) rfl) di) (hk_ := by rw [hlen]; exact hk)) n7.z.s fun u B8 H8 g8 y8 => ?_)
      cases y8
      have n8 := n7.up g8
      refine ⟨_, rfl, by omega, by omega, n8.sm, fun z H9 z0 zk sm9 b9 => ?_⟩
      have n9 := n8.draw sm9 b9
      refine ev_pd (dv 4) n9.z.s fun u10 B10 H10 g10 y10 => ?_
      have n10 := n9.up g10
      refine ⟨by show 3 ≤ sizeLine; decide, fun p hp => ?_⟩
      have g11 := Gr.new n10.z.bh hp (.tup [.str "put", .int z, u10])
      have n11 := n10.up g11
      have ez : (z.toNat : Int) = z := by omega
      refine q (.put z.toNat r) _ _ _ ⟨by omega, ro⟩ n11.gx n11.ba n11.sm ?_
      show Dt K _ _ (.tuple [.str "put", .int (z.toNat : Int), r.toD])
      rw [ez]
      exact .tup (SqT.of upd_same) (.cons (.str _) (.cons (.int _) (.cons (y10.up g11.bb) .nil)))
end
end Tb

set_option maxHeartbeats 1000000
/-! The law's history. -/
namespace Tb
open PySem PySem.Spec PyProof.Rows
open L2
def stD (sts : List (List Rule)) : List PyData := sts.map fun rs => .tuple (rsD rs)
def cmD (cs : List Cmd) : List PyData := cs.map Cmd.toD
/-- commands, and the rules before, between and behind them -/
structure Hist (n : Nat) (cs : List Cmd) (sts : List (List Rule)) : Prop where
  len : sts.length = cs.length + 1
  zero : sts[0]? = some []
  step : ∀ i c, cs[i]? = some c → ∃ r, sts[i]? = some r ∧ sts[i + 1]? = some (c.does r) ∧ c.ok n ∧ c.fits r = true
  prob : ∀ r ∈ sts, Prob n r
theorem Hist.nil {n : Nat} (h1 : 1 ≤ n) (h4 : n ≤ 4) : Hist n [] [[]] := ⟨rfl, rfl, fun i c e => by simp at e, fun r hr => by
  rw [List.mem_singleton] at hr
  subst hr
  exact ⟨h1, h4, Nat.zero_le _, by simp⟩⟩
theorem Hist.last {n : Nat} {cs : List Cmd} {sts : List (List Rule)} (h : Hist n cs sts) : ∃ r, sts[cs.length]? = some r ∧ Prob n r := by
  have hl : cs.length < sts.length := by rw [h.len]; exact Nat.lt_succ_self _
  exact ⟨sts[cs.length], List.getElem?_eq_getElem hl, h.prob _ (List.getElem_mem hl)⟩
theorem Hist.add {n : Nat} {cs : List Cmd} {sts : List (List Rule)} (h : Hist n cs sts) {r : List Rule} (hr : sts[cs.length]? = some r) {c : Cmd} (ok : c.ok n) (hf : c.fits r = true) : Hist n (cs ++ [c]) (sts ++ [c.does r]) := by
  have hl := h.len
  have hpr := h.prob r (List.mem_of_getElem? hr)
  refine ⟨by rw [List.length_append, List.length_append, hl]; rfl, by rw [List.getElem?_append_left (by omega)]; exact h.zero, fun i d e => ?_, fun x hx => ?_⟩
  · by_cases hi : i < cs.length
    · rw [List.getElem?_append_left hi] at e
      obtain ⟨r', e1, e2, e3⟩ := h.step i d e
      exact ⟨r', by rw [List.getElem?_append_left (by omega)]; exact e1, by rw [List.getElem?_append_left (by omega)]; exact e2, e3⟩
    · have hi2 : i = cs.length := by
        have := (List.getElem?_eq_some_iff.mp e).1
        rw [List.length_append, List.length_singleton] at this
        omega
      subst hi2
      rw [List.getElem?_append_right (Nat.le_refl _), Nat.sub_self] at e
      cases e
      refine ⟨r, by rw [List.getElem?_append_left (by omega)]; exact hr, ?_, ok, hf⟩
      rw [List.getElem?_append_right (by omega), hl, Nat.sub_self]
      rfl
  · rcases List.mem_append.mp hx with hx | hx
    · exact h.prob x hx
    · rw [List.mem_singleton] at hx
      rw [hx]
      exact does_prob hpr ok hf
section
variable {K : PySem.W.Frag} {γ : List Slot} {σ : St} {B H B' H' : Hp} {j : Addr} {ds : List PyData}
/-- a list grows no more -/
theorem Z.frz (z : Z K γ σ B H) {i : Nat} (hσ : σ[i]? = some (some (.ref j))) (o : Own K B H j ds) : ∃ B', Same B B' ∧ (∀ x, x ≠ j → B' x = B x) ∧ Z K (γ.set i (.dat (.list ds))) σ B' H := by
  obtain ⟨h1, vs, h2, h3⟩ := o
  have e := same_new (H := B) h1 (.lst vs)
  have bh : Same (upd B j (.lst vs)) H := fun x u q => by
    by_cases hx : x = j
    · subst hx; rw [upd_same] at q; rw [h2]; exact q
    · rw [upd_ne hx] at q; exact z.bh x u q
  refine ⟨_, e, fun x hx => upd_ne hx, bh, all_set rfl i z.pl, slots_put (s := .dat (.list ds)) ⟨.ref j, rfl, .lst upd_same (h3.up e)⟩ hσ (plain_slots e z.pl z.sl)⟩
theorem Own.sub (o : Own K B H j ds) (e : Same B B') (n : B' j = none) : Own K B' H j ds := by
  obtain ⟨h1, vs, h2, h3⟩ := o
  exact ⟨n, vs, h2, h3.up e⟩
theorem Own.at (o : Own K B H j ds) : ∃ vs, H j = some (.lst vs) := by
  obtain ⟨_, vs, h, _⟩ := o
  exact ⟨vs, h⟩
theorem Own.put (o : Own K B H j ds) {v : V} {d : PyData} (y : Dt K B v d) : ∃ vs, H j = some (.lst vs) ∧ vs.length = ds.length ∧ Own K B (upd H j (.lst (vs ++ [v]))) j (ds ++ [d]) := by
  obtain ⟨h1, vs, h2, h3⟩ := o
  exact ⟨vs, h2, h3.length, h1, _, upd_same, h3.append (.cons y .nil)⟩
end
/-- within _law_history -/
structure HSt (K : PySem.W.Frag) (n : Nat) (a b j t : Addr) (B0 H0 : Hp) (cs : List Cmd) (sts : List (List Rule)) (γ : List Slot) (σ : St) (B H : Hp) : Prop where
  w : WS K a b B0 H0 γ σ B H
  oj : Own K B H j (cmD cs)
  ot : Own K B H t (stD sts)
  ja : j ≠ a
  ta : t ≠ a
  jt : j ≠ t
  jb : j ≠ b
  tb : t ≠ b
  j0 : H0 j = none
  t0 : H0 t = none
  hi : Hist n cs sts
section
variable {K : PySem.W.Frag} {n : Nat} {a b j t : Addr} {B0 H0 : Hp} {cs : List Cmd} {sts : List (List Rule)} {γ : List Slot} {σ : St} {B H B' H' : Hp}
theorem HSt.up (h : HSt K n a b j t B0 H0 cs sts γ σ B H) (g : Gr B H B' H') : HSt K n a b j t B0 H0 cs sts γ σ B' H' := ⟨h.w.up g, h.oj.up g, h.ot.up g, h.ja, h.ta, h.jt, h.jb, h.tb, h.j0, h.t0, h.hi⟩
theorem Own.gx {ds : List PyData} {x : Addr} (o : Own K B H x ds) (g : Gx a B H B' H') (hx : x ≠ a) : Own K B' H' x ds := by
  obtain ⟨h1, vs, h2, h3⟩ := o
  exact ⟨g.fr x h1 (by rw [h2]; exact fun z => nomatch z), vs, g.but x _ hx h2, h3.up g.bb⟩
theorem WS.grown (w : WS K a b B0 H0 γ σ B H) (g : Gx a B H B' H') (ba : B' a = none) (sm : Strm H' a b) : WS K a b B0 H0 γ σ B' H' :=
  ⟨w.z.re g.bb g.bh, sm, ba, w.gx.bb.trans g.bb, fun x o hx e => g.but x o hx (w.gx.but x o hx e), g.bh, fun x e nx => g.fr x (w.gx.fr x e nx) (by
      by_cases hx : x = a
      · rw [hx]; exact w.sm.ne
      · obtain ⟨o, ho⟩ := Option.ne_none_iff_exists'.mp nx
        rw [w.gx.but x o hx ho]; exact fun z => nomatch z)⟩
theorem HSt.grown (h : HSt K n a b j t B0 H0 cs sts γ σ B H) (g : Gx a B H B' H') (ba : B' a = none) (sm : Strm H' a b) : HSt K n a b j t B0 H0 cs sts γ σ B' H' :=
  ⟨h.w.grown g ba sm, h.oj.gx g h.ja, h.ot.gx g h.ta, h.ja, h.ta, h.jt, h.jb, h.tb, h.j0, h.t0, h.hi⟩
theorem HSt.set (h : HSt K n a b j t B0 H0 cs sts γ σ B H) {i : Nat} {d : PyData} {u : V} (y : Dt K B u d) : HSt K n a b j t B0 H0 cs sts (γ.set i (.dat d)) (σ.set i (some u)) B H := ⟨h.w.set y, h.oj, h.ot, h.ja, h.ta, h.jt, h.jb, h.tb, h.j0, h.t0, h.hi⟩
/-- a list of our own is written -/
theorem WS.own (w : WS K a b B0 H0 γ σ B H) {x : Addr} (bx : B x = none) (xa : x ≠ a) (xb : x ≠ b) (x0 : H0 x = none) (o : HO) : WS K a b B0 H0 γ σ B (upd H x o) := by
  have bh : Same B (upd H x o) := fun y u e => by rw [upd_ne (ne_of_none e bx)]; exact w.z.bh y u e
  exact ⟨w.z.re (Same.refl B) bh, w.sm.side xa xb, w.ba, w.gx.bb, fun y u hy e => by rw [upd_ne (ne_of_none e x0)]; exact w.gx.but y u hy e, bh, w.gx.fr⟩
end
def spHistory (K : PySem.W.Frag) : Sp := fun vs H Q _ => ∃ (a b : Addr) (n : Nat) (B : Hp), vs = [.ref a, .int (n : Int), .int 8] ∧ 1 ≤ n ∧ n ≤ 4 ∧ Strm H a b ∧ Same B H ∧ B a = none ∧ ∀ (cs : List Cmd) (sts : List (List Rule)) v B' H', Hist n cs sts → cs.length ≤ 8 → Gx a B H B' H' → B' a = none → Strm H' a b → Dt K B' v (.tuple [.tuple (cmD cs), .list (stD sts)]) → Q v H'
section
variable {P : Program} {w : World} {K : PySem.W.Frag} {mg : Str → Option Value} {base : Heap}
abbrev n_l_history : List Str := ["_law_stream_here", "_law_size", "_law_most", "_law_journal", "_law_states", "_law_turn", "_law_command_here"]
theorem sc_l_history : FnScope n_l_history ["_law_stream_here", "_law_size", "_law_most"] (defScope (top 83)) := ⟨rfl, rfl, rfl, by decide +kernel, rfl, by decide +kernel, by decide +kernel⟩
theorem atI_last {α : Type} {l : List α} {m : Nat} {x : α} (hl : l.length = m + 1) (h : l[m]? = some x) : atI l (-1) = some x := by
  unfold atI ixN
  rw [if_neg (by decide), if_pos (by omega)]
  show l[((-1 : Int) + (l.length : Int)).toNat]? = some x
  have : ((-1 : Int) + (l.length : Int)).toNat = m := by omega
  rw [this, h]
theorem c_l_history (T : Txt K mg w) : C8.Cal P w K mg base 5 "_law_history" (spHistory K) [] := by
  refine cal_raw T.l_history sc_l_history (fun _ _ _ _ _ _ us hl => match us, hl with | [_, _, _], _ => rfl) (fun vs H Q E ⟨_, _, _, _, e, _⟩ => by rw [e]; rfl) ?_
  rintro f cdv A outer s H0 Ex hr vs Q ⟨a, b, n, B0, rfl, hn1, hn4, hsm, bh, hba, q⟩
  have n0 : WS K a b B0 H0 [.raw (.ref a), .dat (.int (n : Int)), .dat (.int 8), .no, .no, .no, .no] (L2.start n_l_history [.ref a, .int (n : Int), .int 8]) B0 H0 :=
    ⟨⟨bh, rfl, .cons rfl (.cons ⟨_, rfl, .int _⟩ (.cons ⟨_, rfl, .int _⟩ (.cons (show SlotR _ _ _ _ .no none from trivial) (.cons (show SlotR _ _ _ _ .no none from trivial) (.cons (show SlotR _ _ _ _ .no none from trivial) (.cons (show SlotR _ _ _ _ .no none from trivial) .nil))))))⟩, hsm, hba, Gx.refl bh⟩
  refine sxs_cons (sx_set 3 sc_l_history.nd (ev_of (pe_lst pa_nil) ⟨Nat.zero_le _, fun j hj => ?_⟩))
  have n1 := n0.side hj (.lst [])
  have ja : j ≠ a := fun e => n0.sm.ne (by rw [← e]; exact hj)
  have jb : j ≠ b := fun e => n0.sm.ne2 (by rw [← e]; exact hj)
  have bj : B0 j = none := n0.z.bh.free hj
  have n1' : WS K a b B0 H0 [.raw (.ref a), .dat (.int (n : Int)), .dat (.int 8), .raw (.ref j), .no, .no, .no] ((L2.start n_l_history [V.ref a, V.int (n : Int), V.int 8]).set 3 (some (.ref j))) B0 (upd H0 j (.lst [])) := ⟨n1.z.setRaw (i := 3), n1.sm, n1.ba, n1.gx⟩
  refine sxs_cons (sx_set 4 sc_l_history.nd (ev_of (pe_lst (pa_cons pe_ev pa_nil)) (ev_pd (d_tup a_nil) n1'.z.s fun u B2 H2 g2 y2 => ⟨by show 1 ≤ sizeLine; decide, fun t ht => ?_⟩)))
  have n2 := n1'.up g2
  have oj2 : Own K B2 H2 j (cmD []) := Own.up ⟨bj, [], upd_same, .nil⟩ g2
  have n3 := n2.side ht (.lst [u])
  have ta : t ≠ a := fun e => n2.sm.ne (by rw [← e]; exact ht)
  have tb : t ≠ b := fun e => n2.sm.ne2 (by rw [← e]; exact ht)
  have jt : j ≠ t := fun e => oj2.ne (by rw [e]; exact ht)
  have bt : B2 t = none := n2.z.bh.free ht
  have t0 : H0 t = none := by
    cases h : H0 t with
    | none => rfl
    | some o => have := n2.gx.but t o ta h; rw [ht] at this; cases this
  have h3 : HSt K n a b j t B0 H0 [] [[]] [.raw (.ref a), .dat (.int (n : Int)), .dat (.int 8), .raw (.ref j), .raw (.ref t), .no, .no] (((L2.start n_l_history [V.ref a, V.int (n : Int), V.int 8]).set 3 (some (.ref j))).set 4 (some (.ref t))) B2 (upd H2 t (.lst [u])) :=
    ⟨⟨n3.z.setRaw (i := 4), n3.sm, n3.ba, n3.gx⟩, ⟨oj2.1, [], by rw [upd_ne jt]; exact g2.hh _ _ upd_same, .nil⟩, ⟨bt, [u], upd_same, .cons y2 .nil⟩, ja, ta, jt, jb, tb, hj, t0, Hist.nil hn1 hn4⟩
  -- the loop
  refine sxs_cons ⟨_, ps_for .never rfl (pi_range1 rfl T.range (pa_cons pe_ev pa_nil)) (pg_name (i := 5) sc_l_history.nd rfl (Or.inl rfl)) pss_sxs, ?_⟩
  refine ev_next (b := b) (c_l_next T) hr (by omega) 0 (h3.w.z.raw rfl) (ev_pd (d_add (dv 2) di) h3.w.z.s fun u4 B4 H4 g4 y4 => ?_)
  cases y4
  have h4 := h3.up g4
  refine ⟨_, rfl, by decide, by decide, h4.w.sm, fun m H5 m0 m9 sm5 b5 => ?_⟩
  have h5 : HSt K n a b j t B0 H0 [] [[]] _ _ B4 H5 := h4.grown ⟨Same.refl _, b5, b5.same h4.w.z.bh h4.w.ba, fun x e _ => e⟩ h4.w.ba sm5
  refine ⟨m, rfl, by omega, by omega, for_range (lo := 0) (n := m.toNat) (fun i σ' H' => ∃ cs sts s5 s6 B', cs.length ≤ i ∧ HSt K n a b j t B0 H0 cs sts [.raw (.ref a), .dat (.int (n : Int)), .dat (.int 8), .raw (.ref j), .raw (.ref t), s5, s6] σ' B' H') ⟨[], [[]], .no, .no, B4, Nat.le_refl _, h5⟩ ?_ ?_⟩
  · rintro i σ' H' hi ⟨cs, sts, s5, s6, B', hl, h⟩
    obtain ⟨r, hlr, hpr⟩ := h.hi.last
    have hrl : atI (stD sts) (-1) = some (.tuple (rsD r)) := atI_last (m := cs.length) (by unfold stD; rw [List.length_map, h.hi.len]) (by unfold stD; rw [List.getElem?_map, hlr]; rfl)
    have h6 := h.set (i := 5) (.int ((0 : Int) + (i : Int)))
    refine sxs_cons (sx_set 6 sc_l_history.nd (ev_of (C8.pe_c (c_l_command T) hr (by omega) rfl (pa_cons (pe_var (i := 0) rfl (Or.inl rfl)) (pa_cons pe_ev (pa_cons pe_ev pa_nil)))) ⟨_, h6.w.z.raw rfl, ev_pd (dv 1) h6.w.z.s fun u7 B7 H7 g7 y7 => ?_⟩))
    have h7 := h6.up g7
    refine ev_pd (d_ixO 4 (d_neg di) hrl) (h7.w.z.s.look (h7.w.z.raw (i := 4) rfl) h7.ot) fun u8 B8 H8 g8 y8 => ?_
    have h8 := h7.up g8
    cases y7
    refine ⟨a, b, n, r, u8, B8, rfl, hn1, hn4, h8.w.sm, h8.w.z.bh, h8.w.ba, y8, fun c v B9 H9 ok gx9 ba9 sm9 y9 => ?_⟩
    have h9 := (h8.grown gx9 ba9 sm9).set (i := 6) y9
    have tst : ∀ kb : Bool, decide (c.why r = "") = kb → PB (CxD P w K mg base n_l_history "_law_history" (top 83) f cdv A outer s H0 Ex) (B9, B9) [.raw (.ref a), .dat (.int (n : Int)), .dat (.int 8), .raw (.ref j), .own (stD sts), .dat (.int ((0 : Int) + (i : Int))), .dat c.toD] (testOf ((bodyOf (stm 83 2)).getD 1 (.Pass ⟨0, 0, 0, 0⟩))) kb := fun kb hkb =>
      t_eq (d_call (c_l_why_not T) hr (by omega) (a_cons (d_ixO 4 (d_neg di) hrl) (a_cons (dv 6) a_nil)) ⟨r, c, rfl, rfl⟩) Tb.ds (congrArg some hkb)
    by_cases hf : c.fits r = true
    · have hw : decide (c.why r = "") = true := decide_eq_true (by unfold Cmd.why; rw [if_pos hf])
      refine sxs_cons (sx_ifT (tst true hw) (h9.w.z.s.look (h9.w.z.raw (i := 4) rfl) h9.ot) fun B10 H10 g10 => ?_)
      have h10 := h9.up g10
      refine sxs_cons (sx_append 3 (h10.w.z.raw rfl) h10.oj.at (ev_pd (dv 6) h10.w.z.s fun u11 B11 H11 g11 y11 => ?_))
      have h11 := h10.up g11
      obtain ⟨vs, v1, v2, oj'⟩ := h11.oj.put y11
      refine ⟨vs, v1, by rw [v2]; unfold cmD; rw [List.length_map]; omega, ?_⟩
      have w12 := h11.w.own h11.oj.1 h11.ja h11.jb h11.j0 (.lst (vs ++ [u11]))
      have ot12 : Own K B11 (upd H11 j (.lst (vs ++ [u11]))) t (stD sts) := h11.ot.but but_upd h11.jt.symm
      refine sxs_cons (sx_append 4 (w12.z.raw rfl) ot12.at (ev_pd (d := .tuple (rsD (c.does r))) (d_call (c_l_behind T) hr (by omega) (a_cons (d_ixO 4 (d_neg di) hrl) (a_cons (dv 6) a_nil)) ⟨r, c, rfl, Nat.le_trans hpr.len (by decide), hf, rfl⟩) (w12.z.s.look (w12.z.raw (i := 4) rfl) ot12) fun u13 B13 H13 g13 y13 => ?_))
      have w13 := w12.up g13
      have oj13 := oj'.up g13
      obtain ⟨vt, t1, t2, ot'⟩ := (ot12.up g13).put y13
      refine ⟨vt, t1, by rw [t2]; unfold stD; rw [List.length_map, h.hi.len]; omega, ?_⟩
      have w14 := w13.own (ot12.up g13).1 h11.ta h11.tb h11.t0 (.lst (vt ++ [u13]))
      refine sxs_nil (sxs_nil ⟨cs ++ [c], sts ++ [c.does r], _, _, B13, by rw [List.length_append, List.length_singleton]; omega, w14, ?_, ?_, h11.ja, h11.ta, h11.jt, h11.jb, h11.tb, h11.j0, h11.t0, h.hi.add hlr ok hf⟩)
      · have := oj13.but (but_upd (o := .lst (vt ++ [u13]))) h11.jt
        unfold cmD at this ⊢
        rw [List.map_append]
        exact this
      · unfold stD at ot' ⊢
        rw [List.map_append]
        exact ot'
    · have hw : decide (c.why r = "") = false := decide_eq_false (by
        unfold Cmd.why
        rw [if_neg hf]
        cases c with
        | add r => exact (by decide +kernel : ¬ ("many" : Str) = "")
        | drop i => exact (by decide +kernel : ¬ ("missing" : Str) = "")
        | put i r => exact (by decide +kernel : ¬ ("missing" : Str) = ""))
      refine sxs_cons (sx_ifF (tst false hw) (h9.w.z.s.look (h9.w.z.raw (i := 4) rfl) h9.ot) fun B10 H10 g10 => sxs_nil (sxs_nil ?_))
      exact ⟨cs, sts, _, _, B10, by omega, h9.up g10⟩
  · rintro σ' H' ⟨cs, sts, s5, s6, B', hl, h⟩
    obtain ⟨B6, e6, f6, z6⟩ := h.w.z.frz (h.w.z.raw (i := 3) rfl) h.oj
    have ot6 := h.ot.sub e6 (by rw [f6 t h.jt.symm]; exact h.ot.1)
    obtain ⟨B7, e7, f7, z7⟩ := z6.frz (i := 4) (h.w.z.raw (i := 4) rfl) ot6
    have e67 := e6.trans e7
    have h7 : WS K a b B0 H0 _ _ B7 H' := ⟨z7, h.w.sm, by rw [f7 a h.ta.symm, f6 a h.ja.symm]; exact h.w.ba, h.w.gx.bb.trans e67, h.w.gx.but, z7.bh, fun x e nx => by
      rw [f7 x (fun q => nx (by rw [q]; exact h.t0)), f6 x (fun q => nx (by rw [q]; exact h.j0))]
      exact h.w.gx.fr x e nx⟩
    refine sxs_cons (sx_ret (ev_pd (d_tup (a_cons (d_tuple T.tuple (dv 3)) (a_cons (dv 4) a_nil))) h7.z.s fun u8 B8 H8 g8 y8 => ?_))
    have h8 := h7.up g8
    exact q cs sts u8 B8 H8 h.hi (by omega) h8.gx h8.ba h8.sm y8
end
end Tb

set_option maxHeartbeats 1000000
/-! The class Book. -/
namespace Tb
open PySem PySem.Spec PyProof.Rows
open L2
/-- a method, as it stands -/
structure Mtd (K : PySem.W.Frag) (C : Addr) (m qual : Str) (st : Stmt) : Prop where
  ex : ∃ f fd, Meth K C m f ∧ FunD K m qual (defArgs st) (defBody st) (defScope st) [] [] f fd
structure BkT (K : PySem.W.Frag) (mg : Str → Option Value) (C : Addr) : Prop where
  cls : Cls K C
  size : NoAttr K C "size"
  states : NoAttr K C "states"
  commands : NoAttr K C "commands"
  mgC : mg "Book" = some (.ref C)
  init : ∃ f fd, Mk K C f ∧ FunD K "__init__" "Book.__init__" (defArgs (mth 0)) (defBody (mth 0)) (defScope (mth 0)) [] [] f fd
  act : Mtd K C "act" "Book.act" (mth 1)
  problem : Mtd K C "problem" "Book.problem" (mth 3)
  answer : Mtd K C "answer" "Book.answer" (mth 5)
  accepts : Mtd K C "accepts" "Book.accepts" (mth 6)
section
variable {P : Program} {w : World} {K : PySem.W.Frag} {mg : Str → Option Value} {base : Heap} {C : Addr}
theorem met_raw {m qual : Str} {st : Stmt} {N ps : List Str} {k : Nat} {sp : Sp} (c : Cls K C) (F : Mtd K C m qual st) (Sc : FnScope N ps (defScope st))
    (hb : ∀ (kV doc pm : Value) (an : Option Addr) (cdv ct : Value) (us : List Value), us.length = ps.length → bindArgs (PySem.W.fnOf m qual (defArgs st) (defBody st) (defScope st) .none kV doc pm an cdv ct) ⟨us, []⟩ = pure (ps.zip us))
    (len : ∀ vs H Q E, sp vs H Q E → vs.length = ps.length)
    (body : ∀ (f : Addr) (cdv : Value) (A : Around) (outer : List Env) (s : Shared) (H0 : Hp) (Ex : XK), Room k (A.deeper (envOfC qual (defScope st) s.heap.objs.size f cdv)) → ∀ vs Q, sp vs H0 Q Ex → Sxs (CxD P w K mg base N qual st f cdv A outer s H0 Ex) (defBody st) { nx := fun _ H' => Q .non H', rt := Q } (L2.start N vs) H0) :
    C8.Met P w K mg base (k + 1) C m sp [] := by
  obtain ⟨f, fd, hm, FD⟩ := F.ex
  refine ⟨f, fd, ps, [], c, hm, FD.ok Sc len (fun cdv A outer s H vs Q E hr h => ?_), FD.bindsN hb, .nil⟩
  exact ⟨_, pss_sxs.nox, body f cdv A outer s H E hr vs Q h⟩
end
/-! ### the book's state -/
structure BS (K : PySem.W.Frag) (n : Nat) (C x l : Addr) (cs : List Cmd) (sts : List (List Rule)) (B H : Hp) : Prop where
  hx : ∃ dx vc, H x = some (.ins C dx [("size", .int (n : Int)), ("states", .ref l), ("commands", vc)]) ∧ Dt K B vc (.tuple (cmD cs))
  ol : Own K B H l (stD sts)
  bx : B x = none
  xl : x ≠ l
section
variable {K : PySem.W.Frag} {n : Nat} {C x l : Addr} {cs : List Cmd} {sts : List (List Rule)} {B H B' H' : Hp}
theorem BS.up (b : BS K n C x l cs sts B H) (g : Gr B H B' H') : BS K n C x l cs sts B' H' := by
  obtain ⟨dx, vc, h1, h2⟩ := b.hx
  exact ⟨⟨dx, vc, g.hh _ _ h1, h2.up g.bb⟩, b.ol.up g, g.fr x b.bx (by rw [h1]; exact fun z => nomatch z), b.xl⟩
end
/-- growth, but for the book -/
structure Gb (x l : Addr) (B H B' H' : Hp) : Prop where
  bb : Same B B'
  but : ∀ y o, y ≠ x → y ≠ l → H y = some o → H' y = some o
  bh : Same B' H'
  fr : ∀ y, B y = none → H y ≠ none → B' y = none
section
variable {X : Cx} {pos : Pos} {e : Expr} {σ : St} {H : Hp} {Q : VK} {D : Ends}
theorem ev_fld {f y : Str} {p : Pos} {a C dx : Addr} {fs : List (Str × V)} {v : V} (n : Nat) (hσ : σ[n]? = some (some (.ref a))) (ha : H a = some (.ins C dx fs)) (c : Cls X.K C) (na : NoAttr X.K C f) (hv : fs.lookup f = some v) (q : Q v H) (hN : X.N[n]? = some y := by rfl)
    (hvis : Vis X.env.scope y := by first | exact Or.inl rfl | exact Or.inr (Or.inl rfl) | exact Or.inr (Or.inr rfl)) (hd : (y == ("__debug__" : Str)) = false := by decide) (hcd : (y == ("__classdict__" : Str)) = false := by decide)
    (hb : attributeBase (.Name y p) f X.env (eval (.Name y p) X.env) = eval (.Name y p) X.env := by rfl) : Ev X (.Attribute (.Name y p) f pos) σ H Q :=
  ev_of (pe_fld (pe_var hN hvis hd hcd) hb) ⟨_, hσ, a, C, dx, fs, v, rfl, ha, c, na, hv, q⟩
theorem sx_fld {f y : Str} {p pos' : Pos} {a : Addr} (n : Nat) (hσ : σ[n]? = some (some (.ref a))) (q : Ev X e σ H fun v H1 => ∃ C dx fs, H1 a = some (.ins C dx fs) ∧ Cls X.K C ∧ NoAttr X.K C f ∧ fs.length < 1000 ∧ D.nx σ (upd H1 a (.ins C dx (putF f v fs)))) (hN : X.N[n]? = some y := by rfl)
    (hvis : Vis X.env.scope y := by first | exact Or.inl rfl | exact Or.inr (Or.inl rfl) | exact Or.inr (Or.inr rfl)) (hd : (y == ("__debug__" : Str)) = false := by decide) (hcd : (y == ("__classdict__" : Str)) = false := by decide)
    (hs : swapsWith e (some (.Attribute (.Name y p) f pos')) pos.line X.env = pure false := by rfl) : Sx X (.Assign [.Attribute (.Name y p) f pos'] e pos) D σ H :=
  ⟨_, ps_fld (pe_var hN hvis hd hcd) pe_ev hs, q.mono fun v H1 ⟨C, dx, fs, h1, h2, h3, h4, h5⟩ => ⟨_, hσ, a, C, dx, fs, rfl, h1, h2, h3, h4, h5⟩⟩
end
def spInit (K : PySem.W.Frag) (C : Addr) : Sp := fun vs H Q _ => ∃ (x dx : Addr) (n : Nat) (B : Hp), vs = [.ref x, .int (n : Int)] ∧ 1 ≤ n ∧ n ≤ 4 ∧ H x = some (.ins C dx []) ∧ Same B H ∧ B x = none ∧ ∀ l B' H', BS K n C x l [] [[]] B' H' → Gb x x B H B' H' → H l = none → Q .non H'
def spAct (K : PySem.W.Frag) (C : Addr) : Sp := fun vs H Q _ => ∃ (x l : Addr) (n : Nat) (cs : List Cmd) (sts : List (List Rule)) (r : List Rule) (c : Cmd) (v : V) (B : Hp), vs = [.ref x, v] ∧ BS K n C x l cs sts B H ∧ Same B H ∧ Dt K B v c.toD ∧ c.ok n ∧ sts.length = cs.length + 1 ∧ sts[cs.length]? = some r ∧ r.length ≤ 100 ∧ c.fits r = true ∧ cs.length < 20 ∧
  ∀ u B' H', BS K n C x l (cs ++ [c]) (sts ++ [c.does r]) B' H' → Gb x l B H B' H' → Q u H'
def spProblem (K : PySem.W.Frag) (C : Addr) : Sp := fun vs H Q _ => ∃ (x l : Addr) (n : Nat) (cs : List Cmd) (sts : List (List Rule)) (r : List Rule) (B : Hp), vs = [.ref x] ∧ BS K n C x l cs sts B H ∧ Same B H ∧ sts.length = cs.length + 1 ∧ sts[cs.length]? = some r ∧ ∀ u B' H', Gr B H B' H' → Dt K B' u (probD n r) → Q u H'
def spAnswer (K : PySem.W.Frag) (C : Addr) : Sp := fun vs H Q _ => ∃ (x l : Addr) (n : Nat) (cs : List Cmd) (sts : List (List Rule)) (r : List Rule) (B : Hp), vs = [.ref x] ∧ BS K n C x l cs sts B H ∧ Same B H ∧ sts.length = cs.length + 1 ∧ sts[cs.length]? = some r ∧ Prob n r ∧ ∀ u B' H', Gr B H B' H' → Dt K B' u (ans n r).toD → Q u H'
def spAccepts (K : PySem.W.Frag) (C : Addr) : Sp := fun vs H Q _ => ∃ (x l : Addr) (n : Nat) (cs : List Cmd) (sts : List (List Rule)) (r : List Rule) (a : Ans) (v : V) (B : Hp), vs = [.ref x, v] ∧ BS K n C x l cs sts B H ∧ Same B H ∧ Dt K B v a.toD ∧ sts.length = cs.length + 1 ∧ sts[cs.length]? = some r ∧ Prob n r ∧ Good n r a ∧ ∀ B' H', Gr B H B' H' → Q (.bl true) H'
section
variable {P : Program} {w : World} {K : PySem.W.Frag} {mg : Str → Option Value} {base : Heap} {C : Addr}
theorem sc_init : FnScope ["self", "size"] ["self", "size"] (defScope (mth 0)) := ⟨rfl, rfl, rfl, by decide +kernel, rfl, by decide +kernel, by decide +kernel⟩
theorem c_init (T : Txt K mg w) (K' : BkT K mg C) : C8.Mak P w K mg base 3 "Book" C (spInit K C) [] := by
  obtain ⟨f, fd, hm, FD⟩ := K'.init
  refine ⟨f, fd, ["self", "size"], [], hm, FD.ok sc_init (fun vs H Q E ⟨_, _, _, _, e, _⟩ => by rw [e]; rfl) (fun cdv A outer s H vs Q E hr h => ?_), K'.mgC, FD.bindsN (fun _ _ _ _ _ _ us hl => match us, hl with | [_, _], _ => rfl), .nil⟩
  refine ⟨_, pss_sxs.nox, ?_⟩
  obtain ⟨x, dx, n, B, rfl, hn1, hn4, hx, bh, bx, q⟩ := h
  have z0 : Z K [.raw (.ref x), .dat (.int (n : Int))] (L2.start ["self", "size"] [.ref x, .int (n : Int)]) B H := ⟨bh, rfl, .cons rfl (.cons ⟨_, rfl, .int _⟩ .nil)⟩
  refine sxs_cons (sx_ifF (t_not (t_val (d_call (c_is_size T) hr (by omega) (a_cons (dv 1) a_nil) ⟨n, rfl, hn1, by omega, rfl⟩))) z0.s fun B1 H1 g1 => sxs_nil ?_)
  have z1 := z0.up g1
  have bx1 : B1 x = none := g1.fr x bx (by rw [hx]; exact fun z => nomatch z)
  refine sxs_cons (sx_fld 0 (z1.raw rfl) (ev_pd (dv 1) z1.s fun u B2 H2 g2 y2 => ?_))
  cases y2
  have bx2 : B2 x = none := g2.fr x bx1 (by rw [g1.hh _ _ hx]; exact fun z => nomatch z)
  refine ⟨C, dx, [], g2.hh _ _ (g1.hh _ _ hx), K'.cls, K'.size, by decide, ?_⟩
  have z2 := (z1.up g2).re (H' := upd H2 x (.ins C dx (putF "size" (.int (n : Int)) []))) (Same.refl B2) (fun y o e => by rw [upd_ne (ne_of_none e bx2)]; exact (z1.up g2).bh y o e)
  refine sxs_cons (sx_fld 0 (z2.raw rfl) (ev_of (pe_lst (pa_cons pe_ev pa_nil)) (ev_pd (d_tup a_nil) z2.s fun u B3 H3 g3 y3 => ⟨by show 1 ≤ sizeLine; decide, fun l hl => ?_⟩)))
  have hx3 : H3 x = some (.ins C dx [("size", .int (n : Int))]) := g3.hh _ _ upd_same
  have hlx : l ≠ x := fun e => by rw [e, hx3] at hl; cases hl
  have bx3 : B3 x = none := g3.fr x bx2 (by rw [upd_same]; exact fun z => nomatch z)
  have bl3 : B3 l = none := g3.bh.free hl
  refine ⟨C, dx, _, by rw [upd_ne hlx.symm]; exact hx3, K'.cls, K'.states, by show 1 < 1000; decide, ?_⟩
  have z3 := (z2.up g3).re (H' := upd (upd H3 l (.lst [u])) x (.ins C dx (putF "states" (.ref l) [("size", .int (n : Int))]))) (Same.refl B3) (fun y o e => by rw [upd_ne (ne_of_none e bx3), upd_ne (ne_of_none e bl3)]; exact g3.bh y o e)
  refine sxs_cons (sx_fld 0 (z3.raw rfl) (ev_pd (d_tup a_nil) z3.s fun u4 B4 H4 g4 y4 => ?_))
  have hx4 : H4 x = some (.ins C dx [("size", .int (n : Int)), ("states", .ref l)]) := g4.hh _ _ upd_same
  refine ⟨C, dx, _, hx4, K'.cls, K'.commands, by show 2 < 1000; decide, ?_⟩
  have bx4 : B4 x = none := g4.fr x bx3 (by rw [upd_same]; exact fun z => nomatch z)
  have hl4 : H4 l = some (.lst [u]) := g4.hh _ _ (by rw [upd_ne hlx, upd_same])
  have bl4 : B4 l = none := g4.fr l bl3 (by rw [upd_ne hlx, upd_same]; exact fun z => nomatch z)
  have hl0 : H l = none := by
    cases h : H l with
    | none => rfl
    | some o =>
      have h2 : (upd H2 x (.ins C dx (putF "size" (.int (n : Int)) []))) l = some o := by rw [upd_ne hlx]; exact g2.hh _ _ (g1.hh _ _ h)
      have := g3.hh _ _ h2
      rw [hl] at this
      cases this
  refine sxs_nil (q l B4 _ ⟨⟨dx, u4, upd_same, y4⟩, ⟨bl4, [u], by rw [upd_ne hlx]; exact hl4, .cons ((y3.up (Same.refl _)).up g4.bb) .nil⟩, bx4, hlx.symm⟩ ⟨(g1.bb.trans g2.bb).trans (g3.bb.trans g4.bb), fun y o hy _ e => ?_, fun y o e => ?_, fun y e ny => ?_⟩ hl0)
  · have h2 : (upd H2 x (.ins C dx (putF "size" (.int (n : Int)) []))) y = some o := by rw [upd_ne hy]; exact g2.hh _ _ (g1.hh _ _ e)
    have h3 := g3.hh _ _ h2
    rw [upd_ne hy]
    refine g4.hh _ _ ?_
    rw [upd_ne hy, upd_ne (ne_of_none h3 hl)]
    exact h3
  · rw [upd_ne (ne_of_none e bx4)]; exact g4.bh y o e
  · obtain ⟨o, ho⟩ := Option.ne_none_iff_exists'.mp ny
    have e1 := g1.fr y e ny
    have h1 := g1.hh _ _ ho
    have e2 := g2.fr y e1 (by rw [h1]; exact fun z => nomatch z)
    by_cases hy : y = x
    · rw [hy]; exact bx4
    · have h2 : (upd H2 x (.ins C dx (putF "size" (.int (n : Int)) []))) y = some o := by rw [upd_ne hy]; exact g2.hh _ _ h1
      have e3 := g3.fr y e2 (by rw [h2]; exact fun z => nomatch z)
      have h3 := g3.hh _ _ h2
      refine g4.fr y e3 ?_
      rw [upd_ne hy, upd_ne (ne_of_none h3 hl), h3]
      exact fun z => nomatch z
/-! problem, answer, accepts, act -/
theorem sc_problem : FnScope ["self"] ["self"] (defScope (mth 3)) := ⟨rfl, rfl, rfl, by decide +kernel, rfl, by decide +kernel, by decide +kernel⟩
theorem st_last {cs : List Cmd} {sts : List (List Rule)} {r : List Rule} (hl : sts.length = cs.length + 1) (h : sts[cs.length]? = some r) : atI (stD sts) (-1) = some (.tuple (rsD r)) :=
  atI_last (m := cs.length) (by unfold stD; rw [List.length_map, hl]) (by unfold stD; rw [List.getElem?_map, h]; rfl)
theorem Own.item {B H : Hp} {j : Addr} {ds : List PyData} {k : Int} {d : PyData} (o : Own K B H j ds) (h : atI ds k = some d) : ∃ vs v, H j = some (.lst vs) ∧ atI vs k = some v ∧ Dt K B v d := by
  obtain ⟨_, vs, h1, h2⟩ := o
  obtain ⟨v, h3, h4⟩ := h2.at h
  exact ⟨vs, v, h1, h3, h4⟩
theorem c_problem (K' : BkT K mg C) : C8.Met P w K mg base 1 C "problem" (spProblem K C) [] := by
  refine met_raw K'.cls K'.problem sc_problem (fun _ _ _ _ _ _ us hl => match us, hl with | [_], _ => rfl) (fun vs H Q E ⟨_, _, _, _, _, _, _, e, _⟩ => by rw [e]; rfl) ?_
  rintro f cdv A outer s H0 Ex hr vs Q ⟨x, l, n, cs, sts, r, B, rfl, b, bh, hl, hr2, q⟩
  obtain ⟨dx, vc, hx, hvc⟩ := b.hx
  obtain ⟨ls, v, h1, h2, h3⟩ := b.ol.item (st_last hl hr2)
  refine sxs_cons (sx_ret (ev_of (pe_tup (pa_cons pe_ev (pa_cons (pe_ix ix_list pe_ev (pe_un un_neg pe_int) (by exact fun _ _ => rfl)) pa_nil))) ?_))
  refine ev_fld 0 rfl hx K'.cls K'.size rfl (ev_fld 0 rfl hx K'.cls K'.states rfl ?_)
  refine ⟨1, rfl, l, ls, -1, v, rfl, rfl, SqL.of h1, h2, ?_⟩
  refine ⟨by show 2 ≤ sizeLine; decide, fun p hp => ?_⟩
  have g := Gr.new bh hp (.tup [.int (n : Int), v])
  exact q _ _ _ g (.tup (SqT.of upd_same) (.cons (.int _) (.cons (h3.up g.bb) .nil)))
theorem sc_answer : FnScope ["self"] ["self"] (defScope (mth 5)) := ⟨rfl, rfl, rfl, by decide +kernel, rfl, by decide +kernel, by decide +kernel⟩
/-- o.m() of an instance, o a name -/
theorem ev_mt0 {X : Cx} {pos apos p : Pos} {m y : Str} {k j : Nat} {C x dx : Addr} {fs : List (Str × V)} {sp : Sp} {σ : St} {H : Hp} {Q : VK} (c : C8.Met X.prog X.w X.K X.mg X.base k C m sp []) (hr : Room j X.A) (hk : k ≤ j) (n : Nat) (hσ : σ[n]? = some (some (.ref x))) (hx : H x = some (.ins C dx fs)) (hm : fs.lookup m = none) (q : sp [.ref x] H Q C8.E0) (hN : X.N[n]? = some y := by rfl)
    (hv : Vis X.env.scope y := by first | exact Or.inl rfl | exact Or.inr (Or.inl rfl) | exact Or.inr (Or.inr rfl)) (hd : (y == ("__debug__" : Str)) = false := by decide) (hcd : (y == ("__classdict__" : Str)) = false := by decide) {pl : Sem Bool}
    (ht : eval (.Call (.Attribute (.Name y p) m apos) [] [] pos) X.env = (do
      let ov ← eval (.Name y p) X.env
      standAt apos.atName
      let (f, first) ← holding [ov] (getMethod ov m pl)
      callWith pos f first (backTo pos (starEach [] X.env)) (backToKw pos (keywordEach [] X.env))) := by rfl) : Ev X (.Call (.Attribute (.Name y p) m apos) [] [] pos) σ H Q :=
  ev_of (C8.pe_mt0 (pl := pl) c hr hk (pe_var hN hv hd hcd) ht) ⟨_, hσ, x, dx, fs, rfl, hx, hm, q⟩
theorem c_answer (T : Txt K mg w) (K' : BkT K mg C) : C8.Met P w K mg base 24 C "answer" (spAnswer K C) [] := by
  refine met_raw K'.cls K'.answer sc_answer (fun _ _ _ _ _ _ us hl => match us, hl with | [_], _ => rfl) (fun vs H Q E ⟨_, _, _, _, _, _, _, e, _⟩ => by rw [e]; rfl) ?_
  rintro f cdv A outer s H0 Ex hr vs Q ⟨x, l, n, cs, sts, r, B, rfl, b, bh, hl, hr2, hp, q⟩
  obtain ⟨dx, vc, hx, hvc⟩ := b.hx
  refine sxs_cons (sx_ret (ev_of (C8.pe_c (c_solve T) hr (by omega) rfl (pa_cons pe_ev pa_nil)) ?_))
  refine ev_mt0 (c_problem K') hr (by omega) 0 rfl hx rfl ⟨x, l, n, cs, sts, r, B, rfl, b, bh, hl, hr2, fun u B1 H1 g1 y1 => ?_⟩
  exact ⟨B1, [probD n r], (ans n r).toD, g1.bh, .cons y1 .nil, ⟨n, r, rfl, hp, rfl⟩, fun v B2 H2 g2 y2 => q v B2 H2 (g1.trans g2) y2⟩
theorem sc_acc : FnScope ["self", "value"] ["self", "value"] (defScope (mth 6)) := ⟨rfl, rfl, rfl, by decide +kernel, rfl, by decide +kernel, by decide +kernel⟩
theorem c_bookAccepts (T : Txt K mg w) (K' : BkT K mg C) : C8.Met P w K mg base 16 C "accepts" (spAccepts K C) [] := by
  refine met_raw K'.cls K'.accepts sc_acc (fun _ _ _ _ _ _ us hl => match us, hl with | [_, _], _ => rfl) (fun vs H Q E ⟨_, _, _, _, _, _, _, _, _, e, _⟩ => by rw [e]; rfl) ?_
  rintro f cdv A outer s H0 Ex hr vs Q ⟨x, l, n, cs, sts, r, a, v, B, rfl, b, bh, hv, hl, hr2, hp, hg, q⟩
  obtain ⟨dx, vc, hx, hvc⟩ := b.hx
  refine sxs_cons (sx_ret (ev_of (C8.pe_c (c_accepts T) hr (by omega) rfl (pa_cons pe_ev (pa_cons (pe_var (i := 1) rfl (Or.inl rfl)) pa_nil))) ?_))
  refine ev_mt0 (c_problem K') hr (by omega) 0 rfl hx rfl ⟨x, l, n, cs, sts, r, B, rfl, b, bh, hl, hr2, fun u B1 H1 g1 y1 => ?_⟩
  refine ⟨v, rfl, B1, [probD n r, a.toD], .bool true, g1.bh, .cons y1 (.cons (hv.up g1.bb) .nil), ⟨n, r, a, rfl, hp, hg, rfl⟩, fun u2 B2 H2 g2 y2 => ?_⟩
  cases y2
  exact q B2 H2 (g1.trans g2)
abbrev n_act : List Str := ["self", "command", "rules"]
theorem sc_act : FnScope n_act ["self", "command"] (defScope (mth 1)) := ⟨rfl, rfl, rfl, by decide +kernel, rfl, by decide +kernel, by decide +kernel⟩
theorem c_act (T : Txt K mg w) (K' : BkT K mg C) : C8.Met P w K mg base 5 C "act" (spAct K C) [] := by
  refine met_raw K'.cls K'.act sc_act (fun _ _ _ _ _ _ us hl => match us, hl with | [_, _], _ => rfl) (fun vs H Q E ⟨_, _, _, _, _, _, _, _, _, e, _⟩ => by rw [e]; rfl) ?_
  rintro f cdv A outer s H0 Ex hr vs Q ⟨x, l, n, cs, sts, r, c, v, B, rfl, b, bh, hv, ok, hl, hr2, hrl, hf, h20, q⟩
  have z0 : Z K [.raw (.ref x), .dat c.toD, .no] (L2.start n_act [.ref x, v]) B H0 := ⟨bh, rfl, .cons rfl (.cons ⟨_, rfl, hv⟩ (.cons (show SlotR _ _ _ _ .no none from trivial) .nil))⟩
  obtain ⟨dx, vc, hx, hvc⟩ := b.hx
  -- if not is_command(..)
  refine sxs_cons ⟨_, ps_if (pt_not (pt_val (C8.pe_c (c_is_command T) hr (by omega) rfl (pa_cons pe_ev (pa_cons pe_ev pa_nil))))) pss_never pss_sxs, ?_⟩
  refine ev_pd (dv 1) z0.s fun u1 B1 H1 g1 y1 => ev_fld 0 rfl (g1.hh _ _ hx) K'.cls K'.size rfl ?_
  refine ⟨B1, [c.toD, .int (n : Int)], .bool true, g1.bh, .cons y1 (.cons (.int _) .nil), ⟨c, n, rfl, ok, rfl⟩, fun u2 B2 H2 g2 y2 => ?_⟩
  cases y2
  refine ⟨true, rfl, iteF (sxs_nil ?_)⟩
  have g02 := g1.trans g2
  have z2 := z0.up g02
  have b2 := b.up g02
  have hx2 := g02.hh _ _ hx
  -- rules = behind(..)
  refine sxs_cons (sx_set 2 sc_act.nd (ev_of (C8.pe_c (c_behind T) hr (by omega) rfl (pa_cons (pe_ix ix_list pe_ev (pe_un un_neg pe_int) (by exact fun _ _ => rfl)) (pa_cons pe_ev pa_nil))) ?_))
  obtain ⟨ls, w2, k1, k2, k3⟩ := b2.ol.item (st_last hl hr2)
  refine ev_fld 0 rfl hx2 K'.cls K'.states rfl ⟨1, rfl, l, ls, -1, w2, rfl, rfl, SqL.of k1, k2, ?_⟩
  refine ev_pd (dv 1) z2.s fun u3 B3 H3 g3 y3 => ?_
  refine ⟨B3, [.tuple (rsD r), c.toD], .tuple (rsD (c.does r)), g3.bh, .cons (k3.up g3.bb) (.cons y3 .nil), ⟨r, c, rfl, hrl, hf, rfl⟩, fun u4 B4 H4 g4 y4 => ?_⟩
  have g24 := g3.trans g4
  have g04 := g02.trans g24
  have z4 := (z2.up g24).set (i := 2) y4
  have b4 := b.up g04
  obtain ⟨dx4, vc4, hx4, hvc4⟩ := b4.hx
  -- if len(self.commands) >= ..
  refine sxs_cons ⟨_, ps_if (pt_cmpR op_ge (pe_callB call_len_seq rfl T.len PySem.boot_len (pa_cons pe_ev pa_nil)) pe_ev (nomark _)) pss_never pss_sxs, ?_⟩
  refine ev_fld 0 (z4.raw rfl) hx4 K'.cls K'.commands rfl ?_
  cases hvc4 with
  | @tup ac xsc _ hc1 hc2 =>
    refine ⟨ac, xsc, rfl, .inr (same_sqt z4.bh hc1), ?_⟩
    refine ev_pd (dg T.MOST_COMMANDS) z4.s fun u5 B5 H5 g5 y5 => ?_
    cases y5
    have hlc : xsc.length = cs.length := by rw [hc2.length]; unfold cmD; rw [List.length_map]
    refine ⟨_, _, rfl, rfl, ⟨_, rfl, ?_⟩⟩
    rw [decide_eq_false (by omega)]
    refine iteF (sxs_nil ?_)
    have z5 := z4.up g5
    have b5 := b4.up g5
    have hx5 := g5.hh _ _ hx4
    -- self.states.append(rules)
    obtain ⟨vs5, hl5⟩ := b5.ol.at
    refine sxs_cons ⟨_, ps_expr (pe_bm PySem.F.plainAttrs_list PySem.F.slot_list_append PySem.F.type_list_append mt_append (pe_ev (e := .Attribute (.Name "self" _) "states" _)) (pa_cons pe_ev pa_nil)) rfl, ?_⟩
    refine ev_fld 0 (z5.raw rfl) hx5 K'.cls K'.states rfl ⟨.inl ⟨rfl, _, SqL.of hl5⟩, ev_pd (dv 2) z5.s fun u6 B6 H6 g6 y6 => ?_⟩
    have z6 := z5.up g6
    have b6 := b5.up g6
    obtain ⟨vs6, v1, v2, ol6⟩ := b6.ol.put y6
    refine ⟨l, vs6, u6, rfl, rfl, v1, by rw [v2]; unfold stD; rw [List.length_map, hl, sizeLine_is]; omega, ?_⟩
    have bl6 := b6.ol.1
    have z7 := z6.re (H' := upd H6 l (.lst (vs6 ++ [u6]))) (Same.refl B6) (fun y o e => by rw [upd_ne (ne_of_none e bl6)]; exact z6.bh y o e)
    have hx6 := g6.hh _ _ hx5
    have hx7 : (upd H6 l (.lst (vs6 ++ [u6]))) x = some (.ins C dx4 [("size", .int (n : Int)), ("states", .ref l), ("commands", .ref ac)]) := by rw [upd_ne b.xl]; exact hx6
    have vc7 : Dt K B6 (.ref ac) (.tuple (cmD cs)) := ((Dt.tup hc1 hc2).up g5.bb).up g6.bb
    -- self.commands = self.commands + (command,)
    refine sxs_cons (sx_fld 0 (z7.raw rfl) (ev_of (pe_op op_catA pe_ev pe_ev) ?_))
    refine ev_fld 0 (z7.raw rfl) hx7 K'.cls K'.commands rfl (ev_pd (d_tup (a_cons (dv 1) a_nil)) z7.s fun u8 B8 H8 g8 y8 => ?_)
    have vc8 := vc7.up g8.bb
    have fin : ∀ u B9 H9, Gr B8 H8 B9 H9 → Dt K B9 u (.tuple (cmD cs ++ [c.toD])) → ∃ C' dx' fs, H9 x = some (.ins C' dx' fs) ∧ Cls K C' ∧ NoAttr K C' "commands" ∧ fs.length < 1000 ∧ Sxs (CxD P w K mg base n_act "Book.act" (mth 1) f cdv A outer s H0 Ex) ((defBody (mth 1)).drop 5) { nx := fun _ H' => Q .non H', rt := Q } ((L2.start n_act [V.ref x, v]).set 2 (some u4)) (upd H9 x (.ins C' dx' (putF "commands" u fs))) := by
      intro u B9 H9 g9 y9
      have g79 := g8.trans g9
      have hx9 := g79.hh _ _ hx7
      have bx9 : B9 x = none := g79.fr x b6.bx (by rw [hx7]; exact fun z => nomatch z)
      refine ⟨C, dx4, _, hx9, K'.cls, K'.commands, by show 3 < 1000; decide, ?_⟩
      have z9 := z7.up g79
      have z10 := z9.re (H' := upd H9 x (.ins C dx4 [("size", .int (n : Int)), ("states", .ref l), ("commands", u)])) (Same.refl B9) (fun y o e => by rw [upd_ne (ne_of_none e bx9)]; exact z9.bh y o e)
      have ol9 : Own K B9 (upd H9 x (.ins C dx4 [("size", .int (n : Int)), ("states", .ref l), ("commands", u)])) l (stD sts ++ [.tuple (rsD (c.does r))]) := (ol6.up g79).but but_upd b.xl.symm
      have b10 : BS K n C x l (cs ++ [c]) (sts ++ [c.does r]) B9 (upd H9 x (.ins C dx4 [("size", .int (n : Int)), ("states", .ref l), ("commands", u)])) := by
        refine ⟨⟨dx4, u, upd_same, ?_⟩, ?_, bx9, b.xl⟩
        · unfold cmD at y9 ⊢
          rw [List.map_append]; exact y9
        · unfold stD at ol9 ⊢
          rw [List.map_append]; exact ol9
      have g06 : Gr B H0 B6 H6 := (g04.trans g5).trans g6
      have gb : Gb x l B H0 B9 (upd H9 x (.ins C dx4 [("size", .int (n : Int)), ("states", .ref l), ("commands", u)])) := by
        refine ⟨g06.bb.trans g79.bb, fun y o hy hyl e => ?_, fun y o e => by rw [upd_ne (ne_of_none e bx9)]; exact z9.bh y o e, fun y e ny => ?_⟩
        · rw [upd_ne hy]
          refine g79.hh _ _ ?_
          rw [upd_ne hyl]
          exact g06.hh _ _ e
        · obtain ⟨o, ho⟩ := Option.ne_none_iff_exists'.mp ny
          have e6 := g06.fr y e ny
          refine g79.fr y e6 ?_
          by_cases hyl : y = l
          · rw [hyl, upd_same]; exact fun z => nomatch z
          · rw [upd_ne hyl, g06.hh _ _ ho]; exact fun z => nomatch z
      refine sxs_cons (sx_ret (ev_of (pe_callB call_len_seq rfl T.len PySem.boot_len (pa_cons pe_ev pa_nil)) ?_))
      refine ev_fld 0 (z10.raw rfl) (upd_same : (upd H9 x (.ins C dx4 [("size", .int (n : Int)), ("states", .ref l), ("commands", u)])) x = _) K'.cls K'.commands rfl ?_
      cases y9 with
      | @tup a9 xs9 _ h91 h92 => exact ⟨a9, xs9, rfl, .inr (same_sqt z10.bh h91), q _ _ _ b10 gb⟩
    refine opd_catT (X := CxD P w K mg base n_act "Book.act" (mth 1) f cdv A outer s H0 Ex) (l := cmD cs) (l2 := [c.toD]) (by unfold cmD; rw [List.length_map, sizeLine_is]; show _ + 1 ≤ _; omega) B8 H8 _ _ _ g8.bh vc8 y8 fun u B9 H9 g9 y9 => fin u B9 H9 g9 y9
end
end Tb

set_option maxHeartbeats 1000000
/-! The law. -/
namespace Tb
open PySem PySem.Spec PyProof.Rows
open L2
mutual
theorem canLay_plan : ∀ p : Plan, p.toD.canLay0 = true
  | .task n => rfl
  | .node w ps => by
    show (PyData.strOk (wd w) && (PyData.canLayAll0 (toDs ps) && true)) = true
    rw [canLay_plans ps]
    cases w <;> decide +kernel
theorem canLay_plans : ∀ ps : List Plan, PyData.canLayAll0 (toDs ps) = true
  | [] => rfl
  | p :: ps => by
    show (p.toD.canLay0 && PyData.canLayAll0 (toDs ps)) = true
    rw [canLay_plan p, canLay_plans ps]; rfl
end
mutual
theorem depth_plan : ∀ p : Plan, p.toD.depth ≤ 2 * p.sz
  | .task n => Nat.zero_le _
  | .node w ps => by
    have := depth_plans ps
    show (max 0 (max (PyData.depthAll (toDs ps) + 1) 0)) + 1 ≤ 2 * (Plan.node w ps).sz
    rw [Plan.sz]
    omega
theorem depth_plans : ∀ ps : List Plan, PyData.depthAll (toDs ps) ≤ 2 * szL ps
  | [] => Nat.zero_le _
  | p :: ps => by
    have h1 := depth_plan p
    have h2 := depth_plans ps
    show max p.toD.depth (PyData.depthAll (toDs ps)) ≤ 2 * (p.sz + szL ps)
    omega
end
theorem shaped_plans {ps : List Plan} (h : ∀ p ∈ ps, p.sz ≤ 8) : SeqAt.shaped (.list (ps.map Plan.toD)) = true := by
  have hd : PyData.depthAll (ps.map Plan.toD) ≤ 16 := by
    induction ps with
    | nil => exact Nat.zero_le _
    | cons p ps ih =>
      have h1 := depth_plan p
      have h2 := h p (by simp)
      have h3 := ih fun q hq => h q (List.mem_cons_of_mem _ hq)
      show max p.toD.depth (PyData.depthAll (ps.map Plan.toD)) ≤ 16
      omega
  unfold SeqAt.shaped
  have e1 : (PyData.list (ps.map Plan.toD)).canLay0 = true := by rw [← toDs_eq]; exact canLay_plans ps
  rw [e1, Bool.true_and, decide_eq_true_eq]
  show PyData.depthAll (ps.map Plan.toD) + 1 ≤ 64
  omega
theorem eqv_nil : ∀ l : List PyData, PyData.eqv (.list l) (.list []) = l.isEmpty
  | [] => rfl
  | _ :: _ => rfl
def spLaw (K : PySem.W.Frag) : Sp := fun vs H Q _ => ∃ (p : Addr) (ns : List Int), vs = [.ref p] ∧ SqL K H p (ns.map V.int) ∧ ∀ H', Q (.bl true) H'
section
variable {P : Program} {w : World} {K : PySem.W.Frag} {mg : Str → Option Value} {base : Heap} {C : Addr}
abbrev n_law : List Str := ["_law_script", "_law_stream_here", "_law_size", "_law_journal", "_law_states", "_law_book", "_law_at", "_law_answer", "_law_possible"]
theorem sc_law : FnScope n_law ["_law_script"] (defScope (top 85)) := ⟨rfl, rfl, rfl, by decide +kernel, rfl, by decide +kernel, by decide +kernel⟩
theorem law_body (T : Txt K mg w) (K' : BkT K mg C) (f : Addr) (cdv : Value) (A : Around) (outer : List Env) (s : Shared) (H0 : Hp) (Ex : XK) (hr : Room 40 (A.deeper (envOfC "law" (defScope (top 85)) s.heap.objs.size f cdv))) (vs : List V) (Q : VK) (hsp : spLaw K vs H0 Q Ex) :
    Sxs (CxD P w K mg base n_law "law" (top 85) f cdv A outer s H0 Ex) (defBody (top 85)) { nx := fun _ H' => Q .non H', rt := Q } (L2.start n_law vs) H0 := by
  obtain ⟨p, ns, rfl, hs, q⟩ := hsp
  refine sxs_cons (sx_set 1 sc_law.nd (ev_of (C8.pe_c (c_l_stream T) hr (by omega) rfl (pa_cons (pe_var (i := 0) rfl (Or.inl rfl)) pa_nil)) ⟨_, rfl, p, ns, rfl, hs, fun a b hb ha => ?_⟩))
  have hab : b ≠ a := fun e => by rw [e, upd_same] at ha; cases ha
  have sm1 : Strm (upd (upd H0 b (.lst (ns.map V.int))) a (.lst [.ref b, .int 0, .int 0])) a b := ⟨ns, 0, 0, upd_same, by rw [upd_ne hab, upd_same], hab, by decide, by decide⟩
  generalize (upd (upd H0 b (.lst (ns.map V.int))) a (.lst [.ref b, .int 0, .int 0])) = H1 at sm1
  have n1 : WS K a b (fun _ => none) H1 [.raw (.ref p), .raw (.ref a), .no, .no, .no, .no, .no, .no, .no] ((L2.start n_law [.ref p]).set 1 (some (.ref a))) (fun _ => none) H1 :=
    ⟨⟨fun x o e => (by cases e), rfl, .cons rfl (.cons rfl (.cons (show SlotR _ _ _ _ .no none from trivial) (.cons (show SlotR _ _ _ _ .no none from trivial) (.cons (show SlotR _ _ _ _ .no none from trivial) (.cons (show SlotR _ _ _ _ .no none from trivial) (.cons (show SlotR _ _ _ _ .no none from trivial) (.cons (show SlotR _ _ _ _ .no none from trivial) (.cons (show SlotR _ _ _ _ .no none from trivial) .nil))))))))⟩, sm1, rfl, Gx.refl fun x o e => (by cases e)⟩
  -- the size
  refine sxs_cons (sx_set 2 sc_law.nd (ev_of (pe_op op_add (pe_op op_add pe_int pe_ev) (pe_callTy call_int1 rfl T.int (by decide +kernel) (pa_cons (pe_cmpR op_eq pe_ev pe_int (nomark _)) pa_nil))) ?_))
  refine ev_next (b := b) (c_l_next T) hr (by omega) 1 (n1.z.raw rfl) (ev_pd di n1.z.s fun u2 B2 H2 g2 y2 => ?_)
  cases y2
  have n2 := n1.up g2
  refine ⟨_, rfl, by decide, by decide, n2.sm, fun z1 H3 z10 z13 sm3 b3 => ?_⟩
  have n3 := n2.draw sm3 b3
  refine ⟨1, z1, rfl, rfl, ?_⟩
  refine ev_next (b := b) (c_l_next T) hr (by omega) 1 (n3.z.raw rfl) (ev_pd di n3.z.s fun u4 B4 H4 g4 y4 => ?_)
  cases y4
  have n4 := n3.up g4
  refine ⟨_, rfl, by decide, by decide, n4.sm, fun z2 H5 z20 z25 sm5 b5 => ?_⟩
  have n5 := n4.draw sm5 b5
  refine ⟨rfl, .inr ⟨decide (V.int z2 = V.int 0), rfl, ⟨_, _, rfl, rfl, ?_⟩⟩⟩
  obtain ⟨n, hn, hn1, hn4⟩ : ∃ n : Nat, (1 + z1 + (if decide (V.int z2 = V.int 0) = true then 1 else 0)) = (n : Int) ∧ 1 ≤ n ∧ n ≤ 4 := by
    by_cases h : V.int z2 = V.int 0
    · rw [decide_eq_true h, if_pos rfl]; exact ⟨(1 + z1 + 1).toNat, by omega, by omega, by omega⟩
    · rw [decide_eq_false h, if_neg Bool.false_ne_true]; exact ⟨(1 + z1 + 0).toNat, by omega, by omega, by omega⟩
  show Sxs _ _ _ (List.set _ 2 (some (V.int (1 + z1 + (if decide (V.int z2 = V.int 0) = true then 1 else 0))))) _
  rw [hn]
  have n6 := n5.set (i := 2) (.int (n : Int))
  -- the history
  refine sxs_cons ⟨_, ps_asg (C8.pe_c (c_l_history T) hr (by omega) rfl (pa_cons (pe_var (i := 1) rfl (Or.inl rfl)) (pa_cons pe_ev (pa_cons pe_int pa_nil)))) (pg_tup rfl (pgs_cons (pg_name (i := 3) sc_law.nd rfl (Or.inl rfl)) (pgs_cons (pg_name (i := 4) sc_law.nd rfl (Or.inl rfl)) pgs_nil rfl) rfl) rfl rfl), ?_⟩
  refine ⟨_, n6.z.raw rfl, ev_pd (dv 2) n6.z.s fun u7 B7 H7 g7 y7 => ?_⟩
  cases y7
  have n7 := n6.up g7
  refine ⟨a, b, n, B7, rfl, hn1, hn4, n7.sm, n7.z.bh, n7.ba, fun cs sts v8 B8 H8 hi h8 gx8 ba8 sm8 y8 => ?_⟩
  cases y8 with
  | @tup t8 xs8 _ e1 e2 =>
    obtain ⟨v3, v4, rfl, d3, d4⟩ := dtl2 e2
    refine ⟨t8, _, rfl, same_sqt gx8.bh e1, rfl, _, _, rfl, _, _, rfl, rfl, ?_⟩
    have z9 := ((n7.z.re gx8.bb gx8.bh).set (i := 3) d3).set (i := 4) d4
    -- the book
    refine sxs_cons (sx_set 5 sc_law.nd (ev_of (C8.pe_mk (c_init T K') hr (by omega) rfl (pa_cons pe_ev pa_nil)) (ev_pd (dv 2) z9.s fun u10 B10 H10 g10 y10 => ?_)))
    cases y10
    have z10 := z9.up g10
    intro x dx hx hdx hne
    have bx : B10 x = none := z10.bh.free hx
    have bdx : B10 dx = none := z10.bh.free hdx
    have bh11 : Same B10 (upd (upd H10 dx (.own x)) x (.ins C dx [])) := fun y o e => by rw [upd_ne (ne_of_none e bx), upd_ne (ne_of_none e bdx)]; exact z10.bh y o e
    refine ⟨x, dx, n, B10, rfl, hn1, hn4, upd_same, bh11, bx, fun l B11 H11 bs11 gb11 hl11 => ⟨rfl, ?_⟩⟩
    have z11 : Z K _ _ B11 H11 := (z10.re gb11.bb gb11.bh).setRaw (i := 5) (v := .ref x)
    -- the loop
    have hlast : ∀ {i : Nat} {c : Cmd}, cs[i]? = some c → cs.take i ++ [c] = cs.take (i + 1) := fun {i c} h => by rw [List.take_add_one, h]; rfl
    have slast : ∀ {i : Nat} {r : List Rule}, sts[i]? = some r → sts.take i ++ [r] = sts.take (i + 1) := fun {i r} h => by rw [List.take_add_one, h]; rfl
    have hcl : ((cmD cs).length : Int) = (cs.length : Int) := by unfold cmD; rw [List.length_map]
    refine sxs_cons ⟨_, ps_for .never rfl (pi_range1 rfl T.range (pa_cons pe_ev pa_nil)) (pg_name (i := 6) sc_law.nd rfl (Or.inl rfl)) pss_sxs, ?_⟩
    refine ev_pd (d_len (l := cmD cs) T.len (dv 3) rfl) z11.s fun u12 B12 H12 g12 y12 => ?_
    cases y12
    have z12 := z11.up g12
    have bs12 := bs11.up g12
    have s1 : [[]] = sts.take 1 := (slast (i := 0) hi.zero)
    rw [s1] at bs12
    refine ⟨_, rfl, by omega, by omega, for_range (lo := 0) (n := ((cmD cs).length : Int).toNat) (fun i σ' H' => ∃ s6 s7 B', plain s6 = true ∧ plain s7 = true ∧ Z K [.raw (.ref p), .raw (.ref a), .dat (.int (n : Int)), .dat (.tuple (cmD cs)), .dat (.list (stD sts)), .raw (.ref x), s6, s7, .no] σ' B' H' ∧ BS K n C x l (cs.take i) (sts.take (i + 1)) B' H') ⟨.no, .no, B12, rfl, rfl, z12, bs12⟩ ?_ ?_⟩
    · rintro i σ' H' hi' ⟨s6, s7, B', p6, p7, z, bs⟩
      have hic : i < cs.length := by omega
      have ec : cs[i]? = some cs[i] := List.getElem?_eq_getElem hic
      obtain ⟨r, er, er2, ok, hf⟩ := hi.step i _ ec
      have hpr := hi.prob r (List.mem_of_getElem? er)
      have hpr2 := hi.prob _ (List.mem_of_getElem? er2)
      generalize cs[i] = c at ec er2 ok hf hpr2
      have z1 := z.set (i := 6) (.int ((0 : Int) + (i : Int)))
      rw [Int.zero_add] at z1
      have e0 : (0 : Int) + (i : Int) = (i : Int) := Int.zero_add _
      show Sxs _ _ _ (List.set σ' 6 (some (V.int ((0 : Int) + (i : Int))))) H'
      rw [e0]
      have htl : (cs.take i).length = i := by rw [List.length_take]; omega
      have hsl : (sts.take (i + 1)).length = i + 1 := by rw [List.length_take, hi.len]; omega
      have her : (sts.take (i + 1))[(cs.take i).length]? = some r := by rw [htl, List.getElem?_take_of_lt (Nat.lt_succ_self _)]; exact er
      -- act
      obtain ⟨dx1, vc1, hx1, _⟩ := bs.hx
      refine sxs_cons (sx_expr (ev_of (C8.pe_mt (c_act T K') hr (by omega) (pe_var (i := 5) rfl (Or.inl rfl)) (pa_cons pe_ev pa_nil)) ⟨_, z1.raw rfl, x, dx1, _, rfl, hx1, rfl, ev_pd (d_ixT (dv 3) (dv 6) (atI_nat (by unfold cmD; rw [List.getElem?_map, ec]; rfl))) z1.s fun u2 B2 H2 g2 y2 => ?_⟩))
      have z2 := z1.up g2
      have bs2 := bs.up g2
      refine ⟨x, l, n, _, _, r, c, u2, B2, rfl, bs2, z2.bh, y2, ok, by rw [hsl, htl], her, Nat.le_trans hpr.len (by decide), hf, by rw [htl]; omega, fun u3 B3 H3 bs3 gb3 => ?_⟩
      rw [hlast ec] at bs3
      have hs3 : sts.take (i + 1) ++ [c.does r] = sts.take (i + 1 + 1) := slast er2
      rw [hs3] at bs3
      have z3 := z2.re gb3.bb gb3.bh
      have htl3 : (cs.take (i + 1)).length = i + 1 := by rw [List.length_take]; omega
      have hsl3 : (sts.take (i + 1 + 1)).length = i + 1 + 1 := by rw [List.length_take, hi.len]; omega
      have her3 : (sts.take (i + 1 + 1))[(cs.take (i + 1)).length]? = some (c.does r) := by rw [htl3, List.getElem?_take_of_lt (Nat.lt_succ_self _)]; exact er2
      -- the answer
      obtain ⟨dx3, vc3, hx3, _⟩ := bs3.hx
      refine sxs_cons (sx_set 7 sc_law.nd (ev_mt0 (c_answer T K') hr (by omega) 5 (z3.raw rfl) hx3 rfl ⟨x, l, n, _, _, c.does r, B3, rfl, bs3, z3.bh, by rw [hsl3, htl3], her3, hpr2, fun u4 B4 H4 g4 y4 => ?_⟩))
      have z4 := (z3.up g4).set (i := 7) y4
      have bs4 := bs3.up g4
      have good := ans_good hn1 hn4 hpr2.ok
      -- the test
      refine sxs_cons ⟨_, ps_if (PW.pt (pw_or (pt_not (pt_val pe_ev)) (pw_or1 (pt_cmpR op_notBl (C8.pe_mt (c_bookAccepts T K') hr (by omega) (pe_var (i := 5) rfl (Or.inl rfl)) (pa_cons pe_ev pa_nil)) pe_bl (nomark _))))) pss_never pss_sxs, ?_⟩
      refine ev_pd (d_call (c_l_answer T) hr (by omega) (a_cons (d_tup (a_cons (dv 2) (a_cons (d_ixL (d := .tuple (rsD (c.does r))) (dv 4) (d_add (dv 6) di) (atI_nat (j := i + 1) (by unfold stD; rw [List.getElem?_map, er2]; rfl))) a_nil))) (a_cons (dv 7) a_nil)) ⟨n, c.does r, ans n (c.does r), rfl, hpr2, good, rfl⟩) z4.s fun u5 B5 H5 g5 y5 => ?_
      cases y5
      have z5 := z4.up g5
      have bs5 := bs4.up g5
      obtain ⟨dx5, vc5, hx5, _⟩ := bs5.hx
      refine ⟨true, rfl, iteF ?_⟩
      refine ⟨_, z5.raw rfl, x, dx5, _, rfl, hx5, rfl, ev_pd (dv 7) z5.s fun u6 B6 H6 g6 y6 => ?_⟩
      have z6 := z5.up g6
      have bs6 := bs5.up g6
      refine ⟨x, l, n, _, _, c.does r, ans n (c.does r), u6, B6, rfl, bs6, z6.bh, y6, by rw [hsl3, htl3], her3, hpr2, good, fun B7 H7 g7 => ?_⟩
      refine ⟨true, true, rfl, rfl, ⟨_, rfl, ?_⟩⟩
      rw [decide_eq_true rfl]
      refine iteF (sxs_nil (sxs_nil ?_))
      exact ⟨_, _, B7, rfl, rfl, z6.up g7, bs6.up g7⟩
    · rintro σ' H' ⟨s6, s7, B', p6, p7, z, bs⟩
      have hN : ((cmD cs).length : Int).toNat = cs.length := by omega
      rw [hN] at bs
      have et : cs.take cs.length = cs := List.take_length
      have es : sts.take (cs.length + 1) = sts := by rw [← hi.len]; exact List.take_length
      rw [et, es] at bs
      obtain ⟨r, er, hpr⟩ := hi.last
      have good := ans_good hn1 hn4 hpr.ok
      have hpos := possible hn1 hn4 hpr.ok good
      have hso := plans_sound n (by omega)
      have hsh : ∀ p ∈ (plansM n).filter (keeps r), p.sz ≤ 8 := fun p hp => (hso p (List.mem_filter.mp hp).1).2
      -- possible
      refine sxs_cons (sx_set 8 sc_law.nd (ev_pd (d := .bool (ans n r).isPlan) (d_neD hr.units (d_call (c_l_solutions T) hr (by omega) (a_cons (d_tup (a_cons (dv 2) (a_cons (d_ixL (d := .tuple (rsD r)) (dv 4) (d_neg di) (st_last hi.len er)) a_nil))) a_nil) ⟨n, r, rfl, hpr, rfl⟩) (d_lst a_nil) (shaped_plans hsh) rfl ?_) z.s fun u2 B2 H2 g2 y2 => ?_))
      · rw [eqv_nil]
        have : (((plansM n).filter (keeps r)).map Plan.toD).isEmpty = ((plansM n).filter (keeps r)).isEmpty := by
          cases (plansM n).filter (keeps r) <;> rfl
        rw [this, hpos, Bool.not_not]
      · have z2 := (z.up g2).set (i := 8) y2
        have bs2 := bs.up g2
        obtain ⟨dx2, vc2, hx2, _⟩ := bs2.hx
        refine sxs_cons (sx_ret (ev_of (pe_cmpR op_eq (pe_ix ix_tup pe_ev pe_int (by exact fun _ _ => rfl)) pe_ev (nomark _)) ?_))
        refine ev_mt0 (c_answer T K') hr (by omega) 5 (z2.raw rfl) hx2 rfl ⟨x, l, n, _, _, r, B2, rfl, bs2, z2.bh, hi.len, er, hpr, fun u3 B3 H3 g3 y3 => ?_⟩
        have z3 := z2.up g3
        have key : ∀ (w0 : Bool), (ans n r).isPlan = w0 → ∃ a3 xs3, u3 = .ref a3 ∧ SqT K H3 a3 xs3 ∧ atI xs3 0 = some (.str (if w0 then "plan" else "set")) := by
          intro w0 hw0
          generalize ans n r = aa at y3 hw0
          cases aa with
          | plan p =>
            cases hw0
            cases y3 with
            | @tup a3 xs3 _ e1 e2 =>
              obtain ⟨v, v', rfl, dv1, _⟩ := dtl2 e2
              cases dv1
              exact ⟨a3, _, rfl, same_sqt g3.bh e1, rfl⟩
          | set l =>
            cases hw0
            cases y3 with
            | @tup a3 xs3 _ e1 e2 =>
              obtain ⟨v, v', rfl, dv1, _⟩ := dtl2 e2
              cases dv1
              exact ⟨a3, _, rfl, same_sqt g3.bh e1, rfl⟩
        obtain ⟨a3, xs3, rfl, e1, e2⟩ := key _ rfl
        refine ⟨a3, xs3, 0, _, rfl, rfl, e1, e2, ?_⟩
        refine ev_pd (d := .str (if (ans n r).isPlan then "plan" else "set")) (d_ixL (d_lst (a_cons Tb.ds (a_cons Tb.ds a_nil))) (d_intB (k := (ans n r).isPlan) T.int (dv 8)) (by cases (ans n r).isPlan <;> rfl)) z3.s fun u4 B4 H4 g4 y4 => ?_
        cases y4
        refine ⟨rfl, ?_⟩
        rw [decide_eq_true rfl]
        exact q _
end
end Tb

set_option maxHeartbeats 0
/-! The head: what the top has written, by a run. -/
namespace Tb
open PySem PySem.Spec PyProof.Rows L2
section
variable {K : PySem.W.Frag} {mg : Str → Option Value} {w : World} {h : Heap}
theorem glb_int (X : K.In h) (G : h.Ns mainGlobals mg) {x : Str} {i : Int} (c : (He.Fa.int x i).ok K = true) : Glb K mg x (.int i) := by
  obtain ⟨t, e⟩ := He.int_ok X G c
  exact ⟨_, .int i, e, ⟨t, rfl⟩, fun B => .int i⟩
theorem glb_tup (X : K.In h) (G : h.Ns mainGlobals mg) {x : Str} {l : List Str} (c : (He.Fa.glo x).ok K = true) (t : He.tupB K x (l.map .str) = true) : Glb K mg x (tStrs l) := by
  refine ⟨_, .ref (He.ga K x), He.glo_ok X G c, rfl, fun B => .tup (He.tupB_ok t B) ?_⟩
  clear t c
  rw [List.map_map]
  induction l with
  | nil => exact .nil
  | cons a l ih => exact .cons (.str a) ih
theorem txt (X : K.In h) (G : h.Ns mainGlobals mg) (c : He.SaysD hdFa hdFn K) (tb : ∃ es n, KDict K w (He.ga K "OPPOSITES") es n) (ex : hdEx K = true) : Txt K mg w := by
  have fact : ∀ (i : Nat) {f : He.Fa}, hdFa[i]? = some f → f.ok K = true := fun i f e => c.fact i e
  have dfn : ∀ (i j : Nat) {x nm : Str} {k : Nat}, hdFn[i]? = some (dOf x nm k) → hdFa[j]? = some (.glo x) → Dfn K mg x nm (top k) := fun i j x nm k e1 e2 => by
    obtain ⟨fd, F⟩ := c.def_ i e1
    exact ⟨_, fd, F, He.glo_ok X G (fact j e2)⟩
  obtain ⟨ex1, ex2⟩ := He.ba ex
  obtain ⟨ex3, ex4⟩ := He.ba ex2
  refine
  { OPPOSITES := ?opp
    is_between := dfn 0 0 rfl rfl
    has_form := dfn 1 1 rfl rfl
    all_tasks := dfn 2 2 rfl rfl
    tasks_of := dfn 3 3 rfl rfl
    is_plan := dfn 4 4 rfl rfl
    least_task := dfn 5 5 rfl rfl
    normal_of := dfn 6 6 rfl rfl
    places_of := dfn 7 7 rfl rfl
    joint_of := dfn 8 8 rfl rfl
    relation_of := dfn 9 9 rfl rfl
    is_integer_tables := dfn 10 10 rfl rfl
    opposite := dfn 11 11 rfl rfl
    is_chosen := dfn 12 12 rfl rfl
    is_integer_rules := dfn 13 13 rfl rfl
    is_task := dfn 14 14 rfl rfl
    is_allowed := dfn 15 15 rfl rfl
    is_rule := dfn 16 16 rfl rfl
    is_size := dfn 17 17 rfl rfl
    is_problem := dfn 18 18 rfl rfl
    opposites := dfn 19 19 rfl rfl
    allowed_of := dfn 20 20 rfl rfl
    keeps_rule := dfn 21 21 rfl rfl
    kept_by := dfn 22 22 rfl rfl
    ties := dfn 23 23 rfl rfl
    bars := dfn 24 24 rfl rfl
    reach := dfn 25 25 rfl rfl
    told_split := dfn 26 26 rfl rfl
    stuck := dfn 27 27 rfl rfl
    check_problem := dfn 28 28 rfl rfl
    joined := dfn 29 29 rfl rfl
    taken_apart := dfn 30 30 rfl rfl
    solved := dfn 31 31 rfl rfl
    solve := dfn 32 32 rfl rfl
    accepts := dfn 33 33 rfl rfl
    is_command := dfn 34 34 rfl rfl
    behind := dfn 35 35 rfl rfl
    l_stream := dfn 36 36 rfl rfl
    l_next := dfn 37 37 rfl rfl
    l_is_integer := dfn 38 38 rfl rfl
    l_rows := dfn 39 39 rfl rfl
    l_blocks := dfn 40 40 rfl rfl
    l_heads := dfn 41 41 rfl rfl
    l_plans := dfn 42 42 rfl rfl
    l_tasks := dfn 43 43 rfl rfl
    l_relation := dfn 44 44 rfl rfl
    l_relations := dfn 45 45 rfl rfl
    l_opposite := dfn 46 46 rfl rfl
    l_rule := dfn 47 47 rfl rfl
    l_allowed := dfn 48 48 rfl rfl
    l_keeps := dfn 49 49 rfl rfl
    l_solutions := dfn 50 50 rfl rfl
    l_reaches := dfn 51 51 rfl rfl
    l_is_set := dfn 52 52 rfl rfl
    l_is_stuck := dfn 53 53 rfl rfl
    l_is_plan_of := dfn 54 54 rfl rfl
    l_is_solution := dfn 55 55 rfl rfl
    l_command := dfn 56 56 rfl rfl
    l_why_not := dfn 57 57 rfl rfl
    l_behind := dfn 58 58 rfl rfl
    l_history := dfn 59 59 rfl rfl
    l_answer_is_right := dfn 60 60 rfl rfl
    MOST_TASKS_plans := glb_int X G (fact 66 rfl)
    WORDS := glb_tup (l := ["then", "beside"]) X G (fact 64 rfl) ex1
    MOST_TASKS_rules := glb_int X G (fact 67 rfl)
    MOST_RULES := glb_int X G (fact 68 rfl)
    RELATIONS := glb_tup (l := ["before", "beside", "after"]) X G (fact 65 rfl) ex3
    MOST_COMMANDS := glb_int X G (fact 69 rfl)
    len := He.free_ok X G (fact 70 rfl)
    isinstance := He.free_ok X G (fact 71 rfl)
    int := He.free_ok X G (fact 72 rfl)
    bool := He.free_ok X G (fact 73 rfl)
    str := He.free_ok X G (fact 74 rfl)
    tuple := He.free_ok X G (fact 75 rfl)
    list := He.free_ok X G (fact 76 rfl)
    all := He.free_ok X G (fact 77 rfl)
    range := He.free_ok X G (fact 78 rfl)
    sorted := He.free_ok X G (fact 79 rfl)
    min := He.free_ok X G (fact 80 rfl)
    abs := He.free_ok X G (fact 81 rfl) }
  case opp =>
    obtain ⟨es, n, kd⟩ := tb
    refine ⟨_, He.glo_ok X G (fact 63 rfl), fun r => ?_⟩
    have pick : ∀ x y : Str, (x, He.Dv.str y) ∈ [(("before" : Str), He.Dv.str "after"), ("beside", .str "beside"), ("after", .str "before"), ("same", .str "same")] → KDct K w (He.ga K "OPPOSITES") x (.str y) := fun x y hm => by
      obtain ⟨u, e, r⟩ := He.valsB_ok ex4 hm
      exact ⟨es, n, u, kd.at_, kd.lit, e, r⟩
    cases r with
    | bf => exact pick _ _ (by simp [R4.s, R4.opp])
    | bs => exact pick _ _ (by simp [R4.s, R4.opp])
    | af => exact pick _ _ (by simp [R4.s, R4.opp])
    | same => exact pick _ _ (by simp [R4.s, R4.opp])
theorem bkt (X : K.In h) (G : h.Ns mainGlobals mg) (c : He.SaysD hdFa hdFn K) : BkT K mg (He.ga K "Book") := by
  have fact : ∀ (i : Nat) {f : He.Fa}, hdFa[i]? = some f → f.ok K = true := fun i f e => c.fact i e
  have mtd : ∀ (i j : Nat) {m q : Str} {k : Nat}, hdFn[i]? = some (mOf m q k) → hdFa[j]? = some (.meth "Book" m) → Mtd K (He.ga K "Book") m q (mth k) := fun i j m q k e1 e2 => by
    obtain ⟨fd, F⟩ := c.def_ i e1
    exact ⟨_, fd, He.meth_ok (fact j e2), F⟩
  obtain ⟨fi, Fi⟩ := c.def_ 62 (d := mOf "__init__" "Book.__init__" 0) rfl
  exact ⟨He.cls_ok (fact 82 (f := .cls "Book") rfl), He.noat_ok (fact 83 (f := .noat "Book" "size") rfl), He.noat_ok (fact 84 (f := .noat "Book" "states") rfl), He.noat_ok (fact 85 (f := .noat "Book" "commands") rfl), He.glo_ok X G (fact 62 (f := .glo "Book") rfl),
    ⟨_, fi, He.mkr_ok (fact 90 (f := .mkr "Book") rfl), Fi⟩, mtd 63 86 rfl rfl, mtd 64 87 rfl rfl, mtd 65 88 rfl rfl, mtd 66 89 rfl rfl⟩
theorem facts {P : Program} {f : Addr} (X : K.In h) (G : h.Ns mainGlobals mg) (hfa : mg ("law" : Str) = some (.ref f)) (y : He.SaysX hdFa hdFn hdTs [] hdEx w h K) :
    ∃ fd : FuncData, (∀ (s : Shared) (v : Value), BindsTo s fd ⟨[v], []⟩ [("_law_script", v)]) ∧ ∀ base : Heap, K.In base → base.Ns mainGlobals mg → FnOk P w K mg base C8.CX0 41 f fd ["_law_script"] (spLaw K) := by
  have c := y.t.d
  have T : Txt K mg w := txt X G c (y.t.tab 0) y.more
  have B := bkt X G c
  obtain ⟨fd, F⟩ := c.def_ 61 (d := dOf "law" "law" 85) rfl
  have e := hfa.symm.trans (He.glo_ok X G (c.fact 61 (f := .glo "law") rfl))
  cases e
  have b := FunD.bindsA (ps := ["_law_script"]) F fun _ _ _ _ _ _ us hl => match us, hl with | [_], _ => rfl
  refine ⟨fd, fun s v => b s [v] rfl, fun base _ _ => F.ok sc_law (fun vs H Q E ⟨_, _, e, _⟩ => by rw [e]; rfl) fun cdv A outer s H vs Q E hr hs => ⟨_, pss_sxs.nox, law_body T B _ cdv A outer s H E hr vs Q hs⟩⟩
end
end Tb

set_option maxHeartbeats 0
/-! The end. -/
open PySem PySem.W PySem.Calls PyProof.Rows
theorem PySem.Challenge.cw_thenbeside_k78_whole_answers_of_books_holds : PySem.Challenge.rw_thenbeside_k78_whole_answers_of_books.Holds := by
  w_on; o_law
  refine HandSHeadRun.head_any (r := OpenLaw.row PySem.Challenge.rw_thenbeside_k78_whole_answers_of_books) (q := view (OpenLaw.row PySem.Challenge.rw_thenbeside_k78_whole_answers_of_books).prog [85]) (H := Tb.hdK) (ob := Tb.hdOb) (M := 6000) (loose := Tb.hdLoose) (d := HandSHeadRun.topDef (OpenLaw.row PySem.Challenge.rw_thenbeside_k78_whole_answers_of_books).prog 85) (kwd := []) Tb.hdOb_eq
    (by kernel_rfl) (fun s => by kernel_rfl) Tb.hdRun (by kernel_rfl) (by kernel_rfl) (by kernel_rfl) (by rfl) (by first | assumption | decide +kernel) (by decide +kernel) ⟨rfl, rfl, rfl, rfl, rfl, by decide +kernel⟩ ?hw ?hc
  case hw => w_witness2
  case hc =>
    refine L2.walk_ofE (l := PySem.Challenge.rw_thenbeside_k78_whole_answers_of_books) (n := 63) (k := 41) (x := "_law_script") (CX := C8.CX0) rfl (by decide) (by kernel_rfl) ⟨rfl, by decide, by decide⟩ ?F (fun _ _ _ _ z => z)
    intro w mg fa h Y G hmg0
    obtain ⟨K, KX, c⟩ := Y
    have hmg : mg ("law" : PySem.Str) = some (.ref fa) := by
      have e : (HandSHeadRun.topDef (OpenLaw.row PySem.Challenge.rw_thenbeside_k78_whole_answers_of_books).prog 85).name = ("law" : PySem.Str) := by kernel_rfl
      rw [← e]
      exact hmg0
    obtain ⟨fd, hb, hF⟩ := Tb.facts (P := (PySem.Challenge.rw_thenbeside_k78_whole_answers_of_books).prog) (w := w) KX G hmg c
    exact ⟨K, fd, Tb.spLaw K, KX, hb, fun H a ns hl _ hS => ⟨a, ns, rfl, hS, fun _ => rfl⟩, hF⟩
