import PyProof.Rows.All
import Wide.All
import OpenK.AllK
import Wide.FinOn
import HandS.ForMost
import HandS.ForExc
import HandS.IsInst
import HandS.TupAny
import HandS.ExcInit
import HandS.ExcField
import HandS.Defaults
import HandS.Codes
import PySem.Challenge.RW_thenbeside_k77_whole_commands_of_books
set_option Elab.async false
set_option linter.all false
set_option maxRecDepth 100000
set_option maxHeartbeats 4000000
/-! A book of rules, its commands, the law's own copy of both: what lies in the heap, and what stays. -/
namespace Bk
open PySem PySem.Spec PyProof.Rows L2
/-! ### 1. The text by places -/
def top (i : Nat) : Stmt := PySem.Challenge.pw_thenbeside_k77_whole_commands_of_books.main.body.getD i (.Pass ⟨0, 0, 0, 0⟩)
abbrev sNpInit : Stmt := inClass (top 5) 0
abbrev sIsInt : Stmt := top 17
abbrev sIsTask : Stmt := top 18
abbrev sIsAllowed : Stmt := top 19
abbrev sIsRule : Stmt := top 20
abbrev sIsSize : Stmt := top 21
abbrev sIsCmd : Stmt := top 38
abbrev sBehind : Stmt := top 39
abbrev sBInit : Stmt := inClass (top 40) 0
abbrev sAct : Stmt := inClass (top 40) 1
abbrev sProblem : Stmt := inClass (top 40) 3
abbrev sJournal : Stmt := inClass (top 40) 4
abbrev sStream : Stmt := top 42
abbrev sNext : Stmt := top 43
abbrev sLInt : Stmt := top 44
abbrev sEqual : Stmt := top 45
abbrev sRels : Stmt := top 48
abbrev sRule : Stmt := top 49
abbrev sCmd : Stmt := top 50
abbrev sWhy : Stmt := top 51
abbrev sLBehind : Stmt := top 52
abbrev sTold : Stmt := top 53
abbrev sLaw : Stmt := top 54

/-! ### 2. What stays in the heap -/
/-- all that was tracked outside m is as it was -/
def Kp (m : Addr → Prop) (H H' : Hp) : Prop := ∀ a o, ¬ m a → H a = some o → H' a = some o
/-- tuples never change -/
def Tups (H H' : Hp) : Prop := ∀ a xs, H a = some (.tup xs) → H' a = some (.tup xs)
section
variable {m m' : Addr → Prop} {H H1 H2 : Hp} {a p : Addr} {o : HO} {xs : List V}
theorem Kp.refl (m : Addr → Prop) (H : Hp) : Kp m H H := fun _ _ _ h => h
theorem Kp.trans (h : Kp m H H1) (h' : Kp m H1 H2) : Kp m H H2 := fun c o n e => h' c o n (h c o n e)
theorem Kp.same (h : Same H H1) : Kp m H H1 := fun c o _ e => h c o e
theorem Kp.more (h : Kp m H H1) (hm : ∀ c, m c → m' c) : Kp m' H H1 := fun c o n e => h c o (fun z => n (hm c z)) e
theorem Kp.put (hm : m a) : Kp m H (upd H a o) := fun c u n e => by
  have nc : c ≠ a := fun z => n (by rw [z]; exact hm)
  rw [upd_ne nc]
  exact e
theorem same_new (h : H p = none) : Same H (upd H p o) := fun c u e => by
  rw [upd_ne (ne_of_none e h)]
  exact e
theorem Tups.refl (H : Hp) : Tups H H := fun _ _ h => h
theorem Tups.trans (h : Tups H H1) (h' : Tups H1 H2) : Tups H H2 := fun c xs e => h' c xs (h c xs e)
theorem Tups.of_same (h : Same H H1) : Tups H H1 := fun c xs e => h c _ e
theorem Tups.put (hm : ∀ xs, H a ≠ some (.tup xs)) : Tups H (upd H a o) := fun c xs e => by
  have nc : c ≠ a := fun z => hm xs (by rw [← z]; exact e)
  rw [upd_ne nc]
  exact e
/-- what is kept outside places that hold no tuple keeps the tuples -/
theorem Kp.tups (h : Kp m H H1) (hm : ∀ c, m c → ∀ xs, H c ≠ some (.tup xs)) : Tups H H1 := fun c xs e => h c _ (fun z => hm c z xs e) e
theorem Same.none_back (h : Same H H1) (e : H1 a = none) : H a = none := h.free e
end

/-! ### 3. Data -/
def relations : List Str := ["before", "beside", "after"]
/-- some of the relations, in order, at least one -/
def Rels (rs : List Str) : Prop := rs = relations.filter (fun r => decide (r ∈ rs)) ∧ rs ≠ []
theorem Rels.of_wanted {ws : List Str} (h : ∃ r, r ∈ relations ∧ r ∈ ws) : Rels (relations.filter fun r => decide (r ∈ ws)) := by
  obtain ⟨r, h1, h2⟩ := h
  refine ⟨?_, ?_⟩
  · refine List.filter_congr fun x hx => ?_
    have e : (x ∈ relations.filter fun r => decide (r ∈ ws)) ↔ x ∈ ws := by
      rw [List.mem_filter]
      simp [hx]
    simp only [e]
  · intro e
    have hm : r ∈ relations.filter fun r => decide (r ∈ ws) := List.mem_filter.mpr ⟨h1, by simp [h2]⟩
    rw [e] at hm
    cases hm
theorem Rels.length {rs : List Str} (h : Rels rs) : rs.length ≤ 3 := by
  rw [h.1]
  exact Nat.le_trans (List.length_filter_le _ _) (by decide)
/-- a rule of so many tasks -/
def RuleV (H : Hp) (n : Int) (v : V) : Prop := ∃ (p t : Addr) (f s : Int) (rs : List Str), v = .ref p ∧ H p = some (.tup [.int f, .ref t, .int s]) ∧ H t = some (.tup (rs.map V.str)) ∧ Rels rs ∧ 0 ≤ f ∧ f < n ∧ 0 ≤ s ∧ s < n ∧ f ≠ s
theorem RuleV.kept {H H1 : Hp} {n : Int} {v : V} (k : Tups H H1) (h : RuleV H n v) : RuleV H1 n v := by
  obtain ⟨p, t, f, s, rs, e, h1, h2, r⟩ := h
  exact ⟨p, t, f, s, rs, e, k _ _ h1, k _ _ h2, r⟩
/-- a command -/
inductive Cm where
  | add (r : V)
  | drop (i : Nat)
  | put (i : Nat) (r : V)
def CmdV (H : Hp) (n : Int) (p : Addr) : Cm → Prop
  | .add r => H p = some (.tup [.str "add", r]) ∧ RuleV H n r
  | .drop i => H p = some (.tup [.str "drop", .int (i : Int)]) ∧ i < 20
  | .put i r => H p = some (.tup [.str "put", .int (i : Int), r]) ∧ i < 20 ∧ RuleV H n r
theorem CmdV.kept {H H1 : Hp} {n : Int} {p : Addr} (k : Tups H H1) : ∀ {c : Cm}, CmdV H n p c → CmdV H1 n p c
  | .add _, ⟨h1, h2⟩ => ⟨k _ _ h1, h2.kept k⟩
  | .drop _, ⟨h1, h2⟩ => ⟨k _ _ h1, h2⟩
  | .put _ _, ⟨h1, h2, h3⟩ => ⟨k _ _ h1, h2, h3.kept k⟩
/-! the mirror of one command -/
def poss (xs : List V) : Cm → Bool
  | .add _ => decide (xs.length < 20)
  | .drop i => decide (i < xs.length)
  | .put i _ => decide (i < xs.length)
def word : Cm → Str
  | .add _ => "many"
  | _ => "missing"
def step (xs : List V) : Cm → List V
  | .add r => xs ++ [r]
  | .drop i => (xs.take i ++ []) ++ xs.drop (i + 1)
  | .put i r => (xs.take i ++ [r]) ++ xs.drop (i + 1)
theorem step_rules {H : Hp} {n : Int} {p : Addr} {xs : List V} {c : Cm} (hx : ∀ x ∈ xs, RuleV H n x) (hc : CmdV H n p c) : ∀ x ∈ step xs c, RuleV H n x := by
  intro x h
  cases c with
  | add r =>
    rcases List.mem_append.mp h with h | h
    · exact hx x h
    · rw [List.mem_singleton.mp h]
      exact hc.2
  | drop i =>
    rcases List.mem_append.mp h with h | h
    · rw [List.append_nil] at h
      exact hx x (List.mem_of_mem_take h)
    · exact hx x (List.mem_of_mem_drop h)
  | put i r =>
    rcases List.mem_append.mp h with h | h
    · rcases List.mem_append.mp h with h | h
      · exact hx x (List.mem_of_mem_take h)
      · rw [List.mem_singleton.mp h]
        exact hc.2.2
    · exact hx x (List.mem_of_mem_drop h)
theorem step_length (xs : List V) (c : Cm) : (step xs c).length ≤ xs.length + 1 := by
  cases c with
  | add r => simp [step]
  | drop i =>
    simp [step]
    omega
  | put i r =>
    simp [step]
    omega
/-- equal data, at most n - 1 deep -/
def EqD (H : Hp) : Nat → V → V → Prop
  | 0, _, _ => False
  | n + 1, v, u => (∃ i : Int, v = .int i ∧ u = .int i) ∨ (∃ s : Str, v = .str s ∧ u = .str s) ∨
      ∃ (a b : Addr) (xs ys : List V), v = .ref a ∧ u = .ref b ∧ ((H a = some (.tup xs) ∧ H b = some (.tup ys)) ∨ (H a = some (.lst xs) ∧ H b = some (.lst ys))) ∧
        xs.length = ys.length ∧ ys.length ≤ 1000 ∧ ∀ (i : Nat) (x y : V), xs[i]? = some x → ys[i]? = some y → EqD H n x y
theorem EqD.same {H H1 : Hp} (k : Same H H1) : ∀ {n : Nat} {v u : V}, EqD H n v u → EqD H1 n v u
  | 0, _, _, h => h
  | n + 1, v, u, h => by
    rcases h with h | h | ⟨a, b, xs, ys, ev, eu, hh, hl, hz, hi⟩
    · exact .inl h
    · exact .inr (.inl h)
    · refine .inr (.inr ⟨a, b, xs, ys, ev, eu, ?_, hl, hz, fun i x y h1 h2 => (hi i x y h1 h2).same k⟩)
      rcases hh with ⟨h1, h2⟩ | ⟨h1, h2⟩
      · exact .inl ⟨k _ _ h1, k _ _ h2⟩
      · exact .inr ⟨k _ _ h1, k _ _ h2⟩
theorem EqD.up {H : Hp} : ∀ {n : Nat} {v u : V}, EqD H n v u → EqD H (n + 1) v u
  | 0, _, _, h => h.elim
  | n + 1, v, u, h => by
    rcases h with h | h | ⟨a, b, xs, ys, ev, eu, hh, hl, hz, hi⟩
    · exact .inl h
    · exact .inr (.inl h)
    · exact .inr (.inr ⟨a, b, xs, ys, ev, eu, hh, hl, hz, fun i x y h1 h2 => (hi i x y h1 h2).up⟩)
theorem EqD.int {H : Hp} (n : Nat) (i : Int) : EqD H (n + 1) (.int i) (.int i) := .inl ⟨i, rfl, rfl⟩
theorem EqD.str {H : Hp} (n : Nat) (s : Str) : EqD H (n + 1) (.str s) (.str s) := .inr (.inl ⟨s, rfl, rfl⟩)
/-- two tuples of the same items -/
theorem EqD.tup {H : Hp} {n : Nat} {a b : Addr} {xs ys : List V} (ha : H a = some (.tup xs)) (hb : H b = some (.tup ys)) (hl : xs.length = ys.length) (hz : ys.length ≤ 1000)
    (h : ∀ (i : Nat) (x y : V), xs[i]? = some x → ys[i]? = some y → EqD H n x y) : EqD H (n + 1) (.ref a) (.ref b) :=
  .inr (.inr ⟨a, b, xs, ys, rfl, rfl, .inl ⟨ha, hb⟩, hl, hz, h⟩)
theorem EqD.tup' {H : Hp} {n : Nat} {a b : Addr} {xs : List V} (ha : H a = some (.tup xs)) (hb : H b = some (.tup xs)) (hz : xs.length ≤ 1000) (h : ∀ x ∈ xs, EqD H n x x) : EqD H (n + 1) (.ref a) (.ref b) :=
  .tup ha hb rfl hz fun i x y h1 h2 => by
    rw [h1] at h2
    cases h2
    exact h x (List.mem_of_getElem? h1)
theorem RuleV.eqD {H : Hp} {n : Int} {v : V} (h : RuleV H n v) : EqD H 3 v v := by
  obtain ⟨p, t, f, s, rs, e, h1, h2, r, _⟩ := h
  subst e
  refine .tup' h1 h1 (by show 3 ≤ 1000; decide) fun x hx => ?_
  simp only [List.mem_cons, List.not_mem_nil, or_false] at hx
  rcases hx with rfl | rfl | rfl
  · exact .int _ _
  · refine .tup' h2 h2 (by rw [List.length_map]; exact Nat.le_trans r.length (by decide)) fun y hy => ?_
    obtain ⟨z, _, rfl⟩ := List.mem_map.mp hy
    exact .str _ _
  · exact .int _ _
theorem CmdV.eqD {H : Hp} {n : Int} {p : Addr} : ∀ {c : Cm}, CmdV H n p c → EqD H 4 (.ref p) (.ref p)
  | .add r, ⟨h1, h2⟩ => .tup' h1 h1 (by show 2 ≤ 1000; decide) fun x hx => by
    simp only [List.mem_cons, List.not_mem_nil, or_false] at hx
    rcases hx with rfl | rfl
    · exact .str _ _
    · exact h2.eqD
  | .drop i, ⟨h1, h2⟩ => .tup' h1 h1 (by show 2 ≤ 1000; decide) fun x hx => by
    simp only [List.mem_cons, List.not_mem_nil, or_false] at hx
    rcases hx with rfl | rfl
    · exact .str _ _
    · exact .int _ _
  | .put i r, ⟨h1, h2, h3⟩ => .tup' h1 h1 (by show 3 ≤ 1000; decide) fun x hx => by
    simp only [List.mem_cons, List.not_mem_nil, or_false] at hx
    rcases hx with rfl | rfl | rfl
    · exact .str _ _
    · exact .int _ _
    · exact h3.eqD

/-! ### 4. Readings that come often -/
/-- t + u of tuples of any length, seen from outside -/
theorem cat_any {K : PySem.W.Frag} {H : Hp} {a b : Addr} {xs ys : List V} {Q : VK} (ha : H a = some (.tup xs)) (hb : H b = some (.tup ys)) (hz : xs.length + ys.length ≤ 1000)
    (k : ∀ (H' : Hp) (q : Addr), Same H H' → H' q = some (.tup (xs ++ ys)) → Q (.ref q) H') : rCatA K (.ref a) (.ref b) H Q := by
  refine ⟨a, b, xs, ys, rfl, rfl, SqT.of ha, SqT.of hb, Nat.le_trans hz (by decide), fun e => ?_, fun _ e => ?_, fun _ _ p hp => ?_⟩
  · subst e
    exact k H b (Same.refl H) hb
  · subst e
    refine k H a (Same.refl H) ?_
    rw [List.append_nil]
    exact ha
  · exact k _ p (same_new hp) upd_same
theorem cut_whole {xs : List V} {lo hi : Option Int} (h : HT.sIx xs.length 0 lo = 0 ∧ HT.sIx xs.length xs.length hi = xs.length) : cutV xs lo hi = xs := by
  unfold cutV
  rw [h.1, h.2]
  simp
theorem slice_any {K : PySem.W.Frag} {H : Hp} {a : Addr} {xs : List V} {lo hi : Option Int} {Q : VK} (ha : H a = some (.tup xs))
    (k : ∀ (H' : Hp) (q : Addr), Same H H' → H' q = some (.tup (cutV xs lo hi)) → Q (.ref q) H') : rSlA K (.ref a) lo hi H Q := by
  refine ⟨a, xs, rfl, SqT.of ha, fun e => ?_, fun _ p hp => ?_⟩
  · refine k H a (Same.refl H) ?_
    rw [cut_whole e]
    exact ha
  · exact k _ p (same_new hp) upd_same
theorem cut_take (xs : List V) (i : Nat) (h : i ≤ xs.length) : cutV xs none (some (i : Int)) = xs.take i := by
  unfold cutV
  rw [HT.sIx_none, HT.sIx_nat, Nat.min_eq_left h]
  simp
theorem cut_drop (xs : List V) (i : Nat) (h : i ≤ xs.length) : cutV xs (some (i : Int)) none = xs.drop i := by
  unfold cutV
  rw [HT.sIx_none, HT.sIx_nat, Nat.min_eq_left h]
  exact List.take_of_length_le (by rw [List.length_drop]; exact Nat.le_refl _)
/-- an if whose test is known -/
theorem if_t {c : Bool} {A B : Prop} (hc : c = true) (h : A) : if c = true then A else B := by
  rw [if_pos hc]
  exact h
theorem if_f {c : Bool} {A B : Prop} (hc : c = false) (h : B) : if c = true then A else B := by
  rw [hc, if_neg Bool.false_ne_true]
  exact h
theorem if_nf {c : Bool} {A B : Prop} (hc : c = true) (h : B) : if (!c) = true then A else B := if_f (by rw [hc]; rfl) h
end Bk

namespace Bk
open PySem PySem.Spec PyProof.Rows L2
/-- the built-ins that the text calls are still built-ins -/
structure Bn (mg : Str → Option Value) : Prop where
  isi : mg "isinstance" = none
  int : mg "int" = none
  bool : mg "bool" = none
  str : mg "str" = none
  tuple : mg "tuple" = none
  list : mg "list" = none
  len : mg "len" = none
  all : mg "all" = none
  abs : mg "abs" = none
  min : mg "min" = none
  range : mg "range" = none
/-- a def of the module that keeps its promise -/
structure Gd (P : Program) (w : World) (K : PySem.W.Frag) (mg : Str → Option Value) (base : Heap) (CX : CXT) (k : Nat) (x : Str) (ps : List Str) (sp : Sp) : Prop where
  ex : ∃ (f : Addr) (fd : FuncData), mg x = some (.ref f) ∧ PySem.W.keepIn K (.ref f) = true ∧ Binds K fd ps [] ∧ FnOk P w K mg base CX k f fd ps sp
section
variable {P : Program} {w : World} {K : PySem.W.Frag} {mg : Str → Option Value} {base : Heap}
/-! ### is_integer -/
def spIsInt : Sp := fun vs H Q _ => ∃ i : Int, vs = [.int i] ∧ Q (.bl true) H
theorem scIsInt : FnScope ["value"] ["value"] (defScope sIsInt) := ⟨rfl, rfl, rfl, by decide +kernel, rfl, by decide +kernel, by decide +kernel⟩
theorem ok_isInt {f : Addr} {fd : FuncData} (F : Fun K "is_integer" "is_integer" sIsInt f fd) (hm : mg "is_integer" = some (.ref f)) (T : Bn mg) : Gd P w K mg base CX0 1 "is_integer" ["value"] spIsInt := by
  refine ⟨f, fd, hm, F.kp, F.binds fun _ _ _ _ _ _ us hl => match us, hl with | [_], _ => rfl, ?_⟩
  refine F.ok scIsInt (fun vs H Q E h => ?_) (fun cdv A outer s H vs Q E hr h => ?_)
  · obtain ⟨i, rfl, _⟩ := h
    rfl
  · obtain ⟨i, rfl, q⟩ := h
    refine ⟨_, pss_one (ps_ret (pe_and (pe_callB call_isi (by rfl) T.isi (by decide +kernel) (pa_cons (pv 0) (pa_cons (pe_bltn (v := .ty "int") (by rfl) T.int (by decide +kernel) rfl) pa_nil)))
      (pe_one (pe_not (pe_callB call_isi (by rfl) T.isi (by decide +kernel) (pa_cons (pv 0) (pa_cons (pe_bltn (v := .ty "bool") (by rfl) T.bool (by decide +kernel) rfl) pa_nil))))))), ?_⟩
    refine ⟨_, rfl, _, _, _, _, true, rfl, .ty _, .base (.int i), kit_ty (by decide +kernel), _, rfl, iteT ⟨_, rfl, _, _, _, _, false, rfl, .ty _, .base (.int i), kit_ty (by decide +kernel), _, rfl, ?_⟩⟩
    exact q
/-! ### _law_is_integer: the same text -/
theorem scLInt : FnScope ["_law_actual"] ["_law_actual"] (defScope sLInt) := ⟨rfl, rfl, rfl, by decide +kernel, rfl, by decide +kernel, by decide +kernel⟩
theorem ok_lint {f : Addr} {fd : FuncData} (F : Fun K "_law_is_integer" "_law_is_integer" sLInt f fd) (hm : mg "_law_is_integer" = some (.ref f)) (T : Bn mg) : Gd P w K mg base CX0 1 "_law_is_integer" ["_law_actual"] spIsInt := by
  refine ⟨f, fd, hm, F.kp, F.binds fun _ _ _ _ _ _ us hl => match us, hl with | [_], _ => rfl, ?_⟩
  refine F.ok scLInt (fun vs H Q E h => ?_) (fun cdv A outer s H vs Q E hr h => ?_)
  · obtain ⟨i, rfl, _⟩ := h
    rfl
  · obtain ⟨i, rfl, q⟩ := h
    refine ⟨_, pss_one (ps_ret (pe_and (pe_callB call_isi (by rfl) T.isi (by decide +kernel) (pa_cons (pv 0) (pa_cons (pe_bltn (v := .ty "int") (by rfl) T.int (by decide +kernel) rfl) pa_nil)))
      (pe_one (pe_not (pe_callB call_isi (by rfl) T.isi (by decide +kernel) (pa_cons (pv 0) (pa_cons (pe_bltn (v := .ty "bool") (by rfl) T.bool (by decide +kernel) rfl) pa_nil))))))), ?_⟩
    refine ⟨_, rfl, _, _, _, _, true, rfl, .ty _, .base (.int i), kit_ty (by decide +kernel), _, rfl, iteT ⟨_, rfl, _, _, _, _, false, rfl, .ty _, .base (.int i), kit_ty (by decide +kernel), _, rfl, ?_⟩⟩
    exact q
/-! ### is_task -/
def spIsTask : Sp := fun vs H Q _ => ∃ i n : Int, vs = [.int i, .int n] ∧ 0 ≤ i ∧ i < n ∧ Q (.bl true) H
theorem scIsTask : FnScope ["value", "size"] ["value", "size"] (defScope sIsTask) := ⟨rfl, rfl, rfl, by decide +kernel, rfl, by decide +kernel, by decide +kernel⟩
theorem ok_isTask {f : Addr} {fd : FuncData} (F : Fun K "is_task" "is_task" sIsTask f fd) (hm : mg "is_task" = some (.ref f)) (hI : Gd P w K mg base CX0 1 "is_integer" ["value"] spIsInt) : Gd P w K mg base CX0 2 "is_task" ["value", "size"] spIsTask := by
  obtain ⟨fI, fdI, mI, kI, bI, GI⟩ := hI.ex
  refine ⟨f, fd, hm, F.kp, F.binds fun _ _ _ _ _ _ us hl => match us, hl with | [_, _], _ => rfl, ?_⟩
  refine F.ok scIsTask (fun vs H Q E h => ?_) (fun cdv A outer s H vs Q E hr h => ?_)
  · obtain ⟨i, n, rfl, _⟩ := h
    rfl
  · obtain ⟨i, n, rfl, h0, h1, q⟩ := h
    refine ⟨_, pss_one (ps_ret (pe_and (pe_call GI hr rfl mI kI bI .nil pass0 (pa_cons (pv 0) pa_nil)) (pe_one (pe_chain op_le op_lt pe_int (pv 0) (pv 1))))), ?_⟩
    refine ⟨_, rfl, i, rfl, _, rfl, iteT ⟨_, rfl, _, _, rfl, rfl, _, rfl, if_t (decide_eq_true h0) ⟨_, rfl, _, _, rfl, rfl, ?_⟩⟩⟩
    show Q (V.bl (decide (i < n))) H
    rw [decide_eq_true h1]
    exact q
/-! ### is_size -/
def spIsSize : Sp := fun vs H Q _ => ∃ i : Int, vs = [.int i] ∧ 1 ≤ i ∧ i ≤ 7 ∧ Q (.bl true) H
theorem scIsSize : FnScope ["value"] ["value"] (defScope sIsSize) := ⟨rfl, rfl, rfl, by decide +kernel, rfl, by decide +kernel, by decide +kernel⟩
theorem ok_isSize {f : Addr} {fd : FuncData} (F : Fun K "is_size" "is_size" sIsSize f fd) (hm : mg "is_size" = some (.ref f)) (hI : Gd P w K mg base CX0 1 "is_integer" ["value"] spIsInt) (h7 : ∃ t, mg "MOST_TASKS" = some (.int 7 t)) :
    Gd P w K mg base CX0 2 "is_size" ["value"] spIsSize := by
  obtain ⟨fI, fdI, mI, kI, bI, GI⟩ := hI.ex
  obtain ⟨t7, m7⟩ := h7
  refine ⟨f, fd, hm, F.kp, F.binds fun _ _ _ _ _ _ us hl => match us, hl with | [_], _ => rfl, ?_⟩
  refine F.ok scIsSize (fun vs H Q E h => ?_) (fun cdv A outer s H vs Q E hr h => ?_)
  · obtain ⟨i, rfl, _⟩ := h
    rfl
  · obtain ⟨i, rfl, h0, h1, q⟩ := h
    refine ⟨_, pss_one (ps_ret (pe_and (pe_call GI hr rfl mI kI bI .nil pass0 (pa_cons (pv 0) pa_nil)) (pe_one (pe_chain op_le op_le pe_int (pv 0) (pe_glob (v := .int 7) rfl m7 ⟨_, rfl⟩))))), ?_⟩
    refine ⟨_, rfl, i, rfl, _, rfl, iteT ⟨_, rfl, _, _, rfl, rfl, _, rfl, if_t (decide_eq_true h0) ⟨_, _, rfl, rfl, ?_⟩⟩⟩
    show Q (V.bl (decide (i ≤ 7))) H
    rw [decide_eq_true h1]
    exact q
end
end Bk

namespace Bk
open PySem PySem.Spec PyProof.Rows L2
theorem same_put {H H1 : Hp} {D : Addr} {o : HO} (h : Same H H1) (hD : H D = none) : Same H (upd H1 D o) := fun c u e => by
  rw [upd_ne (ne_of_none e hD)]
  exact h c u e
theorem inV_str (r : Str) : ∀ rs : List Str, inV (.str r) (rs.map V.str) = decide (r ∈ rs)
  | [] => rfl
  | a :: l => by
    have ih := inV_str r l
    have e : inV (.str r) ((a :: l).map V.str) = ((a == r) || inV (.str r) (l.map V.str)) := rfl
    rw [e, ih]
    by_cases h : a = r
    · subst h
      simp
    · have h' : (a == r) = false := by simpa using h
      have h2 : ¬ r = a := fun z => h z.symm
      rw [h', Bool.false_or]
      simp [h2]
theorem flat_strs : ∀ rs : List Str, (rs.map V.str).all flatV = true
  | [] => rfl
  | _ :: l => flat_strs l
theorem take_snoc {α : Type} {l : List α} {i : Nat} {x : α} (h : l[i]? = some x) : l.take (i + 1) = l.take i ++ [x] := by
  rw [List.take_add_one, h]
  rfl
theorem filt_yes {l : List Str} {i : Nat} {r : Str} {p : Str → Bool} (h : l[i]? = some r) (c : p r = true) : ((l.take (i + 1)).filter p).map V.str = ((l.take i).filter p).map V.str ++ [V.str r] := by
  rw [take_snoc h, List.filter_append, List.map_append]
  simp [c]
theorem filt_no {l : List Str} {i : Nat} {r : Str} {p : Str → Bool} (h : l[i]? = some r) (c : ¬ p r = true) : ((l.take (i + 1)).filter p).map V.str = ((l.take i).filter p).map V.str := by
  rw [take_snoc h, List.filter_append, List.map_append]
  simp [c]
theorem all_true : ∀ n : Nat, (List.replicate n true).all id = true
  | 0 => rfl
  | n + 1 => by
    show (true && (List.replicate n true).all id) = true
    rw [all_true n] <;> rfl
theorem rep_bl (n : Nat) : (List.replicate n true).map V.bl = List.replicate n (V.bl true) := by rw [List.map_replicate]
theorem rep_snoc (n : Nat) : List.replicate n (V.bl true) ++ [V.bl true] = List.replicate (n + 1) (V.bl true) := by
  rw [List.replicate_succ']
theorem dp_strs {K : PySem.W.Frag} {H : Hp} : ∀ rs : List Str, DpAll K H (rs.map V.str) (rs.map PyData.str)
  | [] => .nil
  | a :: l => .cons (.str a) (dp_strs l)
theorem lay_strs : ∀ rs : List Str, (∀ r ∈ rs, PyData.strOk r = true) → PyData.canLayAll0 (rs.map PyData.str) = true
  | [], _ => rfl
  | a :: l, h => by
    have ih := lay_strs l fun r hr => h r (List.mem_cons_of_mem _ hr)
    have ha := h a List.mem_cons_self
    show PyData.canLayAll0 (PyData.str a :: l.map PyData.str) = true
    simp [PyData.canLayAll0, PyData.canLay0, ih, ha]
theorem depth_strs : ∀ rs : List Str, PyData.depthAll (rs.map PyData.str) ≤ 1
  | [] => by simp [PyData.depthAll]
  | a :: l => by
    have ih := depth_strs l
    show PyData.depthAll (PyData.str a :: l.map PyData.str) ≤ 1
    simp [PyData.depthAll, PyData.depth]
    omega
theorem Rels.fine {rs : List Str} (h : Rels rs) : ∀ r ∈ rs, PyData.strOk r = true := fun r hr => by
  rw [h.1] at hr
  have h1 : r ∈ relations := (List.mem_filter.mp hr).1
  have h2 : relations.all PyData.strOk = true := by decide +kernel
  exact List.all_eq_true.mp h2 r h1
theorem shaped_strs {rs : List Str} (h : Rels rs) : SeqAt.shaped (.tuple (rs.map PyData.str)) = true := by
  have h1 := lay_strs rs h.fine
  have h2 := depth_strs rs
  simp [SeqAt.shaped, PyData.canLay0, PyData.depth, h1]
  omega
theorem eqv_strs {rs : List Str} (h : Rels rs) : PyData.eqv (.tuple (rs.map PyData.str)) (.tuple (rs.map PyData.str)) = true := SeqAt.eqv_refl _ (SeqAt.canLay_of_shaped (shaped_strs h))
theorem map_at {rs : List Str} {i : Nat} {x : V} (h : (rs.map V.str)[i]? = some x) : ∃ r, rs[i]? = some r ∧ x = .str r := by
  rw [List.getElem?_map] at h
  cases e : rs[i]? with
  | none =>
    rw [e] at h
    cases h
  | some r =>
    rw [e] at h
    exact ⟨r, rfl, (Option.some.inj h).symm⟩
theorem isEmpty_strs {rs : List Str} (h : rs ≠ []) : (rs.map V.str).isEmpty = false := by
  cases rs with
  | nil => exact absurd rfl h
  | cons a l => rfl
section
variable {P : Program} {w : World} {K : PySem.W.Frag} {mg : Str → Option Value} {base : Heap}
/-! ### is_allowed -/
def spAllowed : Sp := fun vs H Q _ => ∃ (t : Addr) (rs : List Str), vs = [.ref t] ∧ H t = some (.tup (rs.map V.str)) ∧ Rels rs ∧ ∀ H', Same H H' → Q (.bl true) H'
theorem scAllowed : FnScope ["value", "one"] ["value"] (defScope sIsAllowed) := ⟨rfl, rfl, rfl, by decide +kernel, rfl, by decide +kernel, by decide +kernel⟩
theorem ok_allowed {f aR : Addr} {fd : FuncData} (F : Fun K "is_allowed" "is_allowed" sIsAllowed f fd) (hm : mg "is_allowed" = some (.ref f)) (T : Bn mg) (mR : mg "RELATIONS" = some (.ref aR)) (hR : ∀ H : Hp, SqT K H aR (relations.map V.str)) :
    Gd P w K mg base CX0 1 "is_allowed" ["value"] spAllowed := by
  refine ⟨f, fd, hm, F.kp, F.binds fun _ _ _ _ _ _ us hl => match us, hl with | [_], _ => rfl, ?_⟩
  refine F.ok scAllowed (fun vs H Q E h => ?_) (fun cdv A outer s H vs Q E hr h => ?_)
  · obtain ⟨t, rs, rfl, _⟩ := h
    rfl
  · obtain ⟨t, rs, rfl, ht, hrs, k⟩ := h
    refine ⟨_, pss_cons (ps_if (PW.pt (pw_or (pt_not (pt_val (pe_callB call_isi (by rfl) T.isi (by decide +kernel) (pa_cons (pv 0) (pa_cons (pe_bltn (v := .ty "tuple") (by rfl) T.tuple (by decide +kernel) rfl) pa_nil)))))
        (pw_or (pt_not (pt_truth (pv 0) (by intro _; rfl)))
          (pw_or1 (pt_not (pt_val (pe_callB (cr_all rfl) (by rfl) T.all (by decide +kernel) (pa_cons
            (pe_lc (own := [("one", 1)]) (g := gName 1) (tt := tYes) (te := tCB (rIsi K) (tCons (tVar 1) (tCons (tC (.ty "str")) tNil))) rfl scAllowed.nd (pi_tup (pv 0)) (blkOk_by (N := ["value", "one"]) (sc := defScope sIsAllowed) (by decide +kernel)) (fun _ _ _ _ _ => pg_name (i := 1) scAllowed.nd rfl (Or.inl rfl)) (fun _ _ _ _ _ => pts_nil)
              (fun _ _ _ _ _ => pe_callB (id := "isinstance") call_isi (by rfl) T.isi (by decide +kernel) (pa_cons (pv 1) (pa_cons (pe_bltn (v := .ty "str") (by rfl) T.str (by decide +kernel) rfl) pa_nil)))) pa_nil))))))))
        pss_never pss_nil)
      (pss_one (ps_ret (pe_cmpR (op_eqD hr.units) (pv 0) (pe_callTy call_tuple_of (by rfl) T.tuple (by decide +kernel) (pa_cons
        (pe_lc (own := [("one", 1)]) (g := gName 1) (tt := tTest (tOp (rIn K false) (tVar 1) (tVar 0))) (te := tVar 1) rfl scAllowed.nd (pi_tup (pe_glob (v := .ref aR) rfl mR rfl)) (blkOk_by (N := ["value", "one"]) (sc := defScope sIsAllowed) (by decide +kernel)) (fun _ _ _ _ _ => pg_name (i := 1) scAllowed.nd rfl (Or.inl rfl))
          (fun _ _ _ _ _ => pts_one (pt_cmpR op_in_seq (pv 1) (pv 0) (by rfl))) (fun _ _ _ _ _ => pv 1)) pa_nil)) (nomark _)))), ?_⟩
    refine ⟨_, rfl, _, _, _, _, true, rfl, .ty _, .base (.tup ht), kit_ty (by decide +kernel), _, rfl, iteF ⟨_, rfl, _, .inr (.inl ⟨_, SqT.of ht, rfl⟩), if_f (by rw [isEmpty_strs hrs.2]; rfl) ?_⟩⟩
    refine ⟨_, rfl, t, rfl, ⟨_, SqT.of ht⟩, fun D hD => lc_tup (K := K) (a := t) (xs := rs.map V.str) (fun i H' => Same H H' ∧ H' D = some (.lst (List.replicate i (.bl true)))) ⟨same_new hD, upd_same⟩ (fun i H' _ p => SqT.of (p.1 _ _ ht)) (fun i x H' hi p => ?_) fun H1 p => ?_⟩
    · obtain ⟨r, _, rfl⟩ := map_at hi
      refine ⟨rfl, _, rfl, _, _, _, _, true, rfl, .ty _, .base (.str r), kit_ty (by decide +kernel), _, p.2, ?_, same_put p.1 hD, ?_⟩
      · have hlt : i < (rs.map V.str).length := (List.getElem?_eq_some_iff.mp hi).1
        rw [List.length_map] at hlt
        rw [List.length_replicate]
        exact Nat.lt_of_lt_of_le hlt (Nat.le_trans hrs.length (by decide))
      · rw [upd_same, rep_snoc]
    · refine ⟨D, List.replicate rs.length true, rfl, SqL.of (by rw [p.2, rep_bl, List.length_map]), _, rfl, if_f (by rw [all_true] <;> rfl) ?_⟩
      have ht1 := p.1 _ _ ht
      have s1 := p.1
      refine ⟨_, rfl, aR, rfl, ⟨_, hR _⟩, fun D2 hD2 => lc_tup (K := K) (a := aR) (xs := relations.map V.str) (fun i H' => Same H1 H' ∧ H' D2 = some (.lst (((relations.take i).filter fun r => decide (r ∈ rs)).map V.str))) ⟨same_new hD2, upd_same⟩ (fun i H' _ _ => hR H') (fun i x H' hi p2 => ?_) fun H2 p2 => ?_⟩
      · obtain ⟨r, hr1, rfl⟩ := map_at hi
        refine ⟨rfl, _, rfl, _, rfl, t, rs.map V.str, rfl, .inr (SqT.of (p2.1 _ _ ht1)), rfl, flat_strs rs, _, rfl, ?_⟩
        show if inV (.str r) (rs.map V.str) = true then _ else _
        rw [inV_str]
        refine ite2 (fun c => ?_) (fun c => ?_)
        · refine ⟨_, rfl, _, p2.2, ?_, same_put p2.1 hD2, ?_⟩
          · rw [List.length_map]
            exact Nat.lt_of_le_of_lt (List.length_filter_le _ _) (by rw [List.length_take]; exact Nat.lt_of_le_of_lt (Nat.min_le_right _ _) (by decide))
          · rw [upd_same, filt_yes (p := fun r => decide (r ∈ rs)) hr1 c]
        · refine ⟨p2.1, ?_⟩
          rw [p2.2, filt_no (p := fun r => decide (r ∈ rs)) hr1 c]
      · have e2 : H2 D2 = some (.lst (rs.map V.str)) := by
          rw [p2.2, List.length_map, List.take_length, ← hrs.1]
        refine ⟨D2, _, rfl, .inl ⟨SqL.of e2, fun l hl => ?_⟩⟩
        have s3 := (s1.trans p2.1).trans (same_new (o := .tup (rs.map V.str)) hl)
        refine ⟨.tuple (rs.map PyData.str), .tuple (rs.map PyData.str), .tup (SqT.of (s3 _ _ ht)) (dp_strs rs), .tup (SqT.of upd_same) (dp_strs rs), shaped_strs hrs, shaped_strs hrs, ?_⟩
        rw [eqv_strs hrs]
        exact k _ s3
end
end Bk

namespace Bk
open PySem PySem.Spec PyProof.Rows L2
section
variable {P : Program} {w : World} {K : PySem.W.Frag} {mg : Str → Option Value} {base : Heap}
/-! ### is_rule -/
def spIsRule : Sp := fun vs H Q _ => ∃ (v : V) (n : Int), vs = [v, .int n] ∧ RuleV H n v ∧ ∀ H', Same H H' → Q (.bl true) H'
theorem scIsRule : FnScope ["value", "size"] ["value", "size"] (defScope sIsRule) := ⟨rfl, rfl, rfl, by decide +kernel, rfl, by decide +kernel, by decide +kernel⟩
theorem ok_isRule {f : Addr} {fd : FuncData} (F : Fun K "is_rule" "is_rule" sIsRule f fd) (hm : mg "is_rule" = some (.ref f)) (T : Bn mg) (hT : Gd P w K mg base CX0 2 "is_task" ["value", "size"] spIsTask) (hA : Gd P w K mg base CX0 1 "is_allowed" ["value"] spAllowed) :
    Gd P w K mg base CX0 3 "is_rule" ["value", "size"] spIsRule := by
  obtain ⟨fT, fdT, mT, kT, bT, GT⟩ := hT.ex
  obtain ⟨fA, fdA, mA, kA, bA, GA⟩ := hA.ex
  refine ⟨f, fd, hm, F.kp, F.binds fun _ _ _ _ _ _ us hl => match us, hl with | [_, _], _ => rfl, ?_⟩
  refine F.ok scIsRule (fun vs H Q E h => ?_) (fun cdv A outer s H vs Q E hr h => ?_)
  · obtain ⟨v, n, rfl, _⟩ := h
    rfl
  · obtain ⟨v, n, rfl, ⟨p, t, a, b, rs, rfl, hp, ht, hrs, a0, a1, b0, b1, ab⟩, k⟩ := h
    refine ⟨_, pss_cons (ps_if (PW.pt (pw_or (pt_not (pt_val (pe_callB call_isi (by rfl) T.isi (by decide +kernel) (pa_cons (pv 0) (pa_cons (pe_bltn (v := .ty "tuple") (by rfl) T.tuple (by decide +kernel) rfl) pa_nil)))))
        (pw_or (pt_cmpR op_ne (pe_callB call_len_seq (by rfl) T.len PySem.boot_len (pa_cons (pv 0) pa_nil)) pe_int (nomark _))
        (pw_or (pt_not (pt_val (pe_call GT hr rfl mT kT bT .nil pass0 (pa_cons (pe_ix ix_tup (pv 0) pe_int (fun _ _ => rfl)) (pa_cons (pv 1) pa_nil)))))
        (pw_or1 (pt_not (pt_val (pe_call GT hr rfl mT kT bT .nil pass0 (pa_cons (pe_ix ix_tup (pv 0) pe_int (fun _ _ => rfl)) (pa_cons (pv 1) pa_nil))))))))))
        pss_never pss_nil)
      (pss_one (ps_ret (pe_and (pe_cmpR op_ne (pe_ix ix_tup (pv 0) pe_int (fun _ _ => rfl)) (pe_ix ix_tup (pv 0) pe_int (fun _ _ => rfl)) (nomark _))
        (pe_one (pe_call GA (hr.mono (by decide)) rfl mA kA bA .nil pass0 (pa_cons (pe_ix ix_tup (pv 0) pe_int (fun _ _ => rfl)) pa_nil)))))), ?_⟩
    refine ⟨_, rfl, _, _, _, _, true, rfl, .ty _, .base (.tup hp), kit_ty (by decide +kernel), _, rfl, iteF ?_⟩
    refine ⟨_, rfl, p, _, rfl, .inr (SqT.of hp), rfl, _, rfl, if_nf (decide_eq_true rfl) ?_⟩
    refine ⟨_, rfl, p, _, _, _, rfl, rfl, SqT.of hp, rfl, _, rfl, a, n, rfl, a0, a1, _, rfl, iteF ?_⟩
    refine ⟨_, rfl, p, _, _, _, rfl, rfl, SqT.of hp, rfl, _, rfl, b, n, rfl, b0, b1, _, rfl, iteF ?_⟩
    refine ⟨_, rfl, p, _, _, _, rfl, rfl, SqT.of hp, rfl, _, rfl, p, _, _, _, rfl, rfl, SqT.of hp, rfl, rfl, _, rfl, ?_⟩
    have ne : decide (V.int a = V.int b) = false := decide_eq_false fun e => ab (by injection e)
    refine if_t (by rw [ne]; rfl) ?_
    exact ⟨_, rfl, p, _, _, _, rfl, rfl, SqT.of hp, rfl, t, rs, rfl, ht, hrs, k⟩
/-! ### is_command -/
def spIsCmd : Sp := fun vs H Q _ => ∃ (p : Addr) (n : Int) (c : Cm), vs = [.ref p, .int n] ∧ CmdV H n p c ∧ ∀ H', Same H H' → Q (.bl true) H'
theorem scIsCmd : FnScope ["value", "size"] ["value", "size"] (defScope sIsCmd) := ⟨rfl, rfl, rfl, by decide +kernel, rfl, by decide +kernel, by decide +kernel⟩
theorem inV2 (n : Int) (h : n = 2 ∨ n = 3) : inV (.int n) [.int 2, .int 3] = true := by
  rcases h with rfl | rfl <;> decide
theorem ok_isCmd {f : Addr} {fd : FuncData} (F : Fun K "is_command" "is_command" sIsCmd f fd) (hm : mg "is_command" = some (.ref f)) (T : Bn mg) (hT : Gd P w K mg base CX0 2 "is_task" ["value", "size"] spIsTask) (hR : Gd P w K mg base CX0 3 "is_rule" ["value", "size"] spIsRule)
    (h20 : ∃ t, mg "MOST_RULES" = some (.int 20 t)) : Gd P w K mg base CX0 4 "is_command" ["value", "size"] spIsCmd := by
  obtain ⟨fT, fdT, mT, kT, bT, GT⟩ := hT.ex
  obtain ⟨fR, fdR, mR, kR, bR, GR⟩ := hR.ex
  obtain ⟨t20, m20⟩ := h20
  refine ⟨f, fd, hm, F.kp, F.binds fun _ _ _ _ _ _ us hl => match us, hl with | [_, _], _ => rfl, ?_⟩
  refine F.ok scIsCmd (fun vs H Q E h => ?_) (fun cdv A outer s H vs Q E hr h => ?_)
  · obtain ⟨p, n, c, rfl, _⟩ := h
    rfl
  · obtain ⟨p, n, c, rfl, hc, k⟩ := h
    have hr2 : Room 2 _ := hr.mono (by decide)
    refine ⟨_, pss_cons (ps_if (PW.pt (pw_or (pt_not (pt_val (pe_callB call_isi (by rfl) T.isi (by decide +kernel) (pa_cons (pv 0) (pa_cons (pe_bltn (v := .ty "tuple") (by rfl) T.tuple (by decide +kernel) rfl) pa_nil)))))
        (pw_or (pt_cmpR op_notIn_seq (pe_callB call_len_seq (by rfl) T.len PySem.boot_len (pa_cons (pv 0) pa_nil)) (pe_tup (pa_cons pe_int (pa_cons pe_int pa_nil))) (by rfl))
        (pw_or1 (pt_not (pt_val (pe_callB call_isi (by rfl) T.isi (by decide +kernel) (pa_cons (pe_ix ix_tup (pv 0) pe_int (fun _ _ => rfl)) (pa_cons (pe_bltn (v := .ty "str") (by rfl) T.str (by decide +kernel) rfl) pa_nil)))))))))
        pss_never pss_nil)
      (pss_cons (ps_if (pt_cmpR op_eq (pe_ix ix_tup (pv 0) pe_int (fun _ _ => rfl)) pe_str (nomark _))
        (pss_one (ps_ret (pe_and (pe_cmpR op_eq (pe_callB call_len_seq (by rfl) T.len PySem.boot_len (pa_cons (pv 0) pa_nil)) pe_int (nomark _)) (pe_one (pe_call GR hr rfl mR kR bR .nil pass0 (pa_cons (pe_ix ix_tup (pv 0) pe_int (fun _ _ => rfl)) (pa_cons (pv 1) pa_nil)))))))
        pss_nil)
      (pss_cons (ps_if (pt_not (pt_val (pe_call GT hr2 rfl mT kT bT .nil pass0 (pa_cons (pe_ix ix_tup (pv 0) pe_int (fun _ _ => rfl)) (pa_cons (pe_glob (v := .int 20) rfl m20 ⟨_, rfl⟩) pa_nil))))) pss_never pss_nil)
      (pss_cons (ps_if (pt_cmpR op_eq (pe_ix ix_tup (pv 0) pe_int (fun _ _ => rfl)) pe_str (nomark _))
        (pss_one (ps_ret (pe_and (pe_cmpR op_eq (pe_callB call_len_seq (by rfl) T.len PySem.boot_len (pa_cons (pv 0) pa_nil)) pe_int (nomark _)) (pe_one (pe_call GR hr rfl mR kR bR .nil pass0 (pa_cons (pe_ix ix_tup (pv 0) pe_int (fun _ _ => rfl)) (pa_cons (pv 1) pa_nil)))))))
        pss_nil)
      (pss_one (ps_ret (pe_and (pe_cmpR op_eq (pe_ix ix_tup (pv 0) pe_int (fun _ _ => rfl)) pe_str (nomark _)) (pe_one (pe_cmpR op_eq (pe_callB call_len_seq (by rfl) T.len PySem.boot_len (pa_cons (pv 0) pa_nil)) pe_int (nomark _))))))))), ?_⟩
    cases c with
    | add r =>
      obtain ⟨hp, hv⟩ := hc
      refine ⟨_, rfl, _, _, _, _, true, rfl, .ty _, .base (.tup hp), kit_ty (by decide +kernel), _, rfl, iteF ?_⟩
      refine ⟨_, rfl, p, _, rfl, .inr (SqT.of hp), (by show 2 ≤ sizeLine; decide), fun q hq => ?_⟩
      have s1 := same_new (o := .tup [.int 2, .int 3]) hq
      have hp1 := s1 _ _ hp
      refine ⟨q, _, rfl, .inr (SqT.of upd_same), rfl, rfl, _, rfl, if_nf (inV2 _ (.inl rfl)) ?_⟩
      refine ⟨_, rfl, p, _, _, _, rfl, rfl, SqT.of hp1, rfl, _, _, _, _, true, rfl, .ty _, .base (.str _), kit_ty (by decide +kernel), _, rfl, iteF ?_⟩
      refine ⟨_, rfl, p, _, _, _, rfl, rfl, SqT.of hp1, rfl, rfl, _, rfl, if_t (decide_eq_true rfl) ?_⟩
      refine ⟨_, rfl, p, _, rfl, .inr (SqT.of hp1), rfl, _, rfl, if_t (decide_eq_true rfl) ?_⟩
      exact ⟨_, rfl, p, _, _, _, rfl, rfl, SqT.of hp1, rfl, _, rfl, r, n, rfl, hv.kept (Tups.of_same s1), fun H' e => k H' (s1.trans e)⟩
    | drop i =>
      obtain ⟨hp, hi⟩ := hc
      refine ⟨_, rfl, _, _, _, _, true, rfl, .ty _, .base (.tup hp), kit_ty (by decide +kernel), _, rfl, iteF ?_⟩
      refine ⟨_, rfl, p, _, rfl, .inr (SqT.of hp), (by show 2 ≤ sizeLine; decide), fun q hq => ?_⟩
      have s1 := same_new (o := .tup [.int 2, .int 3]) hq
      have hp1 := s1 _ _ hp
      refine ⟨q, _, rfl, .inr (SqT.of upd_same), rfl, rfl, _, rfl, if_nf (inV2 _ (.inl rfl)) ?_⟩
      refine ⟨_, rfl, p, _, _, _, rfl, rfl, SqT.of hp1, rfl, _, _, _, _, true, rfl, .ty _, .base (.str _), kit_ty (by decide +kernel), _, rfl, iteF ?_⟩
      refine ⟨_, rfl, p, _, _, _, rfl, rfl, SqT.of hp1, rfl, rfl, _, rfl, if_f (by decide +kernel) ?_⟩
      refine ⟨_, rfl, p, _, _, _, rfl, rfl, SqT.of hp1, rfl, (i : Int), 20, rfl, by omega, by omega, _, rfl, iteF ?_⟩
      refine ⟨_, rfl, p, _, _, _, rfl, rfl, SqT.of hp1, rfl, rfl, _, rfl, if_f (by decide +kernel) ?_⟩
      refine ⟨_, rfl, p, _, _, _, rfl, rfl, SqT.of hp1, rfl, rfl, _, rfl, if_t (decide_eq_true rfl) ?_⟩
      refine ⟨_, rfl, p, _, rfl, .inr (SqT.of hp1), rfl, ?_⟩
      have e : decide (V.int (([V.str "drop", V.int (i : Int)].length : Nat) : Int) = V.int 2) = true := decide_eq_true rfl
      show Q (V.bl (decide (V.int (([V.str "drop", V.int (i : Int)].length : Nat) : Int) = V.int 2))) _
      rw [e]
      exact k _ s1
    | put i r =>
      obtain ⟨hp, hi, hv⟩ := hc
      refine ⟨_, rfl, _, _, _, _, true, rfl, .ty _, .base (.tup hp), kit_ty (by decide +kernel), _, rfl, iteF ?_⟩
      refine ⟨_, rfl, p, _, rfl, .inr (SqT.of hp), (by show 2 ≤ sizeLine; decide), fun q hq => ?_⟩
      have s1 := same_new (o := .tup [.int 2, .int 3]) hq
      have hp1 := s1 _ _ hp
      refine ⟨q, _, rfl, .inr (SqT.of upd_same), rfl, rfl, _, rfl, if_nf (inV2 _ (.inr rfl)) ?_⟩
      refine ⟨_, rfl, p, _, _, _, rfl, rfl, SqT.of hp1, rfl, _, _, _, _, true, rfl, .ty _, .base (.str _), kit_ty (by decide +kernel), _, rfl, iteF ?_⟩
      refine ⟨_, rfl, p, _, _, _, rfl, rfl, SqT.of hp1, rfl, rfl, _, rfl, if_f (by decide +kernel) ?_⟩
      refine ⟨_, rfl, p, _, _, _, rfl, rfl, SqT.of hp1, rfl, (i : Int), 20, rfl, by omega, by omega, _, rfl, iteF ?_⟩
      refine ⟨_, rfl, p, _, _, _, rfl, rfl, SqT.of hp1, rfl, rfl, _, rfl, if_t (decide_eq_true rfl) ?_⟩
      refine ⟨_, rfl, p, _, rfl, .inr (SqT.of hp1), rfl, _, rfl, if_t (decide_eq_true rfl) ?_⟩
      exact ⟨_, rfl, p, _, _, _, rfl, rfl, SqT.of hp1, rfl, _, rfl, r, n, rfl, hv.kept (Tups.of_same s1), fun H' e => k H' (s1.trans e)⟩
end
end Bk

namespace Bk
open PySem PySem.Spec PyProof.Rows L2
/-- what the written part says of NotPossible (at C) and its __init__ (at fI) -/
structure Np (K : PySem.W.Frag) (mg : Str → Option Value) (C fI : Addr) : Prop where
  oex : OexC K C
  mC : mg "NotPossible" = some (.ref C)
  no : PySem.W.findIn K (.ref C) "why" = some none
  iC : PySem.W.findIn K (.ref C) "__init__" = some (some (.ref fI))
  tI : PySem.W.typeIn K (.ref fI) = some (.type "function")
section
variable {P : Program} {w : World} {K : PySem.W.Frag} {mg : Str → Option Value} {base : Heap}
/-! ### NotPossible.__init__ -/
def spNp (K : PySem.W.Frag) (C : Addr) : Sp := fun vs H Q _ => ∃ (a : Addr) (v : V), vs = [.ref a, v] ∧ OexC K C ∧ PySem.W.findIn K (.ref C) "why" = some none ∧ H a = some (exo a C none) ∧
  ∀ dx, H dx = none → dx ≠ a → Q .non (upd (upd H dx (exd dx [("why", v)])) a (exo a C (some dx)))
theorem scNp : FnScope ["self", "why"] ["self", "why"] (defScope sNpInit) := ⟨rfl, rfl, rfl, by decide +kernel, rfl, by decide +kernel, by decide +kernel⟩
theorem ok_np {f C : Addr} {fd : FuncData} (F : Fun K "__init__" "NotPossible.__init__" sNpInit f fd) : FnOk P w K mg base CX0 1 f fd ["self", "why"] (spNp K C) := by
  refine F.ok scNp (fun vs H Q E h => ?_) (fun cdv A outer s H vs Q E hr h => ?_)
  · obtain ⟨a, v, rfl, _⟩ := h
    rfl
  · obtain ⟨a, v, rfl, T, no, ha, k⟩ := h
    refine ⟨_, pss_one (ps_ost (pv 0) (pv 1)), ?_⟩
    exact ⟨_, rfl, _, rfl, a, C, rfl, T, no, .inl ⟨ha, fun dx h n => k dx h n⟩⟩
/-- NotPossible(z) as its maker asks it -/
theorem np_make {C a : Addr} {H : Hp} {z : Str} {E E' : XK} (T : OexC K C) (no : PySem.W.findIn K (.ref C) "why" = some none) (ha : H a = none)
    (kE : ∀ (d : Addr) (H' : Hp), Same H H' → H' d = some (.xd [("why", .str z)]) → E (.ref C) (some d) H') :
    spNp K C [.ref a, .str z] (upd H a (exo a C none)) (fun v H2 => v = .non ∧ ∃ (d : Addr) (fs : List (Str × V)), H2 a = some (exo a C (some d)) ∧ H2 d = some (exd d fs) ∧ H d = none ∧ E (.ref C) (some d) (upd (del H2 a) d (.xd fs))) E' := by
  refine ⟨a, .str z, rfl, T, no, upd_same, fun dx hdx hne => ?_⟩
  have h0 : H dx = none := by
    rw [upd_ne hne] at hdx
    exact hdx
  refine ⟨rfl, dx, [("why", .str z)], upd_same, ?_, h0, kE dx _ (fun b o e => ?_) upd_same⟩
  · rw [upd_ne hne, upd_same]
  · have n1 := ne_of_none e h0
    have n2 := ne_of_none e ha
    rw [upd_ne n1, del_ne n2, upd_ne n2, upd_ne n1, upd_ne n2]
    exact e
/-! ### behind -/
def spBehind (C : Addr) : Sp := fun vs H Q E => ∃ (r p : Addr) (n : Int) (xs : List V) (c : Cm), vs = [.ref r, .ref p] ∧ H r = some (.tup xs) ∧ xs.length ≤ 100 ∧ CmdV H n p c ∧
  (poss xs c = true → ∀ (H' : Hp) (q : Addr), Same H H' → H' q = some (.tup (step xs c)) → Q (.ref q) H') ∧
  (poss xs c = false → ∀ (d : Addr) (H' : Hp), Same H H' → H' d = some (.xd [("why", .str (word c))]) → E (.ref C) (some d) H')
theorem scBehind : FnScope ["rules", "command", "at"] ["rules", "command"] (defScope sBehind) := ⟨rfl, rfl, rfl, by decide +kernel, rfl, by decide +kernel, by decide +kernel⟩
theorem ok_behind {f C fI : Addr} {fd fdI : FuncData} (F : Fun K "behind" "behind" sBehind f fd) (hm : mg "behind" = some (.ref f)) (T : Bn mg) (N : Np K mg C fI) (FI : Fun K "__init__" "NotPossible.__init__" sNpInit fI fdI) (h20 : ∃ t, mg "MOST_RULES" = some (.int 20 t)) :
    Gd P w K mg base (L2.CX P w) 3 "behind" ["rules", "command"] (spBehind C) := by
  have GI : FnOk P w K mg base CX0 1 fI fdI ["self", "why"] (spNp K C) := ok_np FI
  have bI : Binds K fdI ["self", "why"] [] := FI.binds fun _ _ _ _ _ _ us hl => match us, hl with | [_, _], _ => rfl
  obtain ⟨t20, m20⟩ := h20
  refine ⟨f, fd, hm, F.kp, F.binds fun _ _ _ _ _ _ us hl => match us, hl with | [_, _], _ => rfl, ?_⟩
  refine F.okX scBehind (fun vs H Q E h => ?_) (fun cdv A outer s H vs Q E hr h => ?_)
  · obtain ⟨r, p, n, xs, c, rfl, _⟩ := h
    rfl
  · obtain ⟨r, p, n, xs, c, rfl, hx, hz, hc, kQ, kE⟩ := h
    refine ⟨_, pss_cons (ps_if (pt_cmpR op_eq (pe_ix ix_tup (pv 1) pe_int (fun _ _ => rfl)) pe_str (nomark _))
        (pss_cons (ps_if (pt_cmpR op_ge (pe_callB call_len_seq (by rfl) T.len PySem.boot_len (pa_cons (pv 0) pa_nil)) (pe_glob (v := .int 20) rfl m20 ⟨_, rfl⟩) (nomark _))
            (pss_one (ps_raise rfl (takes_of rfl rfl rfl rfl) (pmk_oex N.oex N.iC N.tI GI hr bI .nil pass0 rfl N.mC (pa_cons pe_str pa_nil)))) pss_nil)
          (pss_one (ps_ret (pe_op op_catA (pv 0) (pe_tup (pa_cons (pe_ix ix_tup (pv 1) pe_int (fun _ _ => rfl)) pa_nil)))))) pss_nil)
      (pss_cons (ps_set (i := 2) scBehind.nd rfl (Or.inl rfl) (pe_ix ix_tup (pv 1) pe_int (fun _ _ => rfl)))
      (pss_cons (ps_if (pt_cmpR op_ge (pv 2) (pe_callB call_len_seq (by rfl) T.len PySem.boot_len (pa_cons (pv 0) pa_nil)) (nomark _))
          (pss_one (ps_raise rfl (takes_of rfl rfl rfl rfl) (pmk_oex N.oex N.iC N.tI GI hr bI .nil pass0 rfl N.mC (pa_cons pe_str pa_nil)))) pss_nil)
      (pss_one (ps_ret (pe_op op_catA (pe_op op_catA (pe_slice sl_tupA (pv 0) po_none (po_some (pv 2))) (pe_slice sl_tupA (pv 1) (po_some pe_int) po_none)) (pe_slice sl_tupA (pv 0) (po_some (pe_op op_add (pv 2) pe_int)) po_none)))))), ?_⟩
    cases c with
    | add v =>
      obtain ⟨hp, hv⟩ := hc
      refine ⟨_, rfl, p, _, _, _, rfl, rfl, SqT.of hp, rfl, rfl, _, rfl, if_t (decide_eq_true rfl) ?_⟩
      refine ⟨_, rfl, r, _, rfl, .inr (SqT.of hx), _, _, rfl, rfl, _, rfl, ?_⟩
      by_cases hc : xs.length < 20
      · refine if_f (decide_eq_false (by omega)) ?_
        refine ⟨_, rfl, _, rfl, p, _, _, _, rfl, rfl, SqT.of hp, rfl, (by show 1 ≤ sizeLine; decide), fun q hq => ?_⟩
        have s1 := same_new (o := .tup [v]) hq
        exact cat_any (K := K) (s1 _ _ hx) upd_same (by show xs.length + 1 ≤ 1000; omega) fun H' q' s2 e => kQ (decide_eq_true hc) H' q' (s1.trans s2) e
      · refine if_t (decide_eq_true (by omega)) ?_
        exact ⟨by show 1 ≤ 1000; decide, fun a ha => np_make N.oex N.no ha fun d H' s e => kE (decide_eq_false hc) d H' s e⟩
    | drop i =>
      obtain ⟨hp, hi⟩ := hc
      refine ⟨_, rfl, p, _, _, _, rfl, rfl, SqT.of hp, rfl, rfl, _, rfl, if_f (by decide +kernel) ?_⟩
      refine ⟨_, rfl, p, _, _, _, rfl, rfl, SqT.of hp, rfl, ?_⟩
      refine ⟨_, rfl, _, rfl, r, _, rfl, .inr (SqT.of hx), _, _, rfl, rfl, _, rfl, ?_⟩
      by_cases hc : i < xs.length
      · refine if_f (decide_eq_false (by omega)) ?_
        refine ⟨_, rfl, _, rfl, _, rfl, slice_any (K := K) hx fun H1 q1 s1 e1 => ?_⟩
        refine ⟨_, rfl, _, rfl, ?_⟩
        unfold tNoPart
        refine slice_any (K := K) (s1 _ _ hp) fun H2 q2 s2 e2 => ?_
        rw [cut_take xs i (by omega)] at e1
        refine cat_any (K := K) (s2 _ _ e1) e2 (by rw [List.length_take]; have := cutV_length [V.str "drop", V.int (i : Int)] (some 2) none; simp only [List.length_cons, List.length_nil] at this; omega) fun H3 q3 s3 e3 => ?_
        refine ⟨_, rfl, _, rfl, _, _, rfl, rfl, _, rfl, slice_any (K := K) (((s1.trans s2).trans s3) _ _ hx) fun H4 q4 s4 e4 => ?_⟩
        have e4' : cutV xs (some ((i : Int) + 1)) none = xs.drop (i + 1) := cut_drop xs (i + 1) (by omega)
        rw [e4'] at e4
        refine cat_any (K := K) (s4 _ _ e3) e4 (by rw [List.length_append, List.length_take, List.length_drop]; have := cutV_length [V.str "drop", V.int (i : Int)] (some 2) none; simp only [List.length_cons, List.length_nil] at this; omega) fun H5 q5 s5 e5 => ?_
        exact kQ (decide_eq_true hc) H5 q5 ((((s1.trans s2).trans s3).trans s4).trans s5) e5
      · refine if_t (decide_eq_true (by omega)) ?_
        exact ⟨by show 1 ≤ 1000; decide, fun a ha => np_make N.oex N.no ha fun d H' s e => kE (decide_eq_false hc) d H' s e⟩
    | put i v =>
      obtain ⟨hp, hi, hv⟩ := hc
      refine ⟨_, rfl, p, _, _, _, rfl, rfl, SqT.of hp, rfl, rfl, _, rfl, if_f (by decide +kernel) ?_⟩
      refine ⟨_, rfl, p, _, _, _, rfl, rfl, SqT.of hp, rfl, ?_⟩
      refine ⟨_, rfl, _, rfl, r, _, rfl, .inr (SqT.of hx), _, _, rfl, rfl, _, rfl, ?_⟩
      by_cases hc : i < xs.length
      · refine if_f (decide_eq_false (by omega)) ?_
        refine ⟨_, rfl, _, rfl, _, rfl, slice_any (K := K) hx fun H1 q1 s1 e1 => ?_⟩
        refine ⟨_, rfl, _, rfl, ?_⟩
        unfold tNoPart
        refine slice_any (K := K) (s1 _ _ hp) fun H2 q2 s2 e2 => ?_
        rw [cut_take xs i (by omega)] at e1
        refine cat_any (K := K) (s2 _ _ e1) e2 (by rw [List.length_take]; have := cutV_length [V.str "put", V.int (i : Int), v] (some 2) none; simp only [List.length_cons, List.length_nil] at this; omega) fun H3 q3 s3 e3 => ?_
        refine ⟨_, rfl, _, rfl, _, _, rfl, rfl, _, rfl, slice_any (K := K) (((s1.trans s2).trans s3) _ _ hx) fun H4 q4 s4 e4 => ?_⟩
        have e4' : cutV xs (some ((i : Int) + 1)) none = xs.drop (i + 1) := cut_drop xs (i + 1) (by omega)
        rw [e4'] at e4
        refine cat_any (K := K) (s4 _ _ e3) e4 (by rw [List.length_append, List.length_take, List.length_drop]; have := cutV_length [V.str "put", V.int (i : Int), v] (some 2) none; simp only [List.length_cons, List.length_nil] at this; omega) fun H5 q5 s5 e5 => ?_
        exact kQ (decide_eq_true hc) H5 q5 ((((s1.trans s2).trans s3).trans s4).trans s5) e5
      · refine if_t (decide_eq_true (by omega)) ?_
        exact ⟨by show 1 ≤ 1000; decide, fun a ha => np_make N.oex N.no ha fun d H' s e => kE (decide_eq_false hc) d H' s e⟩
end
end Bk

namespace Bk
open PySem PySem.Spec PyProof.Rows L2
section
variable {P : Program} {w : World} {K : PySem.W.Frag} {mg : Str → Option Value} {base : Heap}
/-! ### _law_behind: the law's own working out; asked for possible commands alone -/
def spLBehind : Sp := fun vs H Q _ => ∃ (r p : Addr) (n : Int) (xs : List V) (c : Cm), vs = [.ref r, .ref p] ∧ H r = some (.tup xs) ∧ xs.length ≤ 100 ∧ CmdV H n p c ∧ poss xs c = true ∧
  ∀ (H' : Hp) (q : Addr), Same H H' → H' q = some (.tup (step xs c)) → Q (.ref q) H'
theorem scLBehind : FnScope ["_law_rules", "_law_command_here"] ["_law_rules", "_law_command_here"] (defScope sLBehind) := ⟨rfl, rfl, rfl, by decide +kernel, rfl, by decide +kernel, by decide +kernel⟩
theorem ok_lbehind {f : Addr} {fd : FuncData} (F : Fun K "_law_behind" "_law_behind" sLBehind f fd) (hm : mg "_law_behind" = some (.ref f)) : Gd P w K mg base CX0 1 "_law_behind" ["_law_rules", "_law_command_here"] spLBehind := by
  refine ⟨f, fd, hm, F.kp, F.binds fun _ _ _ _ _ _ us hl => match us, hl with | [_, _], _ => rfl, ?_⟩
  refine F.ok scLBehind (fun vs H Q E h => ?_) (fun cdv A outer s H vs Q E hr h => ?_)
  · obtain ⟨r, p, n, xs, c, rfl, _⟩ := h
    rfl
  · obtain ⟨r, p, n, xs, c, rfl, hx, hz, hc, hps, kQ⟩ := h
    refine ⟨_, pss_cons (ps_if (pt_cmpR op_eq (pe_ix ix_tup (pv 1) pe_int (fun _ _ => rfl)) pe_str (nomark _))
        (pss_one (ps_ret (pe_op op_catA (pv 0) (pe_tup (pa_cons (pe_ix ix_tup (pv 1) pe_int (fun _ _ => rfl)) pa_nil))))) pss_nil)
      (pss_one (ps_ret (pe_op op_catA (pe_op op_catA (pe_slice sl_tupA (pv 0) po_none (po_some (pe_ix ix_tup (pv 1) pe_int (fun _ _ => rfl)))) (pe_slice sl_tupA (pv 1) (po_some pe_int) po_none))
        (pe_slice sl_tupA (pv 0) (po_some (pe_op op_add (pe_ix ix_tup (pv 1) pe_int (fun _ _ => rfl)) pe_int)) po_none)))), ?_⟩
    cases c with
    | add v =>
      obtain ⟨hp, hv⟩ := hc
      refine ⟨_, rfl, p, _, _, _, rfl, rfl, SqT.of hp, rfl, rfl, _, rfl, if_t (decide_eq_true rfl) ?_⟩
      refine ⟨_, rfl, _, rfl, p, _, _, _, rfl, rfl, SqT.of hp, rfl, (by show 1 ≤ sizeLine; decide), fun q hq => ?_⟩
      have s1 := same_new (o := .tup [v]) hq
      exact cat_any (K := K) (s1 _ _ hx) upd_same (by show xs.length + 1 ≤ 1000; omega) fun H' q' s2 e => kQ H' q' (s1.trans s2) e
    | drop i =>
      obtain ⟨hp, hi⟩ := hc
      have hc : i < xs.length := of_decide_eq_true hps
      refine ⟨_, rfl, p, _, _, _, rfl, rfl, SqT.of hp, rfl, rfl, _, rfl, if_f (by decide +kernel) ?_⟩
      refine ⟨_, rfl, _, rfl, p, _, _, _, rfl, rfl, SqT.of hp, rfl, _, rfl, slice_any (K := K) hx fun H1 q1 s1 e1 => ?_⟩
      refine ⟨_, rfl, _, rfl, ?_⟩
      unfold tNoPart
      refine slice_any (K := K) (s1 _ _ hp) fun H2 q2 s2 e2 => ?_
      rw [cut_take xs i (by omega)] at e1
      refine cat_any (K := K) (s2 _ _ e1) e2 (by rw [List.length_take]; have := cutV_length [V.str "drop", V.int (i : Int)] (some 2) none; simp only [List.length_cons, List.length_nil] at this; omega) fun H3 q3 s3 e3 => ?_
      have s03 := (s1.trans s2).trans s3
      refine ⟨_, rfl, _, rfl, p, _, _, _, rfl, rfl, SqT.of (s03 _ _ hp), rfl, _, _, rfl, rfl, _, rfl, slice_any (K := K) (s03 _ _ hx) fun H4 q4 s4 e4 => ?_⟩
      have e4' : cutV xs (some ((i : Int) + 1)) none = xs.drop (i + 1) := cut_drop xs (i + 1) (by omega)
      rw [e4'] at e4
      refine cat_any (K := K) (s4 _ _ e3) e4 (by rw [List.length_append, List.length_take, List.length_drop]; have := cutV_length [V.str "drop", V.int (i : Int)] (some 2) none; simp only [List.length_cons, List.length_nil] at this; omega) fun H5 q5 s5 e5 => ?_
      exact kQ H5 q5 ((s03.trans s4).trans s5) e5
    | put i v =>
      obtain ⟨hp, hi, hv⟩ := hc
      have hc : i < xs.length := of_decide_eq_true hps
      refine ⟨_, rfl, p, _, _, _, rfl, rfl, SqT.of hp, rfl, rfl, _, rfl, if_f (by decide +kernel) ?_⟩
      refine ⟨_, rfl, _, rfl, p, _, _, _, rfl, rfl, SqT.of hp, rfl, _, rfl, slice_any (K := K) hx fun H1 q1 s1 e1 => ?_⟩
      refine ⟨_, rfl, _, rfl, ?_⟩
      unfold tNoPart
      refine slice_any (K := K) (s1 _ _ hp) fun H2 q2 s2 e2 => ?_
      rw [cut_take xs i (by omega)] at e1
      refine cat_any (K := K) (s2 _ _ e1) e2 (by rw [List.length_take]; have := cutV_length [V.str "put", V.int (i : Int), v] (some 2) none; simp only [List.length_cons, List.length_nil] at this; omega) fun H3 q3 s3 e3 => ?_
      have s03 := (s1.trans s2).trans s3
      refine ⟨_, rfl, _, rfl, p, _, _, _, rfl, rfl, SqT.of (s03 _ _ hp), rfl, _, _, rfl, rfl, _, rfl, slice_any (K := K) (s03 _ _ hx) fun H4 q4 s4 e4 => ?_⟩
      have e4' : cutV xs (some ((i : Int) + 1)) none = xs.drop (i + 1) := cut_drop xs (i + 1) (by omega)
      rw [e4'] at e4
      refine cat_any (K := K) (s4 _ _ e3) e4 (by rw [List.length_append, List.length_take, List.length_drop]; have := cutV_length [V.str "put", V.int (i : Int), v] (some 2) none; simp only [List.length_cons, List.length_nil] at this; omega) fun H5 q5 s5 e5 => ?_
      exact kQ H5 q5 ((s03.trans s4).trans s5) e5
/-! ### _law_why_not -/
def spWhy : Sp := fun vs H Q _ => ∃ (r p : Addr) (n : Int) (xs : List V) (c : Cm), vs = [.ref r, .ref p] ∧ H r = some (.tup xs) ∧ CmdV H n p c ∧
  ∀ (H' : Hp), Same H H' → Q (.str (if poss xs c = true then "" else word c)) H'
theorem scWhy : FnScope ["_law_rules", "_law_command_here"] ["_law_rules", "_law_command_here"] (defScope sWhy) := ⟨rfl, rfl, rfl, by decide +kernel, rfl, by decide +kernel, by decide +kernel⟩
/-- [a, b][k] -/
theorem pick2 {a b : V} {k : Bool} : atI [a, b] (if k then 1 else 0) = some (if k then b else a) := by
  cases k <;> rfl
theorem ok_why {f : Addr} {fd : FuncData} (F : Fun K "_law_why_not" "_law_why_not" sWhy f fd) (hm : mg "_law_why_not" = some (.ref f)) (T : Bn mg) : Gd P w K mg base CX0 1 "_law_why_not" ["_law_rules", "_law_command_here"] spWhy := by
  refine ⟨f, fd, hm, F.kp, F.binds fun _ _ _ _ _ _ us hl => match us, hl with | [_, _], _ => rfl, ?_⟩
  refine F.ok scWhy (fun vs H Q E h => ?_) (fun cdv A outer s H vs Q E hr h => ?_)
  · obtain ⟨r, p, n, xs, c, rfl, _⟩ := h
    rfl
  · obtain ⟨r, p, n, xs, c, rfl, hx, hc, kQ⟩ := h
    refine ⟨_, pss_cons (ps_if (pt_cmpR op_eq (pe_ix ix_tup (pv 1) pe_int (fun _ _ => rfl)) pe_str (nomark _))
        (pss_one (ps_ret (pe_ix ix_list (pe_lst (pa_cons pe_str (pa_cons pe_str pa_nil)))
          (pe_callTy call_int1 (by rfl) T.int (by decide +kernel) (pa_cons (pe_cmpR op_ge (pe_callB call_len_seq (by rfl) T.len PySem.boot_len (pa_cons (pv 0) pa_nil)) pe_int (nomark _)) pa_nil)) (fun _ _ => rfl)))) pss_nil)
      (pss_one (ps_ret (pe_ix ix_list (pe_lst (pa_cons pe_str (pa_cons pe_str pa_nil)))
          (pe_callTy call_int1 (by rfl) T.int (by decide +kernel) (pa_cons (pe_cmpR op_lt (pe_ix ix_tup (pv 1) pe_int (fun _ _ => rfl)) (pe_callB call_len_seq (by rfl) T.len PySem.boot_len (pa_cons (pv 0) pa_nil)) (nomark _)) pa_nil)) (fun _ _ => rfl)))), ?_⟩
    cases c with
    | add v =>
      obtain ⟨hp, hv⟩ := hc
      refine ⟨_, rfl, p, _, _, _, rfl, rfl, SqT.of hp, rfl, rfl, _, rfl, if_t (decide_eq_true rfl) ?_⟩
      refine ⟨(by show 2 ≤ sizeLine; decide), fun l hl => ?_⟩
      have s1 := same_new (o := .lst [.str "", .str "many"]) hl
      refine ⟨_, rfl, r, _, rfl, .inr (SqT.of (s1 _ _ hx)), _, _, rfl, rfl, .inr ⟨_, rfl, l, _, _, _, rfl, rfl, SqL.of upd_same, pick2, ?_⟩⟩
      have e : (if decide ((20 : Int) ≤ ((xs.length : Nat) : Int)) = true then V.str "many" else V.str "") = V.str (if poss xs (.add v) = true then "" else word (.add v)) := by
        by_cases c : xs.length < 20
        · rw [if_pos (show poss xs (.add v) = true from decide_eq_true c), decide_eq_false (by omega)] <;> rfl
        · rw [if_neg (show ¬ poss xs (.add v) = true from fun z => c (of_decide_eq_true z)), decide_eq_true (by omega)] <;> rfl
      show Q (if decide ((20 : Int) ≤ ((xs.length : Nat) : Int)) = true then V.str "many" else V.str "") _
      rw [e]
      exact kQ _ s1
    | drop i =>
      obtain ⟨hp, hi⟩ := hc
      refine ⟨_, rfl, p, _, _, _, rfl, rfl, SqT.of hp, rfl, rfl, _, rfl, if_f (by decide +kernel) ?_⟩
      refine ⟨(by show 2 ≤ sizeLine; decide), fun l hl => ?_⟩
      have s1 := same_new (o := .lst [.str "missing", .str ""]) hl
      refine ⟨_, rfl, p, _, _, _, rfl, rfl, SqT.of (s1 _ _ hp), rfl, _, rfl, r, _, rfl, .inr (SqT.of (s1 _ _ hx)), _, _, rfl, rfl, .inr ⟨_, rfl, l, _, _, _, rfl, rfl, SqL.of upd_same, pick2, ?_⟩⟩
      have e : (if decide ((i : Int) < ((xs.length : Nat) : Int)) = true then V.str "" else V.str "missing") = V.str (if poss xs (.drop i) = true then "" else word (.drop i)) := by
        by_cases c : i < xs.length
        · rw [if_pos (show poss xs (.drop i) = true from decide_eq_true c), decide_eq_true (by omega)] <;> rfl
        · rw [if_neg (show ¬ poss xs (.drop i) = true from fun z => c (of_decide_eq_true z)), decide_eq_false (by omega)] <;> rfl
      show Q (if decide ((i : Int) < ((xs.length : Nat) : Int)) = true then V.str "" else V.str "missing") _
      rw [e]
      exact kQ _ s1
    | put i v =>
      obtain ⟨hp, hi, hv⟩ := hc
      refine ⟨_, rfl, p, _, _, _, rfl, rfl, SqT.of hp, rfl, rfl, _, rfl, if_f (by decide +kernel) ?_⟩
      refine ⟨(by show 2 ≤ sizeLine; decide), fun l hl => ?_⟩
      have s1 := same_new (o := .lst [.str "missing", .str ""]) hl
      refine ⟨_, rfl, p, _, _, _, rfl, rfl, SqT.of (s1 _ _ hp), rfl, _, rfl, r, _, rfl, .inr (SqT.of (s1 _ _ hx)), _, _, rfl, rfl, .inr ⟨_, rfl, l, _, _, _, rfl, rfl, SqL.of upd_same, pick2, ?_⟩⟩
      have e : (if decide ((i : Int) < ((xs.length : Nat) : Int)) = true then V.str "" else V.str "missing") = V.str (if poss xs (.put i v) = true then "" else word (.put i v)) := by
        by_cases c : i < xs.length
        · rw [if_pos (show poss xs (.put i v) = true from decide_eq_true c), decide_eq_true (by omega)] <;> rfl
        · rw [if_neg (show ¬ poss xs (.put i v) = true from fun z => c (of_decide_eq_true z)), decide_eq_false (by omega)] <;> rfl
      show Q (if decide ((i : Int) < ((xs.length : Nat) : Int)) = true then V.str "" else V.str "missing") _
      rw [e]
      exact kQ _ s1
end
end Bk

namespace Bk
open PySem PySem.Spec PyProof.Rows L2
/-! ### a book in the heap -/
theorem lk_here {k : Str} {v : V} {r : List (Str × V)} : List.lookup k ((k, v) :: r) = some v := by
  have e : (k == k) = true := beq_self_eq_true k
  simp only [List.lookup, e]
theorem lk_past {k g : Str} {v : V} {r : List (Str × V)} (h : (k == g) = false) : List.lookup k ((g, v) :: r) = List.lookup k r := by
  simp only [List.lookup, h]
theorem put_here {f : Str} {v x : V} {r : List (Str × V)} : putF f v ((f, x) :: r) = (f, v) :: r := if_pos rfl
theorem put_past {f g : Str} {v x : V} {r : List (Str × V)} (h : ¬ g = f) : putF f v ((g, x) :: r) = (g, x) :: putF f v r := if_neg h
def bf (n : Int) (ls cm : Addr) : List (Str × V) := [("size", .int n), ("states", .ref ls), ("commands", .ref cm)]
theorem bf_size (n : Int) (ls cm : Addr) : (bf n ls cm).lookup ("size" : Str) = some (.int n) := lk_here
theorem bf_states (n : Int) (ls cm : Addr) : (bf n ls cm).lookup ("states" : Str) = some (.ref ls) := (lk_past (by decide +kernel)).trans lk_here
theorem bf_commands (n : Int) (ls cm : Addr) : (bf n ls cm).lookup ("commands" : Str) = some (.ref cm) := (lk_past (by decide +kernel)).trans ((lk_past (by decide +kernel)).trans lk_here)
theorem bf_no {m : Str} (n : Int) (ls cm : Addr) (h1 : (m == ("size" : Str)) = false) (h2 : (m == ("states" : Str)) = false) (h3 : (m == ("commands" : Str)) = false) : (bf n ls cm).lookup m = none :=
  (lk_past h1).trans ((lk_past h2).trans ((lk_past h3).trans rfl))
theorem bf_put (n : Int) (ls cm c2 : Addr) : putF "commands" (.ref c2) (bf n ls cm) = bf n ls c2 := (put_past (by decide +kernel)).trans (congrArg _ ((put_past (by decide +kernel)).trans (congrArg _ put_here)))
theorem bf_new (n : Int) (ls cm : Addr) : putF "commands" (.ref cm) (putF "states" (.ref ls) (putF "size" (.int n) [])) = bf n ls cm := by
  have e1 : putF ("size" : Str) (V.int n) [] = [(("size" : Str), V.int n)] := rfl
  have e2 : putF ("states" : Str) (V.ref ls) [(("size" : Str), V.int n)] = [(("size" : Str), V.int n), (("states" : Str), V.ref ls)] := (put_past (by decide +kernel)).trans rfl
  rw [e1, e2]
  exact (put_past (by decide +kernel)).trans (congrArg _ ((put_past (by decide +kernel)).trans rfl))
/-- at b a book of n tasks: its states in the list ls, the last one a tuple of xs; its commands a tuple of cs -/
def BookAt (B : Addr) (H : Hp) (b ls : Addr) (n : Int) (xs cs : List V) : Prop := ∃ (dx cm r : Addr) (sts : List V),
  H b = some (.ins B dx (bf n ls cm)) ∧ H ls = some (.lst (sts ++ [.ref r])) ∧ H r = some (.tup xs) ∧ H cm = some (.tup cs) ∧ sts.length = cs.length
theorem BookAt.kept {B b ls : Addr} {H H1 : Hp} {n : Int} {xs cs : List V} {m : Addr → Prop} (k : Kp m H H1) (nb : ¬ m b) (nl : ¬ m ls) (t : Tups H H1) (h : BookAt B H b ls n xs cs) : BookAt B H1 b ls n xs cs := by
  obtain ⟨dx, cm, r, sts, h1, h2, h3, h4, h5⟩ := h
  exact ⟨dx, cm, r, sts, k _ _ nb h1, k _ _ nl h2, t _ _ h3, t _ _ h4, h5⟩
theorem BookAt.same {B b ls : Addr} {H H1 : Hp} {n : Int} {xs cs : List V} (k : Same H H1) (h : BookAt B H b ls n xs cs) : BookAt B H1 b ls n xs cs :=
  h.kept (m := fun _ => False) (Kp.same k) (fun z => z) (fun z => z) (Tups.of_same k)
/-- a book and its list of states are no tuples -/
theorem BookAt.noTup {B b ls : Addr} {H : Hp} {n : Int} {xs cs : List V} (h : BookAt B H b ls n xs cs) : ∀ c, (c = b ∨ c = ls) → ∀ ys, H c ≠ some (.tup ys) := by
  obtain ⟨dx, cm, r, sts, h1, h2, _⟩ := h
  intro c hc ys e
  rcases hc with rfl | rfl
  · rw [h1] at e
    cases e
  · rw [h2] at e
    cases e
/-- what the written part says of Book (at B) -/
structure Bo (K : PySem.W.Frag) (mg : Str → Option Value) (B : Addr) : Prop where
  cl : Cls K B
  mB : mg "Book" = some (.ref B)
  nSize : NoAttr K B "size"
  nStates : NoAttr K B "states"
  nCommands : NoAttr K B "commands"
section
variable {P : Program} {w : World} {K : PySem.W.Frag} {mg : Str → Option Value} {base : Heap}
/-! ### Book.__init__ -/
def spBInit (B : Addr) : Sp := fun vs H Q _ => ∃ (x dx : Addr) (n : Int), vs = [.ref x, .int n] ∧ 1 ≤ n ∧ n ≤ 7 ∧ H x = some (.ins B dx []) ∧
  ∀ (H' : Hp) (ls : Addr), Kp (fun a => a = x) H H' → H ls = none → BookAt B H' x ls n [] [] → Q .non H'
theorem scBInit : FnScope ["self", "size"] ["self", "size"] (defScope sBInit) := ⟨rfl, rfl, rfl, by decide +kernel, rfl, by decide +kernel, by decide +kernel⟩
theorem ok_binit {f B : Addr} {fd : FuncData} (F : Fun K "__init__" "Book.__init__" sBInit f fd) (O : Bo K mg B) (hS : Gd P w K mg base CX0 2 "is_size" ["value"] spIsSize) : FnOk P w K mg base CX0 3 f fd ["self", "size"] (spBInit B) := by
  obtain ⟨fS, fdS, mS, kS, bS, GS⟩ := hS.ex
  refine F.ok scBInit (fun vs H Q E h => ?_) (fun cdv A outer s H vs Q E hr h => ?_)
  · obtain ⟨x, dx, n, rfl, _⟩ := h
    rfl
  · obtain ⟨x, dx, n, rfl, n0, n1, hx, k⟩ := h
    refine ⟨_, pss_cons (ps_if (pt_not (pt_val (pe_call GS hr rfl mS kS bS .nil pass0 (pa_cons (pv 1) pa_nil)))) pss_never pss_nil)
      (pss_cons (ps_fld (pv 0) (pv 1) rfl)
      (pss_cons (ps_fld (pv 0) (pe_lst (pa_cons (pe_tup pa_nil) pa_nil)) rfl)
      (pss_one (ps_fld (pv 0) (pe_tup pa_nil) rfl)))), ?_⟩
    refine ⟨_, rfl, n, rfl, n0, n1, _, rfl, iteF ?_⟩
    refine ⟨_, rfl, _, rfl, x, B, dx, _, rfl, hx, O.cl, O.nSize, (by show 0 < 1000; decide), ?_⟩
    refine ⟨Nat.zero_le _, fun r hr0 => ⟨(by show 1 ≤ sizeLine; decide), fun ls hls => ?_⟩⟩
    have nrx : x ≠ r := fun e => by
      rw [← e, upd_same] at hr0
      cases hr0
    have nlr : ls ≠ r := fun e => by
      rw [e, upd_same] at hls
      cases hls
    have nlx : x ≠ ls := fun e => by
      rw [← e, upd_ne nrx, upd_same] at hls
      cases hls
    have hl0 : H ls = none := by
      rw [upd_ne nlr, upd_ne (Ne.symm nlx)] at hls
      exact hls
    refine ⟨_, rfl, x, B, dx, _, rfl, by rw [upd_ne nlx, upd_ne nrx, upd_same], O.cl, O.nStates, (by show 1 < 1000; decide), ?_⟩
    refine ⟨Nat.zero_le _, fun cm hcm => ?_⟩
    have ncx : x ≠ cm := fun e => by
      rw [← e, upd_same] at hcm
      cases hcm
    have hcm1 := hcm
    rw [upd_ne (Ne.symm ncx)] at hcm1
    have ncl : ls ≠ cm := fun e => by
      rw [← e, upd_same] at hcm1
      cases hcm1
    rw [upd_ne (Ne.symm ncl)] at hcm1
    have ncr : r ≠ cm := fun e => by
      rw [← e, upd_same] at hcm1
      cases hcm1
    refine ⟨_, rfl, x, B, dx, _, rfl, by rw [upd_ne ncx, upd_same], O.cl, O.nCommands, (by show 2 < 1000; decide), ?_⟩
    have hr1 : H r = none := by
      rw [upd_ne (Ne.symm nrx)] at hr0
      exact hr0
    have hc1 : H cm = none := by
      rw [upd_ne (Ne.symm ncr), upd_ne (Ne.symm ncx)] at hcm1
      exact hcm1
    refine k _ ls (fun a o na e => ?_) hl0 ⟨dx, cm, r, [], ?_, ?_, ?_, ?_, rfl⟩
    · rw [upd_ne na, upd_ne (ne_of_none e hc1), upd_ne na, upd_ne (ne_of_none e hl0), upd_ne (ne_of_none e hr1), upd_ne na]
      exact e
    · rw [upd_same, bf_new]
    · rw [upd_ne (Ne.symm nlx), upd_ne ncl, upd_ne (Ne.symm nlx), upd_same] <;> rfl
    · rw [upd_ne (Ne.symm nrx), upd_ne ncr, upd_ne (Ne.symm nrx), upd_ne (Ne.symm nlr), upd_same]
    · rw [upd_ne (Ne.symm ncx), upd_same]
/-! ### Book.problem, Book.journal -/
def spProblem (B : Addr) : Sp := fun vs H Q _ => ∃ (b ls : Addr) (n : Int) (xs cs : List V), vs = [.ref b] ∧ BookAt B H b ls n xs cs ∧
  ∀ (H' : Hp) (q r : Addr), Same H H' → H' q = some (.tup [.int n, .ref r]) → H' r = some (.tup xs) → Q (.ref q) H'
theorem scProblem : FnScope ["self"] ["self"] (defScope sProblem) := ⟨rfl, rfl, rfl, by decide +kernel, rfl, by decide +kernel, by decide +kernel⟩
theorem ok_problem {f B : Addr} {fd : FuncData} (F : Fun K "problem" "Book.problem" sProblem f fd) (O : Bo K mg B) : FnOk P w K mg base CX0 1 f fd ["self"] (spProblem B) := by
  refine F.ok scProblem (fun vs H Q E h => ?_) (fun cdv A outer s H vs Q E hr h => ?_)
  · obtain ⟨b, ls, n, xs, cs, rfl, _⟩ := h
    rfl
  · obtain ⟨b, ls, n, xs, cs, rfl, ⟨dx, cm, r, sts, h1, h2, h3, h4, h5⟩, k⟩ := h
    refine ⟨_, pss_one (ps_ret (pe_tup (pa_cons (pe_fld (pv 0) rfl) (pa_cons (pe_ix ix_list (pe_fld (pv 0) rfl) (pe_un un_neg pe_int) (fun _ _ => rfl)) pa_nil)))), ?_⟩
    refine ⟨_, rfl, b, B, dx, _, _, rfl, h1, O.cl, O.nSize, bf_size _ _ _, _, rfl, b, B, dx, _, _, rfl, h1, O.cl, O.nStates, bf_states _ _ _, _, rfl, ls, _, _, _, rfl, rfl, SqL.of h2, atI_last _ _, (by show 2 ≤ sizeLine; decide), fun q hq => ?_⟩
    have s1 := same_new (o := .tup [.int n, .ref r]) hq
    exact k _ q r s1 upd_same (s1 _ _ h3)
def spJournal (B : Addr) : Sp := fun vs H Q _ => ∃ (b ls : Addr) (n : Int) (xs cs : List V), vs = [.ref b] ∧ BookAt B H b ls n xs cs ∧ ∀ q : Addr, H q = some (.tup cs) → Q (.ref q) H
theorem scJournal : FnScope ["self"] ["self"] (defScope sJournal) := ⟨rfl, rfl, rfl, by decide +kernel, rfl, by decide +kernel, by decide +kernel⟩
theorem ok_journal {f B : Addr} {fd : FuncData} (F : Fun K "journal" "Book.journal" sJournal f fd) (O : Bo K mg B) : FnOk P w K mg base CX0 1 f fd ["self"] (spJournal B) := by
  refine F.ok scJournal (fun vs H Q E h => ?_) (fun cdv A outer s H vs Q E hr h => ?_)
  · obtain ⟨b, ls, n, xs, cs, rfl, _⟩ := h
    rfl
  · obtain ⟨b, ls, n, xs, cs, rfl, ⟨dx, cm, r, sts, h1, h2, h3, h4, h5⟩, k⟩ := h
    refine ⟨_, pss_one (ps_ret (pe_fld (pv 0) rfl)), ?_⟩
    exact ⟨_, rfl, b, B, dx, _, _, rfl, h1, O.cl, O.nCommands, bf_commands _ _ _, k cm h4⟩
/-! ### Book.act -/
def spAct (B C : Addr) : Sp := fun vs H Q E => ∃ (b ls p : Addr) (n : Int) (xs cs : List V) (c : Cm), vs = [.ref b, .ref p] ∧ BookAt B H b ls n xs cs ∧ CmdV H n p c ∧ xs.length ≤ 100 ∧ cs.length < 20 ∧
  (poss xs c = true → ∀ H' : Hp, Kp (fun a => a = b ∨ a = ls) H H' → BookAt B H' b ls n (step xs c) (cs ++ [.ref p]) → Q (.int ((cs.length + 1 : Nat) : Int)) H') ∧
  (poss xs c = false → ∀ (d : Addr) (H' : Hp), Same H H' → H' d = some (.xd [("why", .str (word c))]) → E (.ref C) (some d) H')
theorem scAct : FnScope ["self", "command", "rules"] ["self", "command"] (defScope sAct) := ⟨rfl, rfl, rfl, by decide +kernel, rfl, by decide +kernel, by decide +kernel⟩
theorem ok_act {f B C : Addr} {fd : FuncData} (F : Fun K "act" "Book.act" sAct f fd) (T : Bn mg) (O : Bo K mg B) (hC : Gd P w K mg base CX0 4 "is_command" ["value", "size"] spIsCmd) (hB : Gd P w K mg base (L2.CX P w) 3 "behind" ["rules", "command"] (spBehind C))
    (h20 : ∃ t, mg "MOST_COMMANDS" = some (.int 20 t)) : FnOk P w K mg base (L2.CX P w) 5 f fd ["self", "command"] (spAct B C) := by
  obtain ⟨fC, fdC, mC, kC, bC, GC⟩ := hC.ex
  obtain ⟨fB, fdB, mB, kB, bB, GB⟩ := hB.ex
  obtain ⟨t20, m20⟩ := h20
  refine F.okX scAct (fun vs H Q E h => ?_) (fun cdv A outer s H vs Q E hr h => ?_)
  · obtain ⟨b, ls, p, n, xs, cs, c, rfl, _⟩ := h
    rfl
  · obtain ⟨b, ls, p, n, xs, cs, c, rfl, ⟨dx, cm, r, sts, h1, h2, h3, h4, h5⟩, hc, hz, hn, kQ, kE⟩ := h
    have hr3 : Room 3 _ := hr.mono (by decide)
    refine ⟨_, pss_cons (ps_if (pt_not (pt_val (pe_call GC hr rfl mC kC bC .nil pass0 (pa_cons (pv 1) (pa_cons (pe_fld (pv 0) rfl) pa_nil))))) pss_never pss_nil)
      (pss_cons (ps_set (i := 2) scAct.nd rfl (Or.inl rfl) (pe_call (E := E) GB hr3 rfl mB kB bB .nil (passes_call (takes_of rfl rfl rfl rfl) fun _ _ _ _ z => z) (pa_cons (pe_ix ix_list (pe_fld (pv 0) rfl) (pe_un un_neg pe_int) (fun _ _ => rfl)) (pa_cons (pv 1) pa_nil))))
      (pss_cons (ps_if (pt_cmpR op_ge (pe_callB call_len_seq (by rfl) T.len PySem.boot_len (pa_cons (pe_fld (pv 0) rfl) pa_nil)) (pe_glob (v := .int 20) rfl m20 ⟨_, rfl⟩) (nomark _)) pss_never pss_nil)
      (pss_cons (ps_expr (pe_bm PySem.F.plainAttrs_list PySem.F.slot_list_append PySem.F.type_list_append mt_append (pe_fld (pv 0) rfl) (pa_cons (pv 2) pa_nil)))
      (pss_cons (ps_fld (pv 0) (pe_op op_catA (pe_fld (pv 0) rfl) (pe_tup (pa_cons (pv 1) pa_nil))) rfl)
      (pss_one (ps_ret (pe_callB call_len_seq (by rfl) T.len PySem.boot_len (pa_cons (pe_fld (pv 0) rfl) pa_nil)))))))), ?_⟩
    refine ⟨_, rfl, _, rfl, b, B, dx, _, _, rfl, h1, O.cl, O.nSize, bf_size _ _ _, p, n, c, rfl, hc, fun H1 s1 => ⟨_, rfl, iteF ?_⟩⟩
    refine ⟨_, rfl, b, B, dx, _, _, rfl, s1 _ _ h1, O.cl, O.nStates, bf_states _ _ _, _, rfl, ls, _, _, _, rfl, rfl, SqL.of (s1 _ _ h2), atI_last _ _, _, rfl, ?_⟩
    refine ⟨r, p, n, xs, c, rfl, s1 _ _ h3, hz, hc.kept (Tups.of_same s1), fun hp H2 q s2 e2 => ?_, fun hp d H2 s2 e2 => kE hp d H2 (s1.trans s2) e2⟩
    have s12 := s1.trans s2
    refine ⟨_, rfl, b, B, dx, _, _, rfl, s12 _ _ h1, O.cl, O.nCommands, bf_commands _ _ _, cm, _, rfl, .inr (SqT.of (s12 _ _ h4)), _, _, rfl, rfl, _, rfl, if_f (decide_eq_false (by omega)) ?_⟩
    refine ⟨_, rfl, b, B, dx, _, _, rfl, s12 _ _ h1, O.cl, O.nStates, bf_states _ _ _, .inl ⟨rfl, _, SqL.of (s12 _ _ h2)⟩, _, rfl, ls, _, _, rfl, rfl, s12 _ _ h2, (by rw [List.length_append, h5]; show cs.length + 1 < sizeLine; exact Nat.lt_of_lt_of_le (Nat.succ_lt_succ hn) (by decide)), ?_⟩
    have nbl : b ≠ ls := ne_of h1 h2 (by intro z; cases z)
    have ncl : cm ≠ ls := ne_of h4 h2 (by intro z; cases z)
    have ncb : cm ≠ b := ne_of h4 h1 (by intro z; cases z)
    have hb3 : upd H2 ls (.lst (sts ++ [V.ref r] ++ [V.ref q])) b = some (.ins B dx (bf n ls cm)) := by
      rw [upd_ne nbl]
      exact s12 _ _ h1
    have hc3 : upd H2 ls (.lst (sts ++ [V.ref r] ++ [V.ref q])) cm = some (.tup cs) := by
      rw [upd_ne ncl]
      exact s12 _ _ h4
    have hq3 : upd H2 ls (.lst (sts ++ [V.ref r] ++ [V.ref q])) q = some (.tup (step xs c)) := by
      rw [upd_ne (ne_of e2 (s12 _ _ h2) (by intro z; cases z))]
      exact e2
    refine ⟨_, rfl, b, B, dx, _, _, rfl, hb3, O.cl, O.nCommands, bf_commands _ _ _, _, rfl, (by show 1 ≤ sizeLine; decide), fun t ht => ?_⟩
    have s4 := same_new (o := .tup [.ref p]) ht
    refine cat_any (K := K) (s4 _ _ hc3) upd_same (by show cs.length + 1 ≤ 1000; omega) fun H5 q5 s5 e5 => ?_
    have s45 := s4.trans s5
    have hb5 := s45 _ _ hb3
    refine ⟨_, rfl, b, B, dx, _, rfl, hb5, O.cl, O.nCommands, (by show 3 < 1000; decide), ?_⟩
    rw [bf_put]
    have n5b : q5 ≠ b := ne_of e5 hb5 (by intro z; cases z)
    have e6 : upd H5 b (.ins B dx (bf n ls q5)) q5 = some (.tup (cs ++ [V.ref p])) := by
      rw [upd_ne n5b]
      exact e5
    refine ⟨_, rfl, b, B, dx, _, _, rfl, upd_same, O.cl, O.nCommands, bf_commands _ _ _, q5, _, rfl, .inr (SqT.of e6), ?_⟩
    have el : (((cs ++ [V.ref p]).length : Nat) : Int) = ((cs.length + 1 : Nat) : Int) := by simp
    show Q (V.int (((cs ++ [V.ref p]).length : Nat) : Int)) _
    rw [el]
    have hq5 := s45 _ _ hq3
    refine kQ hp _ ?_ ⟨dx, q5, q, sts ++ [V.ref r], upd_same, ?_, ?_, e6, ?_⟩
    · exact ((((Kp.same s12).trans (Kp.put (.inr rfl))).trans (Kp.same s45)).trans (Kp.put (.inl rfl)))
    · rw [upd_ne (Ne.symm nbl)]
      exact s45 _ _ upd_same
    · rw [upd_ne (ne_of hq5 hb5 (by intro z; cases z))]
      exact hq5
    · rw [List.length_append, List.length_append, h5]
      rfl
end
end Bk

namespace Bk
open PySem PySem.Spec PyProof.Rows L2
/-- the stream of draws at st, its copy of the script at sc -/
def StOk (H : Hp) (st sc : Addr) : Prop := ∃ (c k : Int) (ns : List Int), H st = some (.lst [.ref sc, .int c, .int k]) ∧ H sc = some (.lst (ns.map V.int)) ∧ 0 ≤ c ∧ 0 ≤ k
theorem StOk.kept {H H1 : Hp} {st sc : Addr} {m : Addr → Prop} (k : Kp m H H1) (n1 : ¬ m st) (n2 : ¬ m sc) (h : StOk H st sc) : StOk H1 st sc := by
  obtain ⟨c, i, ns, h1, h2, r⟩ := h
  exact ⟨c, i, ns, k _ _ n1 h1, k _ _ n2 h2, r⟩
theorem StOk.same {H H1 : Hp} {st sc : Addr} (k : Same H H1) (h : StOk H st sc) : StOk H1 st sc := h.kept (m := fun _ => False) (Kp.same k) (fun z => z) fun z => z
theorem StOk.ne {H : Hp} {st sc : Addr} (h : StOk H st sc) : sc ≠ st := by
  obtain ⟨c, i, ns, h1, h2, _⟩ := h
  refine ne_of h2 h1 fun e => ?_
  cases ns with
  | nil => cases e
  | cons a l => cases e
theorem StOk.noTup {H : Hp} {st sc : Addr} (h : StOk H st sc) : ∀ c, c = st → ∀ ys, H c ≠ some (.tup ys) := by
  obtain ⟨c, i, ns, h1, _⟩ := h
  intro c hc ys e
  rw [hc, h1] at e
  cases e
theorem StOk.tups {H H1 : Hp} {st sc : Addr} (h : StOk H st sc) (k : Kp (fun a => a = st) H H1) : Tups H H1 := k.tups h.noTup
section
variable {P : Program} {w : World} {K : PySem.W.Frag} {mg : Str → Option Value} {base : Heap}
/-! ### _law_stream -/
def spStream (K : PySem.W.Frag) : Sp := fun vs H Q _ => ∃ (a : Addr) (ns : List Int), vs = [.ref a] ∧ SqL K H a (ns.map V.int) ∧ ∀ (H' : Hp) (st sc : Addr), Same H H' → StOk H' st sc → Q (.ref st) H'
theorem scStream : FnScope ["_law_script"] ["_law_script"] (defScope sStream) := ⟨rfl, rfl, rfl, by decide +kernel, rfl, by decide +kernel, by decide +kernel⟩
theorem ok_stream {f : Addr} {fd : FuncData} (F : Fun K "_law_stream" "_law_stream" sStream f fd) (hm : mg "_law_stream" = some (.ref f)) (T : Bn mg) : Gd P w K mg base CX0 1 "_law_stream" ["_law_script"] (spStream K) := by
  refine ⟨f, fd, hm, F.kp, F.binds fun _ _ _ _ _ _ us hl => match us, hl with | [_], _ => rfl, ?_⟩
  refine F.ok scStream (fun vs H Q E h => ?_) (fun cdv A outer s H vs Q E hr h => ?_)
  · obtain ⟨a, ns, rfl, _⟩ := h
    rfl
  · obtain ⟨a, ns, rfl, hS, k⟩ := h
    refine ⟨_, pss_one (ps_ret (pe_lst (pa_cons (pe_callTy call_list_of (by rfl) T.list (by decide +kernel) (pa_cons (pv 0) pa_nil)) (pa_cons pe_int (pa_cons pe_int pa_nil))))), ?_⟩
    refine ⟨_, rfl, a, _, rfl, .inl hS, fun sc hsc => ⟨(by show 3 ≤ sizeLine; decide), fun st hst => ?_⟩⟩
    have s1 := same_new (o := .lst (ns.map V.int)) hsc
    have s2 := same_new (o := .lst [.ref sc, .int 0, .int 0]) hst
    exact k _ st sc (s1.trans s2) ⟨0, 0, ns, upd_same, s2 _ _ upd_same, by decide, by decide⟩
/-! ### _law_relations -/
def spRels : Sp := fun vs H Q _ => vs = [] ∧ ∀ (H' : Hp) (l : Addr), Same H H' → H' l = some (.lst (relations.map V.str)) → H l = none → Q (.ref l) H'
theorem scRels : FnScope [] [] (defScope sRels) := ⟨rfl, rfl, rfl, by decide +kernel, rfl, by decide +kernel, by decide +kernel⟩
theorem ok_rels {f : Addr} {fd : FuncData} (F : Fun K "_law_relations" "_law_relations" sRels f fd) (hm : mg "_law_relations" = some (.ref f)) : Gd P w K mg base CX0 1 "_law_relations" [] spRels := by
  refine ⟨f, fd, hm, F.kp, F.binds fun _ _ _ _ _ _ us hl => match us, hl with | [], _ => rfl, ?_⟩
  refine F.ok scRels (fun vs H Q E h => ?_) (fun cdv A outer s H vs Q E hr h => ?_)
  · obtain ⟨rfl, _⟩ := h
    rfl
  · obtain ⟨rfl, k⟩ := h
    refine ⟨_, pss_one (ps_ret (pe_lst (pa_cons pe_str (pa_cons pe_str (pa_cons pe_str pa_nil))))), ?_⟩
    exact ⟨(by show 3 ≤ sizeLine; decide), fun l hl => k _ l (same_new hl) upd_same hl⟩
/-! ### _law_next -/
def spNext : Sp := fun vs H Q _ => ∃ (st sc : Addr) (m : Int), vs = [.ref st, .int m] ∧ StOk H st sc ∧ 0 < m ∧ m < 1000 ∧
  ∀ (H' : Hp) (d : Int), Kp (fun a => a = st) H H' → StOk H' st sc → 0 ≤ d → d < m → Q (.int d) H'
theorem scNext : FnScope ["_law_stream_here", "_law_many", "_law_k", "_law_cell", "_law_digit"] ["_law_stream_here", "_law_many"] (defScope sNext) := ⟨rfl, rfl, rfl, by decide +kernel, rfl, by decide +kernel, by decide +kernel⟩
theorem at_ints {ns : List Int} {i : Int} (h0 : 0 ≤ i) (h : i < ((ns.length : Nat) : Int)) : ∃ z : Int, atI (ns.map V.int) i = some (.int z) := by
  obtain ⟨j, rfl⟩ : ∃ j : Nat, i = (j : Int) := ⟨i.toNat, by omega⟩
  have hj : j < ns.length := by omega
  exact ⟨ns[j], atI_nat (by rw [List.getElem?_map, List.getElem?_eq_getElem hj] <;> rfl)⟩
theorem cmulR (i j : Int) (h : -(2 ^ 64) < j ∧ j < 2 ^ 64) : CMul i j := .inr h
theorem ok_next {f : Addr} {fd : FuncData} (F : Fun K "_law_next" "_law_next" sNext f fd) (hm : mg "_law_next" = some (.ref f)) (T : Bn mg) : Gd P w K mg base CX0 1 "_law_next" ["_law_stream_here", "_law_many"] spNext := by
  refine ⟨f, fd, hm, F.kp, F.binds fun _ _ _ _ _ _ us hl => match us, hl with | [_, _], _ => rfl, ?_⟩
  refine F.ok scNext (fun vs H Q E h => ?_) (fun cdv A outer s H vs Q E hr h => ?_)
  · obtain ⟨st, sc, m, rfl, _⟩ := h
    rfl
  · obtain ⟨st, sc, m, rfl, hst, m0, m1, k⟩ := h
    have nsc := hst.ne
    obtain ⟨c, i, ns, h1, h2, c0, i0⟩ := hst
    refine ⟨_, C8.pss_cut (ps_if (pt_cmpR op_eq (pe_ix ix_list (pv 0) pe_int (fun _ _ => rfl)) pe_int (nomark _))
        (pss_cons (ps_set (i := 2) scNext.nd rfl (Or.inl rfl) (pe_ix ix_list (pv 0) pe_int (fun _ _ => rfl)))
        (pss_cons (ps_set (i := 3) scNext.nd rfl (Or.inl rfl) (pe_op op_add pe_int (pv 2)))
        (C8.pss_cut (ps_if (pt_cmpR op_lt (pv 2) (pe_callB call_len_seq (by rfl) T.len PySem.boot_len (pa_cons (pe_ix ix_list (pv 0) pe_int (fun _ _ => rfl)) pa_nil)) (nomark _))
          (pss_one (ps_set (i := 3) scNext.nd rfl (Or.inl rfl) (pe_callB call_abs (by rfl) T.abs (by decide +kernel) (pa_cons (pe_ix ix_list (pe_ix ix_list (pv 0) pe_int (fun _ _ => rfl)) (pv 2) (fun _ _ => rfl)) pa_nil)))) pss_nil)
        (C8.pss_cut (ps_if (pt_cmpR op_lt (pv 3) (pe_op op_pow pe_int pe_int) (nomark _))
          (pss_cons (ps_set (i := 3) scNext.nd rfl (Or.inl rfl) (pe_op op_mod (pe_callTy call_int1 (by rfl) T.int (by decide +kernel) (pa_cons (pe_op op_add (pe_op op_add (pe_op op_mul (pv 3) pe_int) (pe_op op_mul (pv 2) pe_int)) pe_int) pa_nil)) pe_int))
          (pss_one (ps_set (i := 3) scNext.nd rfl (Or.inl rfl) (pe_op op_add (pe_op op_mul (pe_op op_mod (pe_callTy call_int1 (by rfl) T.int (by decide +kernel) (pa_cons (pe_op op_add (pe_op op_mul (pv 3) pe_int) pe_int) pa_nil)) pe_int) pe_int) (pv 3))))) pss_nil)
        (pss_cons (ps_asg (pv 3) (pg_sub (pv 0) pe_int set_list))
        (pss_one (ps_asg (pe_op op_add (pv 2) pe_int) (pg_sub (pv 0) pe_int set_list)))))))) pss_nil)
      (pss_cons (ps_set (i := 4) scNext.nd rfl (Or.inl rfl) (pe_op op_mod (pe_callTy call_int1 (by rfl) T.int (by decide +kernel) (pa_cons (pe_ix ix_list (pv 0) pe_int (fun _ _ => rfl)) pa_nil)) (pv 1)))
      (pss_cons (ps_asg (pe_op op_fdiv (pe_ix ix_list (pv 0) pe_int (fun _ _ => rfl)) (pv 1)) (pg_sub (pv 0) pe_int set_list))
      (pss_one (ps_ret (pv 4))))), ?_⟩
    refine ⟨fun σ' H' => ∃ (x2 x3 : Option V) (c' i' : Int), σ' = [some (.ref st), some (.int m), x2, x3, none] ∧ Kp (fun a => a = st) H H' ∧ H' st = some (.lst [.ref sc, .int c', .int i']) ∧ 0 ≤ c' ∧ 0 ≤ i', ?_, ?_⟩
    · refine ⟨_, rfl, st, _, _, _, rfl, rfl, SqL.of h1, rfl, rfl, _, rfl, ite2 (fun _ => ?_) (fun _ => ?_)⟩
      · refine ⟨_, rfl, st, _, _, _, rfl, rfl, SqL.of h1, rfl, _, rfl, _, _, rfl, rfl, ?_⟩
        refine ⟨fun σ' H' => H' = H ∧ ∃ y : Int, 0 ≤ y ∧ σ' = [some (.ref st), some (.int m), some (.int i), some (.int y), none], ?_, ?_⟩
        · refine ⟨_, rfl, _, rfl, st, _, _, _, rfl, rfl, SqL.of h1, rfl, sc, _, rfl, .inl (SqL.of h2), _, _, rfl, rfl, _, rfl, ite2 (fun hlt => ?_) (fun _ => ?_)⟩
          · obtain ⟨z, hat⟩ := at_ints (ns := ns) i0 (by have q := of_decide_eq_true hlt; rw [List.length_map] at q; exact q)
            refine ⟨_, rfl, st, _, _, _, rfl, rfl, SqL.of h1, rfl, _, rfl, sc, _, _, _, rfl, rfl, SqL.of h2, hat, _, rfl, rfl, _, ?_, rfl⟩
            split <;> omega
          · exact ⟨rfl, 7 + i, by omega, rfl⟩
        · rintro σ' H' ⟨rfl, y, y0, rfl⟩
          refine ⟨fun σ'' H'' => H'' = H' ∧ ∃ y : Int, 0 ≤ y ∧ σ'' = [some (.ref st), some (.int m), some (.int i), some (.int y), none], ?_, ?_⟩
          · refine ⟨_, rfl, _, _, rfl, rfl, ⟨by decide, by decide, by decide⟩, _, _, rfl, rfl, _, rfl, ite2 (fun _ => ?_) (fun _ => ?_)⟩
            · refine ⟨_, rfl, _, _, rfl, rfl, cmulR _ _ (by decide), _, rfl, _, _, rfl, rfl, cmulR _ _ (by decide), _, _, rfl, rfl, _, _, rfl, rfl, .inl ⟨_, rfl, _, _, rfl, rfl, (by show (0 : Int) < 2147483647; decide), ?_⟩⟩
              refine ⟨_, rfl, _, _, rfl, rfl, cmulR _ _ (by decide), _, _, rfl, rfl, .inl ⟨_, rfl, _, _, rfl, rfl, (by show (0 : Int) < 2147483647; decide), _, _, rfl, rfl, cmulR _ _ (by decide), _, rfl, _, _, rfl, rfl, ?_⟩⟩
              refine ⟨rfl, _, ?_, rfl⟩
              have e1 : (0 : Int) ≤ (y * 48271 + i * 69621 + 11) % 2147483647 := Int.emod_nonneg _ (by decide)
              have e2 : (0 : Int) ≤ ((y * 48271 + i * 69621 + 11) % 2147483647 * 16807 + 13) % 2147483647 := Int.emod_nonneg _ (by decide)
              omega
            · exact ⟨rfl, y, y0, rfl⟩
          · rintro σ' H' ⟨rfl, y, y0, rfl⟩
            refine ⟨_, rfl, _, rfl, st, _, _, _, rfl, rfl, h1, rfl, ?_⟩
            refine ⟨_, rfl, _, _, rfl, rfl, _, rfl, st, _, _, _, rfl, rfl, upd_same, rfl, ?_⟩
            exact ⟨_, _, y, i + 1, rfl, (Kp.put (m := fun a => a = st) rfl).trans (Kp.put (m := fun a => a = st) rfl), upd_same, y0, by omega⟩
      · exact ⟨none, none, c, i, rfl, Kp.refl _ _, h1, c0, i0⟩
    · rintro σ' H1 ⟨x2, x3, c', i', rfl, kp, e1, c0', i0'⟩
      refine ⟨_, rfl, st, _, _, _, rfl, rfl, SqL.of e1, rfl, .inl ⟨_, rfl, _, rfl, _, _, rfl, rfl, m0, ?_⟩⟩
      refine ⟨_, rfl, st, _, _, _, rfl, rfl, SqL.of e1, rfl, _, rfl, _, _, rfl, rfl, ⟨m0, by omega⟩, _, rfl, st, _, _, _, rfl, rfl, e1, rfl, ?_⟩
      refine ⟨_, rfl, ?_⟩
      refine k _ (c' % m) (kp.trans (Kp.put (m := fun a => a = st) rfl)) ⟨c' / m, i', ns, upd_same, ?_, Int.ediv_nonneg c0' (by omega), i0'⟩ (Int.emod_nonneg _ (by omega)) (Int.emod_lt_of_pos _ m0)
      rw [upd_ne nsc]
      exact kp _ _ nsc h2
end
end Bk

namespace Bk
open PySem PySem.Spec PyProof.Rows L2
theorem Kp.fresh {m : Addr → Prop} {H H1 : Hp} {D : Addr} {o : HO} (h : Kp m H H1) (hD : H D = none) : Kp m H (upd H1 D o) := fun c u n e => by
  rw [upd_ne (ne_of_none e hD)]
  exact h c u n e
theorem StOk.fresh {H : Hp} {st sc D : Addr} {o : HO} (h : StOk H st sc) (n1 : D ≠ st) (n2 : D ≠ sc) : StOk (upd H D o) st sc := by
  obtain ⟨c, i, ns, h1, h2, r⟩ := h
  exact ⟨c, i, ns, by rw [upd_ne (Ne.symm n1)]; exact h1, by rw [upd_ne (Ne.symm n2)]; exact h2, r⟩
theorem StOk.there {H : Hp} {st sc : Addr} (h : StOk H st sc) : (∃ o, H st = some o) ∧ ∃ o, H sc = some o := by
  obtain ⟨c, i, ns, h1, h2, _⟩ := h
  exact ⟨⟨_, h1⟩, ⟨_, h2⟩⟩
theorem ne_there {H : Hp} {a b : Addr} (h : ∃ o, H b = some o) (n : H a = none) : a ≠ b := fun e => by
  obtain ⟨o, h⟩ := h
  rw [← e, n] at h
  cases h
theorem at_strs {rs : List Str} {i : Int} (h0 : 0 ≤ i) (h : i < ((rs.length : Nat) : Int)) : ∃ r, r ∈ rs ∧ atI (rs.map V.str) i = some (.str r) := by
  obtain ⟨j, rfl⟩ : ∃ j : Nat, i = (j : Int) := ⟨i.toNat, by omega⟩
  have hj : j < rs.length := by omega
  exact ⟨rs[j], List.getElem_mem hj, atI_nat (by rw [List.getElem?_map, List.getElem?_eq_getElem hj] <;> rfl)⟩
section
variable {P : Program} {w : World} {K : PySem.W.Frag} {mg : Str → Option Value} {base : Heap}
/-! ### _law_rule -/
def spRule : Sp := fun vs H Q _ => ∃ (st sc : Addr) (n : Int), vs = [.ref st, .int n, .non] ∧ StOk H st sc ∧ 2 ≤ n ∧ n ≤ 7 ∧
  ∀ (H' : Hp) (v : V), Kp (fun a => a = st) H H' → StOk H' st sc → RuleV H' n v → Q v H'
abbrev nRule : List Str := ["_law_stream_here", "_law_size", "_law_plan", "_law_first", "_law_second", "_law_wanted", "_law_one"]
theorem scRule : FnScope nRule ["_law_stream_here", "_law_size", "_law_plan"] (defScope sRule) := ⟨rfl, rfl, rfl, by decide +kernel, rfl, by decide +kernel, by decide +kernel⟩
theorem ok_rule {f : Addr} {fd : FuncData} (F : Fun K "_law_rule" "_law_rule" sRule f fd) (hm : mg "_law_rule" = some (.ref f)) (T : Bn mg) (hN : Gd P w K mg base CX0 1 "_law_next" ["_law_stream_here", "_law_many"] spNext) (hL : Gd P w K mg base CX0 1 "_law_relations" [] spRels) :
    Gd P w K mg base CX0 2 "_law_rule" ["_law_stream_here", "_law_size", "_law_plan"] spRule := by
  obtain ⟨fN, fdN, mN, kN, bN, GN⟩ := hN.ex
  obtain ⟨fL, fdL, mL, kL, bL, GL⟩ := hL.ex
  refine ⟨f, fd, hm, F.kp, F.binds fun _ _ _ _ _ _ us hl => match us, hl with | [_, _, _], _ => rfl, ?_⟩
  refine F.ok scRule (fun vs H Q E h => ?_) (fun cdv A outer s H vs Q E hr h => ?_)
  · obtain ⟨st, sc, n, rfl, _⟩ := h
    rfl
  · obtain ⟨st, sc, n, rfl, hst, n2, n7, k⟩ := h
    refine ⟨_, pss_cons (ps_set (i := 3) scRule.nd rfl (Or.inl rfl) (pe_call GN hr rfl mN kN bN .nil pass0 (pa_cons (pv 0) (pa_cons (pv 1) pa_nil))))
      (pss_cons (ps_set (i := 4) scRule.nd rfl (Or.inl rfl) (pe_call GN hr rfl mN kN bN .nil pass0 (pa_cons (pv 0) (pa_cons (pe_op op_sub (pv 1) pe_int) pa_nil))))
      (pss_cons (ps_set (i := 4) scRule.nd rfl (Or.inl rfl) (pe_op op_add (pv 4) (pe_callTy call_int1 (by rfl) T.int (by decide +kernel) (pa_cons (pe_cmpR op_ge (pv 4) (pv 3) (nomark _)) pa_nil))))
      (pss_cons (ps_set (i := 5) scRule.nd rfl (Or.inr rfl) (pe_lc (own := [("_law_one", 6)]) (g := gName 6) (tt := tTest (tOp rEq (tCall spNext [] E0 (tCons (tVar 0) (tCons (tC (.int 2)) tNil))) (tC (.int 1)))) (te := tVar 6) rfl scRule.nd
          (pi_list (pe_call0 GL hr rfl mL kL bL .nil pass0)) (blkOk_by (N := nRule) (sc := defScope sRule) (by decide +kernel)) (fun _ _ _ _ _ => pg_name (i := 6) scRule.nd rfl (Or.inl rfl))
          (fun _ _ _ _ _ => pts_one (pt_cmpR op_eq (pe_call GN hr rfl mN kN bN .nil pass0 (pa_cons (pv 0) (pa_cons pe_int pa_nil))) pe_int (nomark _))) (fun _ _ _ _ _ => pv 6)))
      (pss_cons (ps_if (pt_cmpR op_notN (pv 2) pe_non (nomark _)) pss_never pss_nil)
      (C8.pss_cut (ps_if (pt_not (pt_truth (pv 5) (by intro _; rfl)))
          (pss_one (ps_set (i := 5) scRule.nd rfl (Or.inr rfl) (pe_lst (pa_cons (pe_ix ix_list (pe_call0 GL hr rfl mL kL bL .nil pass0) (pe_call GN hr rfl mN kN bN .nil pass0 (pa_cons (pv 0) (pa_cons pe_int pa_nil))) (fun _ _ => rfl)) pa_nil)))) pss_nil)
      (pss_one (ps_ret (pe_tup (pa_cons (pv 3) (pa_cons (pe_callTy call_tuple_of (by rfl) T.tuple (by decide +kernel) (pa_cons
          (pe_lc (own := [("_law_one", 6)]) (g := gName 6) (tt := tTest (tOp (rIn K false) (tVar 6) (tVar 5))) (te := tVar 6) rfl scRule.nd
            (pi_list (pe_call0 GL hr rfl mL kL bL .nil pass0)) (blkOk_by (N := nRule) (sc := defScope sRule) (by decide +kernel)) (fun _ _ _ _ _ => pg_name (i := 6) scRule.nd rfl (Or.inl rfl))
            (fun _ _ _ _ _ => pts_one (pt_cmpR op_in_seq (pv 6) (pv 5) (by rfl))) (fun _ _ _ _ _ => pv 6)) pa_nil))
        (pa_cons (pv 4) pa_nil))))))))))), ?_⟩
    refine ⟨_, rfl, _, rfl, st, sc, n, rfl, hst, by omega, by omega, fun H1 d1 k1 so1 a0 a1 => ?_⟩
    refine ⟨_, rfl, _, rfl, _, _, rfl, rfl, st, sc, n - 1, rfl, so1, by omega, by omega, fun H2 d2 k2 so2 b0 b1 => ?_⟩
    have k12 := k1.trans k2
    refine ⟨_, rfl, _, rfl, _, rfl, _, _, rfl, rfl, .inr ⟨_, rfl, _, _, rfl, rfl, ?_⟩⟩
    -- the relations that are wanted, drawn
    refine ⟨rfl, fun H3 L s3 eL nL => ⟨L, rfl, ⟨_, SqL.of eL⟩, fun D hD => lc_list (K := K) (a := L) (xs := relations.map V.str)
      (fun i H' => Kp (fun a => a = st) H2 H' ∧ StOk H' st sc ∧ H' L = some (.lst (relations.map V.str)) ∧ ∃ ws : List Str, H' D = some (.lst (ws.map V.str)) ∧ ws.length ≤ i ∧ ∀ r ∈ ws, r ∈ relations) ?_ (fun i H' _ p => SqL.of p.2.2.1) ?_ ?_⟩⟩
    · have so3 := so2.same s3
      have hD2 := s3.free hD
      refine ⟨(Kp.same s3).fresh hD2, so3.fresh (ne_there so3.there.1 hD) (ne_there so3.there.2 hD), ?_, [], upd_same, Nat.zero_le _, fun r hr => by cases hr⟩
      rw [upd_ne (ne_of_none eL hD)]
      exact eL
    · intro i x H' hi p
      obtain ⟨r, hr1, rfl⟩ := map_at hi
      obtain ⟨kp, so, eL', ws, eD, hw, hin⟩ := p
      have hi3 : i < 3 := by
        have q := (List.getElem?_eq_some_iff.mp hr1).1
        exact q
      have hD2 := s3.free hD
      have nDL : D ≠ L := fun e => by
        rw [e, eL] at hD
        cases hD
      have nDst : D ≠ st := ne_there so2.there.1 hD2
      have nDsc : D ≠ sc := ne_there so2.there.2 hD2
      have nLst : L ≠ st := ne_there so2.there.1 nL
      refine ⟨rfl, _, rfl, st, sc, 2, rfl, so, by omega, by omega, fun H4 d k4 so4 c0 c1 => ⟨rfl, _, rfl, ite2 (fun _ => ?_) (fun _ => ?_)⟩⟩
      · refine ⟨_, rfl, _, k4 _ _ nDst eD, ?_, (kp.trans k4).fresh hD2, so4.fresh nDst nDsc, ?_, ws ++ [r], ?_, ?_, ?_⟩
        · rw [List.length_map]
          exact Nat.lt_of_le_of_lt hw (Nat.lt_of_lt_of_le hi3 (by decide))
        · rw [upd_ne (Ne.symm nDL)]
          exact k4 _ _ nLst eL'
        · rw [upd_same, List.map_append] <;> rfl
        · rw [List.length_append]
          show ws.length + 1 ≤ i + 1
          omega
        · intro z hz
          rcases List.mem_append.mp hz with hz | hz
          · exact hin z hz
          · rw [List.mem_singleton.mp hz]
            exact List.mem_of_getElem? hr1
      · exact ⟨kp.trans k4, so4, k4 _ _ nLst eL', ws, k4 _ _ nDst eD, by omega, hin⟩
    · intro H4 p
      obtain ⟨kp, so, _, ws, eD, hw, hin⟩ := p
      have k14 := k12.trans kp
      refine ⟨_, rfl, rfl, _, rfl, if_nf (decide_eq_true rfl) ?_⟩
      refine ⟨fun σ' H' => ∃ (W : Addr) (ws : List Str) (z : Int) (x6 : Option V), σ' = [some (.ref st), some (.int n), some .non, some (.int d1), some (.int z), some (.ref W), x6] ∧ Kp (fun a => a = st) H H' ∧ StOk H' st sc ∧ H' W = some (.lst (ws.map V.str)) ∧
        (∃ r, r ∈ relations ∧ r ∈ ws) ∧ 0 ≤ z ∧ z < n ∧ d1 ≠ z, ?_, ?_⟩
      · have hz : 0 ≤ d2 + (if decide (d1 ≤ d2) = true then (1 : Int) else 0) ∧ d2 + (if decide (d1 ≤ d2) = true then (1 : Int) else 0) < n ∧ d1 ≠ d2 + (if decide (d1 ≤ d2) = true then (1 : Int) else 0) := by
          by_cases c : d1 ≤ d2
          · rw [decide_eq_true c, if_pos rfl]
            omega
          · rw [decide_eq_false c, if_neg Bool.false_ne_true]
            omega
        refine ⟨_, rfl, _, .inl ⟨_, SqL.of eD, rfl⟩, ?_⟩
        cases ws with
        | nil =>
          refine if_t rfl ?_
          refine ⟨rfl, fun H5 L5 s5 e5 n5 => ⟨_, rfl, st, sc, 3, rfl, so.same s5, by omega, by omega, fun H6 d6 k6 so6 c0 c1 => ?_⟩⟩
          obtain ⟨r, hr, hat⟩ := at_strs (rs := relations) c0 c1
          have nL5 : L5 ≠ st := ne_there so.there.1 n5
          refine ⟨L5, _, _, _, rfl, rfl, SqL.of (k6 _ _ nL5 e5), hat, (by show 1 ≤ sizeLine; decide), fun W hW => ?_⟩
          exact ⟨W, [r], _, _, rfl, ((k14.trans (Kp.same s5)).trans k6).trans (Kp.same (same_new hW)), so6.fresh (ne_there so6.there.1 hW) (ne_there so6.there.2 hW), upd_same, ⟨r, hr, List.mem_singleton.mpr rfl⟩, hz⟩
        | cons r l =>
          refine if_f rfl ?_
          exact ⟨D, r :: l, _, _, rfl, k14, so, eD, ⟨r, hin r List.mem_cons_self, List.mem_cons_self⟩, hz⟩
      · rintro σ' H5 ⟨W, ws, z, x6, rfl, k5, so5, eW, hex, z0, z1, z2⟩
        refine ⟨_, rfl, rfl, fun H6 L6 s6 e6 n6 => ⟨L6, rfl, ⟨_, SqL.of e6⟩, fun D2 hD2 => lc_list (K := K) (a := L6) (xs := relations.map V.str)
          (fun i H' => Same H6 H' ∧ H' D2 = some (.lst (((relations.take i).filter fun r => decide (r ∈ ws)).map V.str))) ⟨same_new hD2, upd_same⟩ (fun i H' _ p => SqL.of (p.1 _ _ e6)) (fun i x H' hi p => ?_) fun H7 p => ?_⟩⟩
        · obtain ⟨r, hr1, rfl⟩ := map_at hi
          refine ⟨rfl, _, rfl, _, rfl, W, ws.map V.str, rfl, .inl (SqL.of (p.1 _ _ (s6 _ _ eW))), rfl, flat_strs ws, _, rfl, ?_⟩
          show if inV (.str r) (ws.map V.str) = true then _ else _
          rw [inV_str]
          refine ite2 (fun c => ?_) (fun c => ?_)
          · refine ⟨_, rfl, _, p.2, ?_, same_put p.1 hD2, ?_⟩
            · rw [List.length_map]
              exact Nat.lt_of_le_of_lt (List.length_filter_le _ _) (by rw [List.length_take]; exact Nat.lt_of_le_of_lt (Nat.min_le_right _ _) (by decide))
            · rw [upd_same, filt_yes (p := fun r => decide (r ∈ ws)) hr1 c]
          · refine ⟨p.1, ?_⟩
            rw [p.2, filt_no (p := fun r => decide (r ∈ ws)) hr1 c]
        · have e7 : H7 D2 = some (.lst ((relations.filter fun r => decide (r ∈ ws)).map V.str)) := by
            rw [p.2, List.length_map, List.take_length]
          refine ⟨D2, _, rfl, .inl ⟨SqL.of e7, fun t ht => ⟨_, rfl, (by show 3 ≤ sizeLine; decide), fun q hq => ?_⟩⟩⟩
          have s8 := same_new (o := .tup ((relations.filter fun r => decide (r ∈ ws)).map V.str)) ht
          have s9 := same_new (o := .tup [.int d1, .ref t, .int z]) hq
          have sAll := ((s6.trans p.1).trans s8).trans s9
          exact k _ _ (k5.trans (Kp.same sAll)) (so5.same sAll) ⟨q, t, d1, z, _, rfl, upd_same, s9 _ _ upd_same, Rels.of_wanted hex, a0, a1, z0, z1, z2⟩
end
end Bk

namespace Bk
open PySem PySem.Spec PyProof.Rows L2
theorem pickN {k : Bool} {d1 d2 : Int} (a0 : 0 ≤ d1) (a1 : d1 < 20) (b0 : 0 ≤ d2) (b1 : d2 < 20) : ∃ i : Nat, (if k then V.int d2 else V.int d1) = .int (i : Int) ∧ i < 20 := by
  cases k with
  | true => exact ⟨d2.toNat, by rw [if_pos rfl, Int.toNat_of_nonneg b0], by omega⟩
  | false => exact ⟨d1.toNat, by rw [if_neg Bool.false_ne_true, Int.toNat_of_nonneg a0], by omega⟩
theorem min20 (n : Nat) : 0 < (if ((n : Int) + 1) < 20 then ((n : Int) + 1) else 20) ∧ (if ((n : Int) + 1) < 20 then ((n : Int) + 1) else 20) ≤ 20 := by
  split <;> omega
section
variable {P : Program} {w : World} {K : PySem.W.Frag} {mg : Str → Option Value} {base : Heap}
/-! ### _law_command -/
def spCommand : Sp := fun vs H Q _ => ∃ (st sc r : Addr) (n : Int) (xs : List V), vs = [.ref st, .int n, .ref r] ∧ StOk H st sc ∧ 1 ≤ n ∧ n ≤ 7 ∧ H r = some (.tup xs) ∧
  ∀ (H' : Hp) (p : Addr) (c : Cm), Kp (fun a => a = st) H H' → StOk H' st sc → CmdV H' n p c → Q (.ref p) H'
abbrev nCmd : List Str := ["_law_stream_here", "_law_size", "_law_rules", "_law_pick", "_law_rule_here"]
theorem scCmd : FnScope nCmd ["_law_stream_here", "_law_size", "_law_rules"] (defScope sCmd) := ⟨rfl, rfl, rfl, by decide +kernel, rfl, by decide +kernel, by decide +kernel⟩
theorem ok_command {f : Addr} {fd : FuncData} (F : Fun K "_law_command" "_law_command" sCmd f fd) (hm : mg "_law_command" = some (.ref f)) (T : Bn mg) (hN : Gd P w K mg base CX0 1 "_law_next" ["_law_stream_here", "_law_many"] spNext)
    (hR : Gd P w K mg base CX0 2 "_law_rule" ["_law_stream_here", "_law_size", "_law_plan"] spRule) : Gd P w K mg base CX0 3 "_law_command" ["_law_stream_here", "_law_size", "_law_rules"] spCommand := by
  obtain ⟨fN, fdN, mN, kN, bN, GN⟩ := hN.ex
  obtain ⟨fR, fdR, mR, kR, bR, GR⟩ := hR.ex
  refine ⟨f, fd, hm, F.kp, F.binds fun _ _ _ _ _ _ us hl => match us, hl with | [_, _, _], _ => rfl, ?_⟩
  refine F.ok scCmd (fun vs H Q E h => ?_) (fun cdv A outer s H vs Q E hr h => ?_)
  · obtain ⟨st, sc, r, n, xs, rfl, _⟩ := h
    rfl
  · obtain ⟨st, sc, r, n, xs, rfl, hst, n1, n7, hx, k⟩ := h
    have hr1 : Room 1 _ := hr.mono (by decide)
    refine ⟨_, pss_cons (ps_set (i := 3) scCmd.nd rfl (Or.inl rfl) (pe_call GN hr1 rfl mN kN bN .nil pass0 (pa_cons (pv 0) (pa_cons pe_int pa_nil))))
      (pss_cons (ps_if (PW.pt (pw_or (pt_cmpR op_eq (pv 1) pe_int (nomark _)) (pw_or1 (pt_cmpR op_eq (pv 3) pe_int (nomark _)))))
        (pss_one (ps_ret (pe_tup (pa_cons pe_str (pa_cons (pe_ix ix_list
            (pe_lst (pa_cons (pe_call GN hr1 rfl mN kN bN .nil pass0 (pa_cons (pv 0) (pa_cons pe_int pa_nil)))
              (pa_cons (pe_call GN hr1 rfl mN kN bN .nil pass0 (pa_cons (pv 0) (pa_cons (pe_callB (call_min2 rfl) (by rfl) T.min (by decide +kernel) (pa_cons pe_int (pa_cons (pe_op op_add (pe_callB call_len_seq (by rfl) T.len PySem.boot_len (pa_cons (pv 2) pa_nil)) pe_int) pa_nil))) pa_nil))) pa_nil)))
            (pe_callTy call_int1 (by rfl) T.int (by decide +kernel) (pa_cons (pe_cmpR op_gt (pe_call GN hr1 rfl mN kN bN .nil pass0 (pa_cons (pv 0) (pa_cons pe_int pa_nil))) pe_int (nomark _)) pa_nil)) (fun _ _ => rfl)) pa_nil))))) pss_nil)
      (pss_cons (ps_set (i := 4) scCmd.nd rfl (Or.inl rfl) (pe_call GR hr rfl mR kR bR .nil pass0 (pa_cons (pv 0) (pa_cons (pv 1) (pa_cons pe_non pa_nil)))))
      (pss_cons (ps_if (pt_cmpR op_lt (pv 3) pe_int (nomark _)) (pss_one (ps_ret (pe_tup (pa_cons pe_str (pa_cons (pv 4) pa_nil))))) pss_nil)
      (pss_one (ps_ret (pe_tup (pa_cons pe_str (pa_cons
        (pe_call GN hr1 rfl mN kN bN .nil pass0 (pa_cons (pv 0) (pa_cons (pe_callB (call_min2 rfl) (by rfl) T.min (by decide +kernel) (pa_cons pe_int (pa_cons (pe_op op_add (pe_callB call_len_seq (by rfl) T.len PySem.boot_len (pa_cons (pv 2) pa_nil)) pe_int) pa_nil))) pa_nil)))
        (pa_cons (pv 4) pa_nil))))))))), ?_⟩
    refine ⟨_, rfl, st, sc, 6, rfl, hst, by omega, by omega, fun H1 d1 k1 so1 a0 a1 => ?_⟩
    have hx1 := hst.tups k1 _ _ hx
    have hm20 := min20 xs.length
    refine ⟨_, rfl, rfl, _, rfl, ?_⟩
    by_cases hc : n = 1 ∨ d1 = 5
    · refine ite2 (fun _ => ?_) (fun h1 => ?_)
      · refine ⟨_, rfl, st, sc, 20, rfl, so1, by omega, by omega, fun H2 d2 k2 so2 b0 b1 => ?_⟩
        have hx2 := so1.tups k2 _ _ hx1
        refine ⟨_, rfl, _, rfl, r, _, rfl, .inr (SqT.of hx2), _, _, rfl, rfl, _, _, rfl, st, sc, _, rfl, so2, hm20.1, Int.lt_of_le_of_lt hm20.2 (by decide), fun H3 d3 k3 so3 c0 c1 => ⟨(by show 2 ≤ sizeLine; decide), fun l hl => ?_⟩⟩
        have nl : l ≠ st := ne_there so3.there.1 hl
        refine ⟨_, rfl, st, sc, 3, rfl, so3.fresh nl (ne_there so3.there.2 hl), by omega, by omega, fun H4 d4 k4 so4 e0 e1 => ?_⟩
        obtain ⟨i, ei, hi⟩ := pickN (k := decide (0 < d4)) b0 b1 c0 (Int.lt_of_lt_of_le c1 hm20.2)
        refine ⟨_, _, rfl, rfl, .inr ⟨_, rfl, l, _, _, _, rfl, rfl, SqL.of (k4 _ _ nl upd_same), pick2, (by show 2 ≤ sizeLine; decide), fun p hp => ?_⟩⟩
        refine k _ p (.drop i) ((((k1.trans k2).trans k3).trans (Kp.same (same_new hl))).trans k4 |>.trans (Kp.same (same_new hp))) (so4.same (same_new hp)) ⟨?_, hi⟩
        rw [upd_same]
        show some (HO.tup [V.str "drop", (if decide (0 < d4) then V.int d3 else V.int d2)]) = _
        rw [ei]
      · have h5 : d1 = 5 := hc.resolve_left fun z => h1 (decide_eq_true (by rw [z]))
        refine ⟨_, rfl, rfl, _, rfl, if_t (decide_eq_true (by rw [h5])) ?_⟩
        refine ⟨_, rfl, st, sc, 20, rfl, so1, by omega, by omega, fun H2 d2 k2 so2 b0 b1 => ?_⟩
        have hx2 := so1.tups k2 _ _ hx1
        refine ⟨_, rfl, _, rfl, r, _, rfl, .inr (SqT.of hx2), _, _, rfl, rfl, _, _, rfl, st, sc, _, rfl, so2, hm20.1, Int.lt_of_le_of_lt hm20.2 (by decide), fun H3 d3 k3 so3 c0 c1 => ⟨(by show 2 ≤ sizeLine; decide), fun l hl => ?_⟩⟩
        have nl : l ≠ st := ne_there so3.there.1 hl
        refine ⟨_, rfl, st, sc, 3, rfl, so3.fresh nl (ne_there so3.there.2 hl), by omega, by omega, fun H4 d4 k4 so4 e0 e1 => ?_⟩
        obtain ⟨i, ei, hi⟩ := pickN (k := decide (0 < d4)) b0 b1 c0 (Int.lt_of_lt_of_le c1 hm20.2)
        refine ⟨_, _, rfl, rfl, .inr ⟨_, rfl, l, _, _, _, rfl, rfl, SqL.of (k4 _ _ nl upd_same), pick2, (by show 2 ≤ sizeLine; decide), fun p hp => ?_⟩⟩
        refine k _ p (.drop i) ((((k1.trans k2).trans k3).trans (Kp.same (same_new hl))).trans k4 |>.trans (Kp.same (same_new hp))) (so4.same (same_new hp)) ⟨?_, hi⟩
        rw [upd_same]
        show some (HO.tup [V.str "drop", (if decide (0 < d4) then V.int d3 else V.int d2)]) = _
        rw [ei]
    · have hn1 : ¬ n = 1 := fun z => hc (.inl z)
      have hd5 : ¬ d1 = 5 := fun z => hc (.inr z)
      refine if_f (decide_eq_false fun e => hn1 (by injection e)) ?_
      refine ⟨_, rfl, rfl, _, rfl, if_f (decide_eq_false fun e => hd5 (by injection e)) ?_⟩
      refine ⟨_, rfl, _, rfl, st, sc, n, rfl, so1, by omega, n7, fun H2 v k2 so2 hv => ?_⟩
      have hx2 := so1.tups k2 _ _ hx1
      refine ⟨_, rfl, _, _, rfl, rfl, _, rfl, ite2 (fun _ => ?_) (fun _ => ?_)⟩
      · refine ⟨_, rfl, (by show 2 ≤ sizeLine; decide), fun p hp => ?_⟩
        have s3 := same_new (o := .tup [.str "add", v]) hp
        exact k _ p (.add v) ((k1.trans k2).trans (Kp.same s3)) (so2.same s3) ⟨upd_same, hv.kept (Tups.of_same s3)⟩
      · refine ⟨_, rfl, _, rfl, r, _, rfl, .inr (SqT.of hx2), _, _, rfl, rfl, _, _, rfl, st, sc, _, rfl, so2, hm20.1, Int.lt_of_le_of_lt hm20.2 (by decide), fun H3 d3 k3 so3 c0 c1 => ?_⟩
        refine ⟨_, rfl, (by show 3 ≤ sizeLine; decide), fun p hp => ?_⟩
        have s4 := same_new (o := .tup [.str "put", .int d3, v]) hp
        have ed : ((d3.toNat : Nat) : Int) = d3 := Int.toNat_of_nonneg c0
        refine k _ p (.put d3.toNat v) (((k1.trans k2).trans k3).trans (Kp.same s4)) (so3.same s4) ⟨?_, ?_, (hv.kept (so2.tups k3)).kept (Tups.of_same s4)⟩
        · rw [upd_same, ed]
        · have h20 := Int.lt_of_lt_of_le c1 hm20.2
          omega
end
end Bk

namespace Bk
open PySem PySem.Spec PyProof.Rows L2
section
variable {P : Program} {w : World} {K : PySem.W.Frag} {mg : Str → Option Value} {base : Heap}
/-! ### _law_equal: of equal data it says True; by induction on the depth -/
def spEq (n : Nat) : Sp := fun vs H Q _ => ∃ v u : V, vs = [v, u] ∧ EqD H n v u ∧ ∀ H', Same H H' → Q (.bl true) H'
abbrev nEq : List Str := ["_law_actual", "_law_due", "_law_at"]
theorem scEq : FnScope nEq ["_law_actual", "_law_due"] (defScope sEqual) := ⟨rfl, rfl, rfl, by decide +kernel, rfl, by decide +kernel, by decide +kernel⟩
theorem ok_equal0 {f : Addr} {fd : FuncData} (F : Fun K "_law_equal" "_law_equal" sEqual f fd) (hm : mg "_law_equal" = some (.ref f)) (bE : Binds K fd ["_law_actual", "_law_due"] []) (T : Bn mg) (hI : Gd P w K mg base CX0 1 "_law_is_integer" ["_law_actual"] spIsInt) :
    ∀ n : Nat, FnOk P w K mg base CX0 (n + 2) f fd ["_law_actual", "_law_due"] (spEq n)
  | 0 => ⟨fun vs H Q E h => by
      obtain ⟨v, u, rfl, _⟩ := h
      rfl, fun A outer s H args us vs Q E _ _ _ _ h => by
      obtain ⟨v, u, _, e, _⟩ := h
      exact e.elim⟩
  | n + 1 => by
    have GE : FnOk P w K mg base CX0 (n + 2) f fd ["_law_actual", "_law_due"] (spEq n) := ok_equal0 F hm bE T hI n
    obtain ⟨fI, fdI, mI, kI, bI, GI⟩ := hI.ex
    refine F.ok scEq (fun vs H Q E h => ?_) (fun cdv A outer s H vs Q E hr h => ?_)
    · obtain ⟨v, u, rfl, _⟩ := h
      rfl
    · obtain ⟨v, u, rfl, he, k⟩ := h
      have hr1 : Room 1 _ := hr.mono (by omega)
      refine ⟨_, pss_cons (ps_if (pt_cmpR op_isN (pv 1) pe_non (nomark _)) pss_never pss_nil)
        (pss_cons (ps_if (pt_val (pe_callB call_isi (by rfl) T.isi (by decide +kernel) (pa_cons (pv 1) (pa_cons (pe_bltn (v := .ty "bool") (by rfl) T.bool (by decide +kernel) rfl) pa_nil)))) pss_never pss_nil)
        (pss_cons (ps_if (pt_val (pe_callB call_isi (by rfl) T.isi (by decide +kernel) (pa_cons (pv 1) (pa_cons (pe_bltn (v := .ty "int") (by rfl) T.int (by decide +kernel) rfl) pa_nil))))
          (pss_one (ps_ret (pe_and (pe_call GI hr1 rfl mI kI bI .nil pass0 (pa_cons (pv 0) pa_nil)) (pe_one (pe_cmpR op_eq (pv 0) (pv 1) (nomark _)))))) pss_nil)
        (pss_cons (ps_if (pt_val (pe_callB call_isi (by rfl) T.isi (by decide +kernel) (pa_cons (pv 1) (pa_cons (pe_bltn (v := .ty "str") (by rfl) T.str (by decide +kernel) rfl) pa_nil))))
          (pss_one (ps_ret (pe_and (pe_callB call_isi (by rfl) T.isi (by decide +kernel) (pa_cons (pv 0) (pa_cons (pe_bltn (v := .ty "str") (by rfl) T.str (by decide +kernel) rfl) pa_nil))) (pe_one (pe_cmpR op_eq (pv 0) (pv 1) (nomark _)))))) pss_nil)
        (pss_cons (ps_if (PW.pt (pw_and (pt_val (pe_callB call_isi (by rfl) T.isi (by decide +kernel) (pa_cons (pv 1) (pa_cons (pe_bltn (v := .ty "tuple") (by rfl) T.tuple (by decide +kernel) rfl) pa_nil))))
            (pw_and1 (pt_not (pt_val (pe_callB call_isi (by rfl) T.isi (by decide +kernel) (pa_cons (pv 0) (pa_cons (pe_bltn (v := .ty "tuple") (by rfl) T.tuple (by decide +kernel) rfl) pa_nil)))))))) pss_never pss_nil)
        (pss_cons (ps_if (PW.pt (pw_and (pt_val (pe_callB call_isi (by rfl) T.isi (by decide +kernel) (pa_cons (pv 1) (pa_cons (pe_bltn (v := .ty "list") (by rfl) T.list (by decide +kernel) rfl) pa_nil))))
            (pw_and1 (pt_not (pt_val (pe_callB call_isi (by rfl) T.isi (by decide +kernel) (pa_cons (pv 0) (pa_cons (pe_bltn (v := .ty "list") (by rfl) T.list (by decide +kernel) rfl) pa_nil)))))))) pss_never pss_nil)
        (pss_cons (ps_if (pt_cmpR op_ne (pe_callB call_len_seq (by rfl) T.len PySem.boot_len (pa_cons (pv 0) pa_nil)) (pe_callB call_len_seq (by rfl) T.len PySem.boot_len (pa_cons (pv 1) pa_nil)) (nomark _)) pss_never pss_nil)
        (pss_one (ps_ret (pe_callB (cr_all rfl) (by rfl) T.all (by decide +kernel) (pa_cons
          (pe_lc (own := [("_law_at", 2)]) (g := gName 2) (tt := tYes) (te := tCall (spEq n) [] E0 (tCons (tOp (rIx K) (tVar 0) (tVar 2)) (tCons (tOp (rIx K) (tVar 1) (tVar 2)) tNil))) rfl scEq.nd
            (pi_range1 rfl T.range (pa_cons (pe_callB call_len_seq (by rfl) T.len PySem.boot_len (pa_cons (pv 1) pa_nil)) pa_nil)) (blkOk_by (N := nEq) (sc := defScope sEqual) (by decide +kernel)) (fun _ _ _ _ _ => pg_name (i := 2) scEq.nd rfl (Or.inl rfl))
            (fun _ _ _ _ _ => pts_nil) (fun _ _ _ _ _ => pe_call GE hr rfl hm F.kp bE .nil pass0 (pa_cons (pe_ix ix_seq (pv 0) (pv 2) (fun _ _ => rfl)) (pa_cons (pe_ix ix_seq (pv 1) (pv 2) (fun _ _ => rfl)) pa_nil)))) pa_nil)))))))))), ?_⟩
      rcases he with ⟨i, rfl, rfl⟩ | ⟨z, rfl, rfl⟩ | ⟨a, b, xs, ys, rfl, rfl, hh, hl, hz, hi⟩
      · refine ⟨_, rfl, rfl, _, rfl, if_f rfl ?_⟩
        refine ⟨_, rfl, _, _, _, _, false, rfl, .ty _, .base (.int i), kit_ty (by decide +kernel), _, rfl, iteF ?_⟩
        refine ⟨_, rfl, _, _, _, _, true, rfl, .ty _, .base (.int i), kit_ty (by decide +kernel), _, rfl, iteT ?_⟩
        refine ⟨_, rfl, i, rfl, _, rfl, iteT ⟨_, rfl, _, rfl, rfl, ?_⟩⟩
        show Q (V.bl (decide (V.int i = V.int i))) H
        rw [decide_eq_true rfl]
        exact k H (Same.refl H)
      · refine ⟨_, rfl, rfl, _, rfl, if_f rfl ?_⟩
        refine ⟨_, rfl, _, _, _, _, false, rfl, .ty _, .base (.str z), kit_ty (by decide +kernel), _, rfl, iteF ?_⟩
        refine ⟨_, rfl, _, _, _, _, false, rfl, .ty _, .base (.str z), kit_ty (by decide +kernel), _, rfl, iteF ?_⟩
        refine ⟨_, rfl, _, _, _, _, true, rfl, .ty _, .base (.str z), kit_ty (by decide +kernel), _, rfl, iteT ?_⟩
        refine ⟨_, rfl, _, _, _, _, true, rfl, .ty _, .base (.str z), kit_ty (by decide +kernel), _, rfl, iteT ⟨_, rfl, _, rfl, rfl, ?_⟩⟩
        show Q (V.bl (decide (V.str z = V.str z))) H
        rw [decide_eq_true rfl]
        exact k H (Same.refl H)
      · have lenA : SqL K H a xs ∨ SqT K H a xs := hh.elim (fun h => .inr (SqT.of h.1)) fun h => .inl (SqL.of h.1)
        have lenB : SqL K H b ys ∨ SqT K H b ys := hh.elim (fun h => .inr (SqT.of h.2)) fun h => .inl (SqL.of h.2)
        have ixA : ∀ (H' : Hp) (j : Nat) (x : V) (Q' : VK), Same H H' → xs[j]? = some x → Q' x H' → rIx K (.ref a) (.int ((0 : Int) + (j : Int))) H' Q' := fun H' j x Q' s hx q => by
          have e0 : (0 : Int) + (j : Int) = (j : Int) := Int.zero_add _
          rw [e0]
          rcases hh with h | h
          · exact .inr (.inl ⟨a, xs, _, x, rfl, rfl, SqT.of (s _ _ h.1), atI_nat hx, q⟩)
          · exact .inl ⟨a, xs, _, x, rfl, rfl, SqL.of (s _ _ h.1), atI_nat hx, q⟩
        have ixB : ∀ (H' : Hp) (j : Nat) (x : V) (Q' : VK), Same H H' → ys[j]? = some x → Q' x H' → rIx K (.ref b) (.int ((0 : Int) + (j : Int))) H' Q' := fun H' j x Q' s hx q => by
          have e0 : (0 : Int) + (j : Int) = (j : Int) := Int.zero_add _
          rw [e0]
          rcases hh with h | h
          · exact .inr (.inl ⟨b, ys, _, x, rfl, rfl, SqT.of (s _ _ h.2), atI_nat hx, q⟩)
          · exact .inl ⟨b, ys, _, x, rfl, rfl, SqL.of (s _ _ h.2), atI_nat hx, q⟩
        have dn : ∀ c : Addr, decide (V.ref c = V.non) = false := fun c => decide_eq_false fun e => by cases e
        rcases hh with h | h
        refine ⟨_, rfl, rfl, _, rfl, if_f (dn b) ?_⟩
        refine ⟨_, rfl, _, _, _, _, false, rfl, .ty _, .base (.tup h.2), kit_ty (by decide +kernel), _, rfl, iteF ?_⟩
        refine ⟨_, rfl, _, _, _, _, false, rfl, .ty _, .base (.tup h.2), kit_ty (by decide +kernel), _, rfl, iteF ?_⟩
        refine ⟨_, rfl, _, _, _, _, false, rfl, .ty _, .base (.tup h.2), kit_ty (by decide +kernel), _, rfl, iteF ?_⟩
        refine ⟨_, rfl, _, _, _, _, true, rfl, .ty _, .base (.tup h.2), kit_ty (by decide +kernel), _, rfl, iteT ⟨_, rfl, _, _, _, _, true, rfl, .ty _, .base (.tup h.1), kit_ty (by decide +kernel), _, rfl, iteF ?_⟩⟩
        refine ⟨_, rfl, _, _, _, _, false, rfl, .ty _, .base (.tup h.2), kit_ty (by decide +kernel), _, rfl, iteF (iteF ?_)⟩
        rotate_left
        refine ⟨_, rfl, rfl, _, rfl, if_f (dn b) ?_⟩
        refine ⟨_, rfl, _, _, _, _, false, rfl, .ty _, .base (.lst h.2), kit_ty (by decide +kernel), _, rfl, iteF ?_⟩
        refine ⟨_, rfl, _, _, _, _, false, rfl, .ty _, .base (.lst h.2), kit_ty (by decide +kernel), _, rfl, iteF ?_⟩
        refine ⟨_, rfl, _, _, _, _, false, rfl, .ty _, .base (.lst h.2), kit_ty (by decide +kernel), _, rfl, iteF ?_⟩
        refine ⟨_, rfl, _, _, _, _, false, rfl, .ty _, .base (.lst h.2), kit_ty (by decide +kernel), _, rfl, iteF (iteF ?_)⟩
        refine ⟨_, rfl, _, _, _, _, true, rfl, .ty _, .base (.lst h.2), kit_ty (by decide +kernel), _, rfl, iteT ⟨_, rfl, _, _, _, _, true, rfl, .ty _, .base (.lst h.1), kit_ty (by decide +kernel), _, rfl, iteF ?_⟩⟩
        all_goals
          refine ⟨_, rfl, a, xs, rfl, lenA, _, rfl, b, ys, rfl, lenB, rfl, _, rfl, if_nf (decide_eq_true (by rw [hl])) ?_⟩
          refine ⟨_, rfl, b, ys, rfl, lenB, ((ys.length : Nat) : Int), rfl, by omega, by omega, fun D hD => lc_range (lo := 0) (n := ys.length) (fun j H' => Same H H' ∧ H' D = some (.lst (List.replicate j (.bl true)))) ⟨same_new hD, upd_same⟩ (fun j H' hj p => ?_) fun H1 p => ?_⟩
          · obtain ⟨x, hx⟩ : ∃ x, xs[j]? = some x := ⟨xs[j], List.getElem?_eq_getElem (by omega)⟩
            obtain ⟨y, hy⟩ : ∃ y, ys[j]? = some y := ⟨ys[j], List.getElem?_eq_getElem hj⟩
            refine ⟨rfl, _, rfl, _, rfl, ?_⟩
            refine ixA H' j x _ p.1 hx ?_
            refine ⟨_, rfl, _, rfl, ?_⟩
            refine ixB H' j y _ p.1 hy ?_
            refine ⟨x, y, rfl, (hi j x y hx hy).same p.1, fun H2 s2 => ⟨_, s2 _ _ p.2, ?_, same_put (p.1.trans s2) hD, ?_⟩⟩
            · rw [List.length_replicate]
              exact Nat.lt_of_lt_of_le (Nat.lt_of_lt_of_le hj hz) (by decide)
            · rw [upd_same, rep_snoc]
          · refine ⟨D, List.replicate ys.length true, rfl, SqL.of (by rw [p.2, rep_bl]), ?_⟩
            rw [all_true]
            exact k H1 p.1
theorem ok_equal {f : Addr} {fd : FuncData} (F : Fun K "_law_equal" "_law_equal" sEqual f fd) (hm : mg "_law_equal" = some (.ref f)) (T : Bn mg) (hI : Gd P w K mg base CX0 1 "_law_is_integer" ["_law_actual"] spIsInt) (n : Nat) :
    Gd P w K mg base CX0 (n + 2) "_law_equal" ["_law_actual", "_law_due"] (spEq n) :=
  have bE : Binds K fd ["_law_actual", "_law_due"] [] := F.binds fun _ _ _ _ _ _ us hl => match us, hl with | [_, _], _ => rfl
  ⟨f, fd, hm, F.kp, bE, ok_equal0 F hm bE T hI n⟩
end
end Bk

namespace Bk
open PySem PySem.Spec PyProof.Rows L2
/-- what the written part says of NotPossible where it is caught -/
structure Nc (K : PySem.W.Frag) (C : Addr) : Prop where
  xf : XfC K C
  te : PySem.W.exmOne K (.ref C) (.ref C) = some true
section
variable {P : Program} {w : World} {K : PySem.W.Frag} {mg : Str → Option Value} {base : Heap}
/-! ### _law_told -/
def spTold (B : Addr) : Sp := fun vs H Q _ => ∃ (b ls p : Addr) (n : Int) (xs cs : List V) (c : Cm), vs = [.ref b, .ref p] ∧ BookAt B H b ls n xs cs ∧ CmdV H n p c ∧ xs.length ≤ 100 ∧ cs.length < 20 ∧
  (poss xs c = true → ∀ H' : Hp, Kp (fun a => a = b ∨ a = ls) H H' → BookAt B H' b ls n (step xs c) (cs ++ [.ref p]) → Q (.int ((cs.length + 1 : Nat) : Int)) H') ∧
  (poss xs c = false → ∀ (H' : Hp) (q : Addr), Same H H' → H' q = some (.tup [.str "not", .str (word c)]) → Q (.ref q) H')
abbrev nTold : List Str := ["_law_book", "_law_command_here", "e"]
theorem scTold : FnScope nTold ["_law_book", "_law_command_here"] (defScope sTold) := ⟨rfl, rfl, rfl, by decide +kernel, rfl, by decide +kernel, by decide +kernel⟩
theorem ok_told {f B C fI fA : Addr} {fd fdA : FuncData} (F : Fun K "_law_told" "_law_told" sTold f fd) (hm : mg "_law_told" = some (.ref f)) (O : Bo K mg B) (N : Np K mg C fI) (X : Nc K C) (mA : Meth K B "act" fA) (bA : Binds K fdA ["self", "command"] [])
    (GA : FnOk P w K mg base (L2.CX P w) 5 fA fdA ["self", "command"] (spAct B C)) : Gd P w K mg base CX0 6 "_law_told" ["_law_book", "_law_command_here"] (spTold B) := by
  refine ⟨f, fd, hm, F.kp, F.binds fun _ _ _ _ _ _ us hl => match us, hl with | [_, _], _ => rfl, ?_⟩
  refine F.ok scTold (fun vs H Q E h => ?_) (fun cdv A outer s H vs Q E hr h => ?_)
  · obtain ⟨b, ls, p, n, xs, cs, c, rfl, _⟩ := h
    rfl
  · obtain ⟨b, ls, p, n, xs, cs, c, rfl, hB, hc, hz, hn, kQ, kN⟩ := h
    refine ⟨_, pss_one (ps_try_as (i := 2) (tb := fun W => tRet (tMeth B "act" (spAct B C) [] (fun cls d H1 => ∀ σ : L2.St, σ.length = 3 → W cls d σ H1) (tVar 0) (tCons (tVar 1) tNil))) (ts := fun a cls d => tRet (tTup (tCons (tC (.str "not")) (tCons (tXf a cls d C "why" (tVar 2)) tNil)))) (Wout := fun _ _ _ _ => False)
      rfl rfl scTold.nd rfl rfl ⟨rfl, by decide, Or.inl N.mC⟩ takes0
      (fun W pn xe tk _ => pss_one (ps_ret (pe_meth (pv 0) O.cl mA GA hr bA .nil (fun pins σ H s e s1 I c => tk e s1 (XE.of_call I (fun cls d H1 z => z σ I.len) c)) (pa_cons (pv 1) pa_nil))))
      (fun a oe cls d pn hz hf => pss_one (ps_ret (pe_tup (pa_cons pe_str (pa_cons (pe_xf X.xf N.no hz hf (pv 2)) pa_nil)))))), ?_⟩
    obtain ⟨dx, cm, r, sts, h1, _⟩ := id hB
    refine ⟨_, rfl, b, dx, _, rfl, h1, bf_no _ _ _ (by decide +kernel) (by decide +kernel) (by decide +kernel), _, rfl, b, ls, p, n, xs, cs, c, rfl, hB, hc, hz, hn, kQ, fun hp d H1 s1 e1 σ hσ => ?_⟩
    refine ⟨true, X.te, fun _ a0 _ => ?_, fun q => Bool.noConfusion q⟩
    exact ⟨_, List.getElem?_set_self (by omega), rfl, rfl, d, _, _, rfl, e1, lk_here, (by show 2 ≤ sizeLine; decide), fun q hq => kN hp _ q (s1.trans (same_new hq)) upd_same⟩
end
end Bk

namespace Bk
open PySem PySem.Spec PyProof.Rows L2
theorem eqd_problem {H : Hp} {q1 q2 r1 r2 : Addr} {n : Int} {xs : List V} (h1 : H q1 = some (.tup [.int n, .ref r1])) (h2 : H q2 = some (.tup [.int n, .ref r2])) (e1 : H r1 = some (.tup xs)) (e2 : H r2 = some (.tup xs)) (hz : xs.length ≤ 100) (hx : ∀ x ∈ xs, RuleV H n x) :
    EqD H 5 (.ref q1) (.ref q2) := by
  refine .tup h1 h2 rfl (by show 2 ≤ 1000; decide) fun i x y a b => ?_
  match i, a, b with
  | 0, a, b =>
    cases a
    cases b
    exact .int _ _
  | 1, a, b =>
    cases a
    cases b
    exact .tup' e1 e2 (by omega) fun z hz => (hx z hz).eqD
  | i + 2, a, b => cases a
theorem eqd_journal {H : Hp} {j1 j2 : Addr} {n : Int} {cs : List V} (h1 : H j1 = some (.tup cs)) (h2 : H j2 = some (.tup cs)) (hz : cs.length ≤ 100) (hc : ∀ v ∈ cs, ∃ (p : Addr) (c : Cm), v = .ref p ∧ CmdV H n p c) : EqD H 5 (.ref j1) (.ref j2) :=
  .tup' h1 h2 (by omega) fun z h => by
    obtain ⟨p, c, rfl, e⟩ := hc z h
    exact e.eqD
theorem eqd_both {H : Hp} {l1 l2 : Addr} {a1 a2 b1 b2 : V} (h1 : H l1 = some (.lst [a1, b1])) (h2 : H l2 = some (.lst [a2, b2])) (ha : EqD H 5 a1 a2) (hb : EqD H 5 b1 b2) : EqD H 6 (.ref l1) (.ref l2) := by
  refine .inr (.inr ⟨l1, l2, _, _, rfl, rfl, .inr ⟨h1, h2⟩, rfl, by show 2 ≤ 1000; decide, fun i x y a b => ?_⟩)
  match i, a, b with
  | 0, a, b =>
    cases a
    cases b
    exact ha
  | 1, a, b =>
    cases a
    cases b
    exact hb
  | i + 2, a, b => cases a
theorem eqd_not {H : Hp} {q1 q2 : Addr} {s : Str} (h1 : H q1 = some (.tup [.str "not", .str s])) (h2 : H q2 = some (.tup [.str "not", .str s])) : EqD H 6 (.ref q1) (.ref q2) :=
  .tup' h1 h2 (by show 2 ≤ 1000; decide) fun x hx => by
    simp only [List.mem_cons, List.not_mem_nil, or_false] at hx
    rcases hx with rfl | rfl <;> exact .str _ _
/-- what holds between two turns, but for the slots -/
structure Inn (B st sc b ls : Addr) (n : Int) (H : Hp) (r j : Addr) (xs cs : List V) : Prop where
  so : StOk H st sc
  bk : BookAt B H b ls n xs cs
  hr : H r = some (.tup xs)
  hj : H j = some (.tup cs)
  hx : ∀ x ∈ xs, RuleV H n x
  hc : ∀ v ∈ cs, ∃ (p : Addr) (c : Cm), v = .ref p ∧ CmdV H n p c
theorem Inn.same {B st sc b ls r j : Addr} {n : Int} {H H1 : Hp} {xs cs : List V} (h : Inn B st sc b ls n H r j xs cs) (s : Same H H1) : Inn B st sc b ls n H1 r j xs cs :=
  ⟨h.so.same s, h.bk.same s, s _ _ h.hr, s _ _ h.hj, fun x hx => (h.hx x hx).kept (Tups.of_same s), fun v hv => by
    obtain ⟨p, c, e, hp⟩ := h.hc v hv
    exact ⟨p, c, e, hp.kept (Tups.of_same s)⟩⟩
section
variable {P : Program} {w : World} {K : PySem.W.Frag} {mg : Str → Option Value} {base : Heap}
def spLaw (K : PySem.W.Frag) : Sp := fun vs H Q _ => ∃ (a : Addr) (ns : List Int), vs = [.ref a] ∧ SqL K H a (ns.map V.int) ∧ ns.length ≤ 63 ∧ ∀ H', Q (.bl true) H'
abbrev nLaw : List Str := ["_law_script", "_law_stream_here", "_law_size", "_law_book", "_law_rules", "_law_journal", "_law_turn", "_law_command_here", "_law_due"]
theorem scLaw : FnScope nLaw ["_law_script"] (defScope sLaw) := ⟨rfl, rfl, rfl, by decide +kernel, rfl, by decide +kernel, by decide +kernel⟩
theorem ok_law {f B fB fP fJ : Addr} {fd fdB fdP fdJ : FuncData} (F : Fun K "law" "law" sLaw f fd) (T : Bn mg) (O : Bo K mg B) (M : Mk K B fB) (GB : FnOk P w K mg base CX0 3 fB fdB ["self", "size"] (spBInit B)) (bB : Binds K fdB ["self", "size"] [])
    (mP : Meth K B "problem" fP) (GP : FnOk P w K mg base CX0 1 fP fdP ["self"] (spProblem B)) (bP : Binds K fdP ["self"] []) (mJ : Meth K B "journal" fJ) (GJ : FnOk P w K mg base CX0 1 fJ fdJ ["self"] (spJournal B)) (bJ : Binds K fdJ ["self"] [])
    (hS : Gd P w K mg base CX0 1 "_law_stream" ["_law_script"] (spStream K)) (hN : Gd P w K mg base CX0 1 "_law_next" ["_law_stream_here", "_law_many"] spNext) (hC : Gd P w K mg base CX0 3 "_law_command" ["_law_stream_here", "_law_size", "_law_rules"] spCommand)
    (hW : Gd P w K mg base CX0 1 "_law_why_not" ["_law_rules", "_law_command_here"] spWhy) (hL : Gd P w K mg base CX0 1 "_law_behind" ["_law_rules", "_law_command_here"] spLBehind) (hT : Gd P w K mg base CX0 6 "_law_told" ["_law_book", "_law_command_here"] (spTold B))
    (hE : Gd P w K mg base CX0 8 "_law_equal" ["_law_actual", "_law_due"] (spEq 6)) : FnOk P w K mg base CX0 9 f fd ["_law_script"] (spLaw K) := by
  obtain ⟨fS, fdS, mS, kS, bS, GS⟩ := hS.ex
  obtain ⟨fN, fdN, mN, kN, bN, GN⟩ := hN.ex
  obtain ⟨fC, fdC, mC, kC, bC, GC⟩ := hC.ex
  obtain ⟨fW, fdW, mW, kW, bW, GW⟩ := hW.ex
  obtain ⟨fL, fdL, mL, kL, bL, GL⟩ := hL.ex
  obtain ⟨fT, fdT, mT, kT, bT, GT⟩ := hT.ex
  obtain ⟨fE, fdE, mE, kE, bE, GE⟩ := hE.ex
  refine F.ok scLaw (fun vs H Q E h => ?_) (fun cdv A outer s H vs Q E hr h => ?_)
  · obtain ⟨a, ns, rfl, _⟩ := h
    rfl
  · obtain ⟨a, ns, rfl, hS, hlen, k⟩ := h
    have hr1 : Room 1 _ := hr.mono (by decide)
    have hr3 : Room 3 _ := hr.mono (by decide)
    have hr4 : Room 4 _ := hr.mono (by decide)
    have hr6 : Room 6 _ := hr.mono (by decide)
    refine ⟨_, pss_cons (ps_set (i := 1) scLaw.nd rfl (Or.inl rfl) (pe_call GS hr1 rfl mS kS bS .nil pass0 (pa_cons (pv 0) pa_nil)))
      (pss_cons (ps_set (i := 2) scLaw.nd rfl (Or.inl rfl) (pe_op op_add pe_int (pe_call GN hr1 rfl mN kN bN .nil pass0 (pa_cons (pv 1) (pa_cons pe_int pa_nil)))))
      (pss_cons (ps_set (i := 3) scLaw.nd rfl (Or.inl rfl) (pe_make M GB hr4 rfl O.mB bB .nil pass0 (pa_cons (pv 2) pa_nil)))
      (pss_cons (ps_set (i := 4) scLaw.nd rfl (Or.inl rfl) (pe_tup pa_nil))
      (pss_cons (ps_set (i := 5) scLaw.nd rfl (Or.inl rfl) (pe_tup pa_nil))
      (pss_cons (ps_for PassesOwn.never rfl (pi_range1 rfl T.range (pa_cons (pe_call GN hr1 rfl mN kN bN .nil pass0 (pa_cons (pv 1) (pa_cons pe_int pa_nil))) pa_nil)) (pg_name (i := 6) scLaw.nd rfl (Or.inl rfl))
        (pss_cons (ps_set (i := 7) scLaw.nd rfl (Or.inl rfl) (pe_call GC hr3 rfl mC kC bC .nil pass0 (pa_cons (pv 1) (pa_cons (pv 2) (pa_cons (pv 4) pa_nil)))))
        (pss_cons (ps_set (i := 8) scLaw.nd rfl (Or.inl rfl) (pe_call GW hr1 rfl mW kW bW .nil pass0 (pa_cons (pv 4) (pa_cons (pv 7) pa_nil))))
        (C8.pss_cut (ps_if (pt_cmpR op_eq (pv 8) pe_str (nomark _))
            (pss_cons (ps_set (i := 4) scLaw.nd rfl (Or.inl rfl) (pe_call GL hr1 rfl mL kL bL .nil pass0 (pa_cons (pv 4) (pa_cons (pv 7) pa_nil))))
            (pss_cons (ps_set (i := 5) scLaw.nd rfl (Or.inl rfl) (pe_op op_catA (pv 5) (pe_tup (pa_cons (pv 7) pa_nil))))
            (pss_one (ps_set (i := 8) scLaw.nd rfl (Or.inl rfl) (pe_callB call_len_seq (by rfl) T.len PySem.boot_len (pa_cons (pv 5) pa_nil))))))
            (pss_one (ps_set (i := 8) scLaw.nd rfl (Or.inl rfl) (pe_tup (pa_cons pe_str (pa_cons (pv 8) pa_nil))))))
        (C8.pss_cut (ps_if (pt_not (pt_val (pe_call GE hr rfl mE kE bE .nil pass0 (pa_cons (pe_call GT hr6 rfl mT kT bT .nil pass0 (pa_cons (pv 3) (pa_cons (pv 7) pa_nil))) (pa_cons (pv 8) pa_nil))))) pss_never pss_nil)
        (pss_one (ps_if (pt_not (pt_val (pe_call GE hr rfl mE kE bE .nil pass0 (pa_cons (pe_lst (pa_cons (pe_meth0 (pv 3) O.cl mP GP hr1 bP .nil pass0) (pa_cons (pe_meth0 (pv 3) O.cl mJ GJ hr1 bJ .nil pass0) pa_nil)))
            (pa_cons (pe_lst (pa_cons (pe_tup (pa_cons (pv 2) (pa_cons (pv 4) pa_nil))) (pa_cons (pv 5) pa_nil))) pa_nil))))) pss_never pss_nil)))))))
      (pss_one (ps_ret (pe_call GE hr rfl mE kE bE .nil pass0 (pa_cons (pe_meth0 (pv 3) O.cl mP GP hr1 bP .nil pass0) (pa_cons (pe_tup (pa_cons (pv 2) (pa_cons (pv 4) pa_nil))) pa_nil)))))))))), ?_⟩
    refine ⟨_, rfl, a, ns, rfl, hS, fun H1 st sc s1 so1 => ?_⟩
    refine ⟨_, rfl, st, sc, 7, rfl, so1, by omega, by omega, fun H2 d k2 so2 d0 d7 => ⟨_, _, rfl, rfl, ?_⟩⟩
    refine ⟨_, rfl, fun b dx hb hdx hne => ?_⟩
    have nbst : b ≠ st := ne_there so2.there.1 hb
    have nbsc : b ≠ sc := ne_there so2.there.2 hb
    have so2' : StOk (upd (upd H2 dx (.own b)) b (.ins B dx [])) st sc := (so2.fresh (ne_there so2.there.1 hdx) (ne_there so2.there.2 hdx)).fresh nbst nbsc
    refine ⟨b, dx, 1 + d, rfl, by omega, by omega, upd_same, fun H3 ls k3 hls hB => ⟨rfl, ?_⟩⟩
    have nlst : ls ≠ st := ne_there so2'.there.1 hls
    have nlsc : ls ≠ sc := ne_there so2'.there.2 hls
    have so3 : StOk H3 st sc := so2'.kept k3 (Ne.symm nbst) (Ne.symm nbsc)
    generalize hn : 1 + d = n at hB
    have n1 : 1 ≤ n := by omega
    have n7 : n ≤ 7 := by omega
    refine ⟨Nat.zero_le _, fun r hr0 => ⟨Nat.zero_le _, fun j hj0 => ?_⟩⟩
    have s4 := same_new (o := .tup []) hr0
    have s5 := same_new (o := .tup []) hj0
    have i5 : Inn B st sc b ls n (upd (upd H3 r (.tup [])) j (.tup [])) r j [] [] := ⟨(so3.same s4).same s5, (hB.same s4).same s5, s5 _ _ upd_same, upd_same, (fun x hx => by cases hx), (fun x hx => by cases hx)⟩
    refine ⟨_, rfl, st, sc, 19, rfl, i5.so, by omega, by omega, fun H6 d6 k6 so6 e0 e1 => ⟨d6, rfl, by omega, by omega, ?_⟩⟩
    have t6 := i5.so.tups k6
    have i6 : Inn B st sc b ls n H6 r j [] [] := ⟨so6, i5.bk.kept k6 nbst nlst t6, t6 _ _ i5.hr, t6 _ _ i5.hj, (fun x hx => by cases hx), (fun x hx => by cases hx)⟩
    refine for_range (lo := 0) (n := d6.toNat) (fun i σ H' => ∃ (r j : Addr) (xs cs : List V) (v6 v7 v8 : Option V), σ = [some (.ref a), some (.ref st), some (.int n), some (.ref b), some (.ref r), some (.ref j), v6, v7, v8] ∧ Inn B st sc b ls n H' r j xs cs ∧ xs.length ≤ i ∧ cs.length ≤ i)
      ⟨r, j, [], [], none, none, none, by rw [← hn]; rfl, i6, Nat.zero_le _, Nat.zero_le _⟩ ?_ ?_
    · rintro i σ H7 hi ⟨r, j, xs, cs, v6, v7, v8, rfl, I, lx, lc⟩
      have hi18 : i ≤ 18 := by omega
      refine ⟨_, rfl, _, rfl, _, rfl, st, sc, r, n, xs, rfl, I.so, n1, n7, I.hr, fun H8 p c k8 so8 hc => ?_⟩
      have t8 := I.so.tups k8
      have I8 : Inn B st sc b ls n H8 r j xs cs := ⟨so8, I.bk.kept k8 nbst nlst t8, t8 _ _ I.hr, t8 _ _ I.hj, fun x hx => (I.hx x hx).kept t8, fun v hv => by
        obtain ⟨p', c', e, hp⟩ := I.hc v hv
        exact ⟨p', c', e, hp.kept t8⟩⟩
      refine ⟨_, rfl, _, rfl, r, p, n, xs, c, rfl, I8.hr, hc, fun H9 s9 => ?_⟩
      have I9 := I8.same s9
      have hc9 := hc.kept (Tups.of_same s9)
      refine ⟨fun σ' H' => ∃ (r' j' : Addr) (xs' cs' : List V) (v6 due : V), σ' = [some (.ref a), some (.ref st), some (.int n), some (.ref b), some (.ref r'), some (.ref j'), some v6, some (.ref p), some due] ∧
          StOk H' st sc ∧ BookAt B H' b ls n xs cs ∧ CmdV H' n p c ∧ H' r' = some (.tup xs') ∧ H' j' = some (.tup cs') ∧ (∀ x ∈ xs', RuleV H' n x) ∧ (∀ v ∈ cs', ∃ (p : Addr) (c : Cm), v = .ref p ∧ CmdV H' n p c) ∧
          ((poss xs c = true ∧ xs' = step xs c ∧ cs' = cs ++ [.ref p] ∧ due = .int ((cs.length + 1 : Nat) : Int)) ∨ (poss xs c = false ∧ xs' = xs ∧ cs' = cs ∧ ∃ q : Addr, due = .ref q ∧ H' q = some (.tup [.str "not", .str (word c)]))), ?_, ?_⟩
      · refine ⟨_, rfl, rfl, _, rfl, ?_⟩
        by_cases hp : poss xs c = true
        · refine if_t (decide_eq_true (by rw [if_pos hp])) ?_
          refine ⟨_, rfl, _, rfl, r, p, n, xs, c, rfl, I9.hr, by omega, hc9, hp, fun H10 r' s10 e10 => ?_⟩
          have I10 := I9.same s10
          refine ⟨_, rfl, _, rfl, (by show 1 ≤ sizeLine; decide), fun t ht => ?_⟩
          have s11 := same_new (o := .tup [.ref p]) ht
          refine cat_any (K := K) (s11 _ _ I10.hj) upd_same (by show cs.length + 1 ≤ 1000; omega) fun H12 j' s12 e12 => ?_
          have s912 := (s10.trans s11).trans s12
          have I12 := I9.same s912
          have hc12 := hc9.kept (Tups.of_same s912)
          have e10' := (s11.trans s12) _ _ e10
          refine ⟨_, rfl, j', _, rfl, .inr (SqT.of e12), ?_⟩
          refine ⟨r', j', step xs c, cs ++ [.ref p], _, _, rfl, I12.so, I12.bk, hc12, e10', e12, step_rules I12.hx hc12, fun v hv => ?_, .inl ⟨hp, rfl, rfl, ?_⟩⟩
          · rcases List.mem_append.mp hv with hv | hv
            · exact I12.hc v hv
            · exact ⟨p, c, List.mem_singleton.mp hv, hc12⟩
          · rw [List.length_append] <;> rfl
        · have hp' : poss xs c = false := by simpa using hp
          refine if_f (decide_eq_false fun e => ?_) ?_
          · rw [if_neg hp] at e
            have e2 : word c = "" := by injection e
            cases c with
            | add v => exact absurd (show ("many" : Str) = "" from e2) (by decide +kernel)
            | drop i => exact absurd (show ("missing" : Str) = "" from e2) (by decide +kernel)
            | put i v => exact absurd (show ("missing" : Str) = "" from e2) (by decide +kernel)
          · refine ⟨_, rfl, (by show 2 ≤ sizeLine; decide), fun q hq => ?_⟩
            rw [if_neg hp]
            have s10 := same_new (o := .tup [.str "not", .str (word c)]) hq
            have I10 := I9.same s10
            exact ⟨r, j, xs, cs, _, _, rfl, I10.so, I10.bk, hc9.kept (Tups.of_same s10), I10.hr, I10.hj, I10.hx, I10.hc, .inr ⟨hp', rfl, rfl, q, rfl, upd_same⟩⟩
      · rintro σ' H10 ⟨r', j', xs', cs', v6', due, rfl, so10, bk10, hc10, hr10, hj10, hx10, hcs10, hd⟩
        refine ⟨fun σ' H' => ∃ (v6 v7 v8 : Option V), σ' = [some (.ref a), some (.ref st), some (.int n), some (.ref b), some (.ref r'), some (.ref j'), v6, v7, v8] ∧ Inn B st sc b ls n H' r' j' xs' cs', ?_, ?_⟩
        · refine ⟨_, rfl, _, rfl, b, ls, p, n, xs, cs, c, rfl, bk10, hc10, by omega, by omega, fun hp H11 k11 bk11 => ?_, fun hp H11 q s11 e11 => ?_⟩
          · have nst : ¬ (st = b ∨ st = ls) := fun z => z.elim (fun z => nbst z.symm) fun z => nlst z.symm
            have nsc : ¬ (sc = b ∨ sc = ls) := fun z => z.elim (fun z => nbsc z.symm) fun z => nlsc z.symm
            have t11 := k11.tups bk10.noTup
            rcases hd with ⟨_, ex, ec, ed⟩ | ⟨hf, _⟩
            · subst ex ec ed
              refine ⟨_, rfl, _, _, rfl, .int 5 _, fun H12 s12 => ⟨_, rfl, iteF ?_⟩⟩
              have i11 : Inn B st sc b ls n H11 r' j' (step xs c) (cs ++ [V.ref p]) := ⟨so10.kept k11 nst nsc, bk11, t11 _ _ hr10, t11 _ _ hj10, fun x hx => (hx10 x hx).kept t11, fun v hv => by
                obtain ⟨p', c', e, hp⟩ := hcs10 v hv
                exact ⟨p', c', e, hp.kept t11⟩⟩
              exact ⟨_, _, _, rfl, i11.same s12⟩
            · rw [hp] at hf
              cases hf
          · rcases hd with ⟨hf, _⟩ | ⟨_, ex, ec, q0, ed, eq0⟩
            · rw [hp] at hf
              cases hf
            · subst ex ec ed
              refine ⟨_, rfl, _, _, rfl, eqd_not e11 (s11 _ _ eq0), fun H12 s12 => ⟨_, rfl, iteF ?_⟩⟩
              have i10 : Inn B st sc b ls n H10 r' j' xs' cs' := ⟨so10, bk10, hr10, hj10, hx10, hcs10⟩
              exact ⟨_, _, _, rfl, i10.same (s11.trans s12)⟩
        · rintro σ' H11 ⟨w6, w7, w8, rfl, I11⟩
          have hlx : xs'.length ≤ i + 1 := by
            rcases hd with ⟨_, ex, _⟩ | ⟨_, ex, _⟩
            · rw [ex]
              exact Nat.le_trans (step_length xs c) (by omega)
            · rw [ex]
              omega
          have hlc : cs'.length ≤ i + 1 := by
            rcases hd with ⟨_, _, ec, _⟩ | ⟨_, _, ec, _⟩
            · rw [ec, List.length_append]
              show cs.length + 1 ≤ i + 1
              omega
            · rw [ec]
              omega
          obtain ⟨dx2, cm2, rr, sts, h1, _⟩ := id I11.bk
          refine ⟨_, rfl, b, dx2, _, rfl, h1, bf_no _ _ _ (by decide +kernel) (by decide +kernel) (by decide +kernel), b, ls, n, xs', cs', rfl, I11.bk, fun H12 q1 r1 s12 e12 er12 => ?_⟩
          refine ⟨_, rfl, b, dx2, _, rfl, s12 _ _ h1, bf_no _ _ _ (by decide +kernel) (by decide +kernel) (by decide +kernel), b, ls, n, xs', cs', rfl, I11.bk.same s12, fun j1 ej1 => ⟨(by show 2 ≤ sizeLine; decide), fun l1 hl1 => ?_⟩⟩
          have s13 := same_new (o := .lst [.ref q1, .ref j1]) hl1
          refine ⟨_, rfl, _, rfl, (by show 2 ≤ sizeLine; decide), fun q2 hq2 => ⟨_, rfl, (by show 2 ≤ sizeLine; decide), fun l2 hl2 => ?_⟩⟩
          have s14 := same_new (o := .tup [.int n, .ref r']) hq2
          have s15 := same_new (o := .lst [.ref q2, .ref j']) hl2
          have s1115 := ((s12.trans s13).trans s14).trans s15
          have I15 := I11.same s1115
          have s1315 := (s13.trans s14).trans s15
          refine ⟨_, _, rfl, eqd_both ((s14.trans s15) _ _ upd_same) upd_same (eqd_problem (s1315 _ _ e12) (s15 _ _ upd_same) (s1315 _ _ er12) I15.hr (by omega) I15.hx) (eqd_journal (s1315 _ _ ej1) I15.hj (by omega) I15.hc), fun H16 s16 => ⟨_, rfl, iteF ?_⟩⟩
          exact ⟨r', j', xs', cs', _, _, _, rfl, I15.same s16, hlx, hlc⟩
    · rintro σ H7 ⟨r, j, xs, cs, v6, v7, v8, rfl, I, lx, lc⟩
      obtain ⟨dx2, cm2, rr, sts, h1, _⟩ := id I.bk
      refine ⟨_, rfl, b, dx2, _, rfl, h1, bf_no _ _ _ (by decide +kernel) (by decide +kernel) (by decide +kernel), b, ls, n, xs, cs, rfl, I.bk, fun H8 q1 r1 s8 e8 er8 => ?_⟩
      refine ⟨_, rfl, _, rfl, (by show 2 ≤ sizeLine; decide), fun q2 hq2 => ?_⟩
      have s9 := same_new (o := .tup [.int n, .ref r]) hq2
      have I9 := I.same (s8.trans s9)
      exact ⟨_, _, rfl, (eqd_problem (s9 _ _ e8) upd_same (s9 _ _ er8) I9.hr (by omega) I9.hx).up, fun H10 _ => k H10⟩
end
end Bk

namespace Bk
open PySem PySem.Spec PyProof.Rows L2
/-- an error of the class at S is what «except S» names -/
theorem exm_own {K : PySem.W.Frag} {S : Addr} (hb : PySem.W.subIn K (.ref S) (.type "BaseException") = some true) (hc : PySem.W.isClsIn K S = true) (ht : PySem.W.typeIn K (.ref S) = some (.type "type")) (hs : PySem.W.subIn K (.ref S) (.ref S) = some true) : PySem.W.exmOne K (.ref S) (.ref S) = some true := by
  have hc' : (PySem.W.clsIn K S).isSome = true := hc
  unfold PySem.W.exmOne PySem.W.kitCls
  simp [hb, ht, hs, hc']
theorem all_mk {l : PySem.W.OpenLaw} {w : World} {K : PySem.W.Frag} {h : Heap} {mg : Str → Option Value} {fa B C pe aR f1 f2 f3 f4 f5 f6 f7 f8 f9 f10 f11 f12 f13 f14 f15 f16 f17 f18 f19 f20 f21 f22 f23 : Addr} (X : K.In h) (G : h.Ns mainGlobals mg) (hfa : mg "law" = some (.ref fa))
    {od1 an1 od2 an2 od3 an3 od4 an4 od5 an5 od6 an6 od7 an7 od8 an8 od9 an9 od10 an10 od11 an11 od12 an12 od13 an13 od14 an14 od15 an15 od16 an16 od17 an17 od18 an18 od19 an19 od20 an20 od21 an21 od22 an22 od23 an23 : Option Addr} {sl1 sl2 sl3 sl4 sl5 sl6 sl7 sl8 sl9 sl10 sl11 sl12 sl13 sl14 sl15 sl16 sl17 sl18 sl19 sl20 sl21 sl22 sl23 : Array (Option Value)}
    {oc1 kV1 dc1 pm1 cd1 ct1 oc2 kV2 dc2 pm2 cd2 ct2 oc3 kV3 dc3 pm3 cd3 ct3 oc4 kV4 dc4 pm4 cd4 ct4 oc5 kV5 dc5 pm5 cd5 ct5 oc6 kV6 dc6 pm6 cd6 ct6 oc7 kV7 dc7 pm7 cd7 ct7 oc8 kV8 dc8 pm8 cd8 ct8 oc9 kV9 dc9 pm9 cd9 ct9 oc10 kV10 dc10 pm10 cd10 ct10 oc11 kV11 dc11 pm11 cd11 ct11 oc12 kV12 dc12 pm12 cd12 ct12 oc13 kV13 dc13 pm13 cd13 ct13 oc14 kV14 dc14 pm14 cd14 ct14 oc15 kV15 dc15 pm15 cd15 ct15 oc16 kV16 dc16 pm16 cd16 ct16 oc17 kV17 dc17 pm17 cd17 ct17 oc18 kV18 dc18 pm18 cd18 ct18 oc19 kV19 dc19 pm19 cd19 ct19 oc20 kV20 dc20 pm20 cd20 ct20 oc21 kV21 dc21 pm21 cd21 ct21 oc22 kV22 dc22 pm22 cd22 ct22 oc23 kV23 dc23 pm23 cd23 ct23 : Value}
    {nm qn : Str} {NC : Addr} {bs : List Value} {sn : List Str} {sub : List Value} {ab : Bool} {col : Option Bool} {dd odR : Option Addr} {m0 m1 m2 m3 m5 : Option Value} {t1 t2 t3 ta tb tc : Tok} {nR : Nat} {slR : Array (Option Value)}
    (aB : PySem.W.nsIn K mainGlobals "Book" = some (some (.ref B)))
    (aC : PySem.W.nsIn K mainGlobals "NotPossible" = some (some (.ref C)))
    (xL : K.lookup C = some (excClassObj nm qn C NC bs [.ref pe, .type "ValueError", .type "Exception", .type "BaseException", .type "object"] true sn sub ab col dd m0 m1 m2 m3 m5 "ValueError.__new__"))
    (a1 : PySem.W.nsIn K mainGlobals "is_integer" = some (some (.ref f1)))
    (l1 : K.lookup f1 = some ⟨oc1, od1, .func (PySem.W.fnOf "is_integer" "is_integer" (defArgs sIsInt) (defBody sIsInt) (defScope sIsInt) .none kV1 dc1 pm1 an1 cd1 ct1), sl1⟩)
    (c1 : PySem.W.codeIn K cd1 "is_integer" = true)
    (k1 : PySem.W.keepIn K (.ref f1) = true)
    (a2 : PySem.W.nsIn K mainGlobals "is_task" = some (some (.ref f2)))
    (l2 : K.lookup f2 = some ⟨oc2, od2, .func (PySem.W.fnOf "is_task" "is_task" (defArgs sIsTask) (defBody sIsTask) (defScope sIsTask) .none kV2 dc2 pm2 an2 cd2 ct2), sl2⟩)
    (c2 : PySem.W.codeIn K cd2 "is_task" = true)
    (k2 : PySem.W.keepIn K (.ref f2) = true)
    (a3 : PySem.W.nsIn K mainGlobals "is_allowed" = some (some (.ref f3)))
    (l3 : K.lookup f3 = some ⟨oc3, od3, .func (PySem.W.fnOf "is_allowed" "is_allowed" (defArgs sIsAllowed) (defBody sIsAllowed) (defScope sIsAllowed) .none kV3 dc3 pm3 an3 cd3 ct3), sl3⟩)
    (c3 : PySem.W.codeIn K cd3 "is_allowed" = true)
    (k3 : PySem.W.keepIn K (.ref f3) = true)
    (a4 : PySem.W.nsIn K mainGlobals "is_rule" = some (some (.ref f4)))
    (l4 : K.lookup f4 = some ⟨oc4, od4, .func (PySem.W.fnOf "is_rule" "is_rule" (defArgs sIsRule) (defBody sIsRule) (defScope sIsRule) .none kV4 dc4 pm4 an4 cd4 ct4), sl4⟩)
    (c4 : PySem.W.codeIn K cd4 "is_rule" = true)
    (k4 : PySem.W.keepIn K (.ref f4) = true)
    (a5 : PySem.W.nsIn K mainGlobals "is_size" = some (some (.ref f5)))
    (l5 : K.lookup f5 = some ⟨oc5, od5, .func (PySem.W.fnOf "is_size" "is_size" (defArgs sIsSize) (defBody sIsSize) (defScope sIsSize) .none kV5 dc5 pm5 an5 cd5 ct5), sl5⟩)
    (c5 : PySem.W.codeIn K cd5 "is_size" = true)
    (k5 : PySem.W.keepIn K (.ref f5) = true)
    (a6 : PySem.W.nsIn K mainGlobals "is_command" = some (some (.ref f6)))
    (l6 : K.lookup f6 = some ⟨oc6, od6, .func (PySem.W.fnOf "is_command" "is_command" (defArgs sIsCmd) (defBody sIsCmd) (defScope sIsCmd) .none kV6 dc6 pm6 an6 cd6 ct6), sl6⟩)
    (c6 : PySem.W.codeIn K cd6 "is_command" = true)
    (k6 : PySem.W.keepIn K (.ref f6) = true)
    (a7 : PySem.W.nsIn K mainGlobals "behind" = some (some (.ref f7)))
    (l7 : K.lookup f7 = some ⟨oc7, od7, .func (PySem.W.fnOf "behind" "behind" (defArgs sBehind) (defBody sBehind) (defScope sBehind) .none kV7 dc7 pm7 an7 cd7 ct7), sl7⟩)
    (c7 : PySem.W.codeIn K cd7 "behind" = true)
    (k7 : PySem.W.keepIn K (.ref f7) = true)
    (a8 : PySem.W.nsIn K mainGlobals "_law_stream" = some (some (.ref f8)))
    (l8 : K.lookup f8 = some ⟨oc8, od8, .func (PySem.W.fnOf "_law_stream" "_law_stream" (defArgs sStream) (defBody sStream) (defScope sStream) .none kV8 dc8 pm8 an8 cd8 ct8), sl8⟩)
    (c8 : PySem.W.codeIn K cd8 "_law_stream" = true)
    (k8 : PySem.W.keepIn K (.ref f8) = true)
    (a9 : PySem.W.nsIn K mainGlobals "_law_next" = some (some (.ref f9)))
    (l9 : K.lookup f9 = some ⟨oc9, od9, .func (PySem.W.fnOf "_law_next" "_law_next" (defArgs sNext) (defBody sNext) (defScope sNext) .none kV9 dc9 pm9 an9 cd9 ct9), sl9⟩)
    (c9 : PySem.W.codeIn K cd9 "_law_next" = true)
    (k9 : PySem.W.keepIn K (.ref f9) = true)
    (a10 : PySem.W.nsIn K mainGlobals "_law_is_integer" = some (some (.ref f10)))
    (l10 : K.lookup f10 = some ⟨oc10, od10, .func (PySem.W.fnOf "_law_is_integer" "_law_is_integer" (defArgs sLInt) (defBody sLInt) (defScope sLInt) .none kV10 dc10 pm10 an10 cd10 ct10), sl10⟩)
    (c10 : PySem.W.codeIn K cd10 "_law_is_integer" = true)
    (k10 : PySem.W.keepIn K (.ref f10) = true)
    (a11 : PySem.W.nsIn K mainGlobals "_law_equal" = some (some (.ref f11)))
    (l11 : K.lookup f11 = some ⟨oc11, od11, .func (PySem.W.fnOf "_law_equal" "_law_equal" (defArgs sEqual) (defBody sEqual) (defScope sEqual) .none kV11 dc11 pm11 an11 cd11 ct11), sl11⟩)
    (c11 : PySem.W.codeIn K cd11 "_law_equal" = true)
    (k11 : PySem.W.keepIn K (.ref f11) = true)
    (a12 : PySem.W.nsIn K mainGlobals "_law_relations" = some (some (.ref f12)))
    (l12 : K.lookup f12 = some ⟨oc12, od12, .func (PySem.W.fnOf "_law_relations" "_law_relations" (defArgs sRels) (defBody sRels) (defScope sRels) .none kV12 dc12 pm12 an12 cd12 ct12), sl12⟩)
    (c12 : PySem.W.codeIn K cd12 "_law_relations" = true)
    (k12 : PySem.W.keepIn K (.ref f12) = true)
    (a13 : PySem.W.nsIn K mainGlobals "_law_rule" = some (some (.ref f13)))
    (l13 : K.lookup f13 = some ⟨oc13, od13, .func (PySem.W.fnOf "_law_rule" "_law_rule" (defArgs sRule) (defBody sRule) (defScope sRule) .none kV13 dc13 pm13 an13 cd13 ct13), sl13⟩)
    (c13 : PySem.W.codeIn K cd13 "_law_rule" = true)
    (k13 : PySem.W.keepIn K (.ref f13) = true)
    (a14 : PySem.W.nsIn K mainGlobals "_law_command" = some (some (.ref f14)))
    (l14 : K.lookup f14 = some ⟨oc14, od14, .func (PySem.W.fnOf "_law_command" "_law_command" (defArgs sCmd) (defBody sCmd) (defScope sCmd) .none kV14 dc14 pm14 an14 cd14 ct14), sl14⟩)
    (c14 : PySem.W.codeIn K cd14 "_law_command" = true)
    (k14 : PySem.W.keepIn K (.ref f14) = true)
    (a15 : PySem.W.nsIn K mainGlobals "_law_why_not" = some (some (.ref f15)))
    (l15 : K.lookup f15 = some ⟨oc15, od15, .func (PySem.W.fnOf "_law_why_not" "_law_why_not" (defArgs sWhy) (defBody sWhy) (defScope sWhy) .none kV15 dc15 pm15 an15 cd15 ct15), sl15⟩)
    (c15 : PySem.W.codeIn K cd15 "_law_why_not" = true)
    (k15 : PySem.W.keepIn K (.ref f15) = true)
    (a16 : PySem.W.nsIn K mainGlobals "_law_behind" = some (some (.ref f16)))
    (l16 : K.lookup f16 = some ⟨oc16, od16, .func (PySem.W.fnOf "_law_behind" "_law_behind" (defArgs sLBehind) (defBody sLBehind) (defScope sLBehind) .none kV16 dc16 pm16 an16 cd16 ct16), sl16⟩)
    (c16 : PySem.W.codeIn K cd16 "_law_behind" = true)
    (k16 : PySem.W.keepIn K (.ref f16) = true)
    (a17 : PySem.W.nsIn K mainGlobals "_law_told" = some (some (.ref f17)))
    (l17 : K.lookup f17 = some ⟨oc17, od17, .func (PySem.W.fnOf "_law_told" "_law_told" (defArgs sTold) (defBody sTold) (defScope sTold) .none kV17 dc17 pm17 an17 cd17 ct17), sl17⟩)
    (c17 : PySem.W.codeIn K cd17 "_law_told" = true)
    (k17 : PySem.W.keepIn K (.ref f17) = true)
    (a18 : PySem.W.nsIn K mainGlobals "law" = some (some (.ref f18)))
    (l18 : K.lookup f18 = some ⟨oc18, od18, .func (PySem.W.fnOf "law" "law" (defArgs sLaw) (defBody sLaw) (defScope sLaw) .none kV18 dc18 pm18 an18 cd18 ct18), sl18⟩)
    (c18 : PySem.W.codeIn K cd18 "law" = true)
    (k18 : PySem.W.keepIn K (.ref f18) = true)
    (a19 : PySem.W.findIn K (.ref B) "__init__" = some (some (.ref f19)))
    (i19 : PySem.W.isFn K (.ref f19) = true)
    (l19 : K.lookup f19 = some ⟨oc19, od19, .func (PySem.W.fnOf "__init__" "Book.__init__" (defArgs sBInit) (defBody sBInit) (defScope sBInit) .none kV19 dc19 pm19 an19 cd19 ct19), sl19⟩)
    (c19 : PySem.W.codeIn K cd19 "Book.__init__" = true)
    (k19 : PySem.W.keepIn K (.ref f19) = true)
    (a20 : PySem.W.findIn K (.ref B) "act" = some (some (.ref f20)))
    (i20 : PySem.W.isFn K (.ref f20) = true)
    (l20 : K.lookup f20 = some ⟨oc20, od20, .func (PySem.W.fnOf "act" "Book.act" (defArgs sAct) (defBody sAct) (defScope sAct) .none kV20 dc20 pm20 an20 cd20 ct20), sl20⟩)
    (c20 : PySem.W.codeIn K cd20 "Book.act" = true)
    (k20 : PySem.W.keepIn K (.ref f20) = true)
    (a21 : PySem.W.findIn K (.ref B) "problem" = some (some (.ref f21)))
    (i21 : PySem.W.isFn K (.ref f21) = true)
    (l21 : K.lookup f21 = some ⟨oc21, od21, .func (PySem.W.fnOf "problem" "Book.problem" (defArgs sProblem) (defBody sProblem) (defScope sProblem) .none kV21 dc21 pm21 an21 cd21 ct21), sl21⟩)
    (c21 : PySem.W.codeIn K cd21 "Book.problem" = true)
    (k21 : PySem.W.keepIn K (.ref f21) = true)
    (a22 : PySem.W.findIn K (.ref B) "journal" = some (some (.ref f22)))
    (i22 : PySem.W.isFn K (.ref f22) = true)
    (l22 : K.lookup f22 = some ⟨oc22, od22, .func (PySem.W.fnOf "journal" "Book.journal" (defArgs sJournal) (defBody sJournal) (defScope sJournal) .none kV22 dc22 pm22 an22 cd22 ct22), sl22⟩)
    (c22 : PySem.W.codeIn K cd22 "Book.journal" = true)
    (k22 : PySem.W.keepIn K (.ref f22) = true)
    (a23 : PySem.W.findIn K (.ref C) "__init__" = some (some (.ref f23)))
    (i23 : PySem.W.typeIn K (.ref f23) = some (.type "function"))
    (l23 : K.lookup f23 = some ⟨oc23, od23, .func (PySem.W.fnOf "__init__" "NotPossible.__init__" (defArgs sNpInit) (defBody sNpInit) (defScope sNpInit) .none kV23 dc23 pm23 an23 cd23 ct23), sl23⟩)
    (c23 : PySem.W.codeIn K cd23 "NotPossible.__init__" = true)
    (k23 : PySem.W.keepIn K (.ref f23) = true)
    (bPg : PySem.W.plainGet K B Str.empty = true)
    (bHd : PySem.W.hasDictIn K B = true)
    (bPo : PySem.W.plainOver K B = true)
    (bSa : PySem.W.findIn K (.ref B) "__setattr__" = some (some (.builtin "object.__setattr__")))
    (bMk : PySem.W.makesIn K B = true)
    (bKc : PySem.W.keepIn K (.ref B) = true)
    (b_size : PySem.W.findIn K (.ref B) "size" = some none)
    (b_states : PySem.W.findIn K (.ref B) "states" = some none)
    (b_commands : PySem.W.findIn K (.ref B) "commands" = some none)
    (xSa : PySem.W.findIn K (.ref C) "__setattr__" = some (some (.builtin "object.__setattr__")))
    (xGa : PySem.W.findIn K (.ref C) "__getattribute__" = some (some (.builtin "BaseException.__getattribute__")))
    (xGg : PySem.W.findIn K (.ref C) "__getattr__" = some none)
    (xWhy : PySem.W.findIn K (.ref C) "why" = some none)
    (xKc : PySem.W.keepIn K (.ref C) = true)
    (xEx : PySem.W.subIn K (.ref C) (.type "BaseException") = some true)
    (xTy : PySem.W.typeIn K (.ref C) = some (.type "type"))
    (xHd : PySem.W.hasDictIn K C = true)
    (xIc : PySem.W.isClsIn K C = true)
    (xSc : PySem.W.subIn K (.ref C) (.ref C) = some true)
    (n1 : PySem.W.nsIn K mainGlobals "MOST_TASKS" = some (some (.int 7 t1)))
    (n2 : PySem.W.nsIn K mainGlobals "MOST_RULES" = some (some (.int 20 t2)))
    (n3 : PySem.W.nsIn K mainGlobals "MOST_COMMANDS" = some (some (.int 20 t3)))
    (n4 : PySem.W.nsIn K mainGlobals "RELATIONS" = some (some (.ref aR)))
    (n5 : K.lookup aR = some ⟨.type "tuple", odR, .seq #[.str "before" ta, .str "beside" tb, .str "after" tc] nR, slR⟩)
    (z_isinstance : PySem.W.nsIn K mainGlobals "isinstance" = some none)
    (z_int : PySem.W.nsIn K mainGlobals "int" = some none)
    (z_bool : PySem.W.nsIn K mainGlobals "bool" = some none)
    (z_str : PySem.W.nsIn K mainGlobals "str" = some none)
    (z_tuple : PySem.W.nsIn K mainGlobals "tuple" = some none)
    (z_list : PySem.W.nsIn K mainGlobals "list" = some none)
    (z_len : PySem.W.nsIn K mainGlobals "len" = some none)
    (z_all : PySem.W.nsIn K mainGlobals "all" = some none)
    (z_abs : PySem.W.nsIn K mainGlobals "abs" = some none)
    (z_min : PySem.W.nsIn K mainGlobals "min" = some none)
    (z_range : PySem.W.nsIn K mainGlobals "range" = some none)
    : ∃ fd : FuncData, (∀ (s : Shared) (v : Value), BindsTo s fd ⟨[v], []⟩ [("_law_script", v)]) ∧ ∀ base : Heap, K.In base → base.Ns mainGlobals mg → FnOk l.prog w K mg base CX0 9 fa fd ["_law_script"] (spLaw K) := by
  have e := hfa.symm.trans (PySem.W.mg_of X G a18)
  cases e
  have T : Bn mg := ⟨PySem.W.mg_none_of X G z_isinstance, PySem.W.mg_none_of X G z_int, PySem.W.mg_none_of X G z_bool, PySem.W.mg_none_of X G z_str, PySem.W.mg_none_of X G z_tuple, PySem.W.mg_none_of X G z_list, PySem.W.mg_none_of X G z_len, PySem.W.mg_none_of X G z_all, PySem.W.mg_none_of X G z_abs, PySem.W.mg_none_of X G z_min, PySem.W.mg_none_of X G z_range⟩
  have F1 := fun_mk (st := sIsInt) l1 c1 k1
  have F2 := fun_mk (st := sIsTask) l2 c2 k2
  have F3 := fun_mk (st := sIsAllowed) l3 c3 k3
  have F4 := fun_mk (st := sIsRule) l4 c4 k4
  have F5 := fun_mk (st := sIsSize) l5 c5 k5
  have F6 := fun_mk (st := sIsCmd) l6 c6 k6
  have F7 := fun_mk (st := sBehind) l7 c7 k7
  have F8 := fun_mk (st := sStream) l8 c8 k8
  have F9 := fun_mk (st := sNext) l9 c9 k9
  have F10 := fun_mk (st := sLInt) l10 c10 k10
  have F11 := fun_mk (st := sEqual) l11 c11 k11
  have F12 := fun_mk (st := sRels) l12 c12 k12
  have F13 := fun_mk (st := sRule) l13 c13 k13
  have F14 := fun_mk (st := sCmd) l14 c14 k14
  have F15 := fun_mk (st := sWhy) l15 c15 k15
  have F16 := fun_mk (st := sLBehind) l16 c16 k16
  have F17 := fun_mk (st := sTold) l17 c17 k17
  have F18 := fun_mk (st := sLaw) l18 c18 k18
  have F19 := fun_mk (st := sBInit) l19 c19 k19
  have F20 := fun_mk (st := sAct) l20 c20 k20
  have F21 := fun_mk (st := sProblem) l21 c21 k21
  have F22 := fun_mk (st := sJournal) l22 c22 k22
  have F23 := fun_mk (st := sNpInit) l23 c23 k23
  have O : Bo K mg B := ⟨⟨bPg, bHd, bPo, bSa⟩, PySem.W.mg_of X G aB, b_size, b_states, b_commands⟩
  have OX : OexC K C := ⟨⟨nm, qn, NC, bs, _, sn, sub, ab, col, dd, m0, m1, m2, m3, m5, xL, rfl⟩, xSa, xEx, xTy, xKc⟩
  have NP : Np K mg C f23 := ⟨OX, PySem.W.mg_of X G aC, xWhy, a23, i23⟩
  have NX : Nc K C := ⟨⟨xGa, xGg, xEx, xHd⟩, exm_own xEx xIc xTy xSc⟩
  have hR : ∀ H : Hp, SqT K H aR (relations.map V.str) := fun H => .inr ⟨_, _, _, n5, rfl, rfl, by show 3 ≤ sizeLine; decide, .cons ⟨_, rfl⟩ (.cons ⟨_, rfl⟩ (.cons ⟨_, rfl⟩ .nil))⟩
  have b19 := F19.binds (ps := ["self", "size"]) fun _ _ _ _ _ _ us hl => match us, hl with | [_, _], _ => rfl
  have b20 := F20.binds (ps := ["self", "command"]) fun _ _ _ _ _ _ us hl => match us, hl with | [_, _], _ => rfl
  have b21 := F21.binds (ps := ["self"]) fun _ _ _ _ _ _ us hl => match us, hl with | [_], _ => rfl
  have b22 := F22.binds (ps := ["self"]) fun _ _ _ _ _ _ us hl => match us, hl with | [_], _ => rfl
  refine ⟨PySem.W.fnOf "law" "law" (defArgs sLaw) (defBody sLaw) (defScope sLaw) .none kV18 dc18 pm18 an18 cd18 ct18, fun s v => .of_eq rfl, fun base _ _ => ?_⟩
  have gInt : Gd l.prog w K mg base CX0 1 "is_integer" ["value"] spIsInt := ok_isInt F1 (PySem.W.mg_of X G a1) T
  have gTask : Gd l.prog w K mg base CX0 2 "is_task" ["value", "size"] spIsTask := ok_isTask F2 (PySem.W.mg_of X G a2) gInt
  have gAll : Gd l.prog w K mg base CX0 1 "is_allowed" ["value"] spAllowed := ok_allowed F3 (PySem.W.mg_of X G a3) T (PySem.W.mg_of X G n4) hR
  have gRule : Gd l.prog w K mg base CX0 3 "is_rule" ["value", "size"] spIsRule := ok_isRule F4 (PySem.W.mg_of X G a4) T gTask gAll
  have gSize : Gd l.prog w K mg base CX0 2 "is_size" ["value"] spIsSize := ok_isSize F5 (PySem.W.mg_of X G a5) gInt ⟨_, PySem.W.mg_of X G n1⟩
  have gCmd : Gd l.prog w K mg base CX0 4 "is_command" ["value", "size"] spIsCmd := ok_isCmd F6 (PySem.W.mg_of X G a6) T gTask gRule ⟨_, PySem.W.mg_of X G n2⟩
  have gBeh : Gd l.prog w K mg base (L2.CX l.prog w) 3 "behind" ["rules", "command"] (spBehind C) := ok_behind F7 (PySem.W.mg_of X G a7) T NP F23 ⟨_, PySem.W.mg_of X G n2⟩
  have gBI : FnOk l.prog w K mg base CX0 3 f19 _ ["self", "size"] (spBInit B) := ok_binit F19 O gSize
  have gAct : FnOk l.prog w K mg base (L2.CX l.prog w) 5 f20 _ ["self", "command"] (spAct B C) := ok_act F20 T O gCmd gBeh ⟨_, PySem.W.mg_of X G n3⟩
  have gPr : FnOk l.prog w K mg base CX0 1 f21 _ ["self"] (spProblem B) := ok_problem F21 O
  have gJo : FnOk l.prog w K mg base CX0 1 f22 _ ["self"] (spJournal B) := ok_journal F22 O
  have gStr : Gd l.prog w K mg base CX0 1 "_law_stream" ["_law_script"] (spStream K) := ok_stream F8 (PySem.W.mg_of X G a8) T
  have gNxt : Gd l.prog w K mg base CX0 1 "_law_next" ["_law_stream_here", "_law_many"] spNext := ok_next F9 (PySem.W.mg_of X G a9) T
  have gLI : Gd l.prog w K mg base CX0 1 "_law_is_integer" ["_law_actual"] spIsInt := ok_lint F10 (PySem.W.mg_of X G a10) T
  have gEq : Gd l.prog w K mg base CX0 8 "_law_equal" ["_law_actual", "_law_due"] (spEq 6) := ok_equal F11 (PySem.W.mg_of X G a11) T gLI 6
  have gRel : Gd l.prog w K mg base CX0 1 "_law_relations" [] spRels := ok_rels F12 (PySem.W.mg_of X G a12)
  have gLR : Gd l.prog w K mg base CX0 2 "_law_rule" ["_law_stream_here", "_law_size", "_law_plan"] spRule := ok_rule F13 (PySem.W.mg_of X G a13) T gNxt gRel
  have gLC : Gd l.prog w K mg base CX0 3 "_law_command" ["_law_stream_here", "_law_size", "_law_rules"] spCommand := ok_command F14 (PySem.W.mg_of X G a14) T gNxt gLR
  have gWhy : Gd l.prog w K mg base CX0 1 "_law_why_not" ["_law_rules", "_law_command_here"] spWhy := ok_why F15 (PySem.W.mg_of X G a15) T
  have gLB : Gd l.prog w K mg base CX0 1 "_law_behind" ["_law_rules", "_law_command_here"] spLBehind := ok_lbehind F16 (PySem.W.mg_of X G a16)
  have gTold : Gd l.prog w K mg base CX0 6 "_law_told" ["_law_book", "_law_command_here"] (spTold B) := ok_told F17 (PySem.W.mg_of X G a17) O NP NX ⟨a20, i20, k20⟩ b20 gAct
  exact ok_law F18 T O ⟨bMk, a19, i19, bKc⟩ gBI b19 ⟨a21, i21, k21⟩ gPr b21 ⟨a22, i22, k22⟩ gJo b22 gStr gNxt gLC gWhy gLB gTold gEq
theorem walk {l : PySem.W.OpenLaw} {q : Program} {loose : List Str} {XP : (Str → Option Value) → Heap → Prop} {YP : World → Heap → Prop} {d : DefRec} {K : Params → PySem.W.Frag} (hn : l.most = some 63) (hdf : d.params.defaults = [])
    (hY : ∀ (w : World) (h : Heap), YP w h → (K w.params).In h)
    (F : ∀ (w : World) (mg : Str → Option Value) (fa : Addr) (h : Heap), (K w.params).In h → h.Ns mainGlobals mg → mg d.name = some (.ref fa) →
      ∃ fd : FuncData, (∀ (s : Shared) (u : Value), BindsTo s fd ⟨[u], []⟩ [("_law_script", u)]) ∧ ∀ base : Heap, (K w.params).In base → base.Ns mainGlobals mg → FnOk l.prog w (K w.params) mg base CX0 9 fa fd ["_law_script"] (spLaw (K w.params))) :
    PySem.W.WalkO q loose XP YP l.row.toRowW d [] (fun f vs => PySem.call f vs) :=
  L2.walk_of (n := 63) (k := 9) (x := "_law_script") (CX := fun _ => CX0) (sp := fun w => spLaw (K w.params)) hn (by decide) hdf ⟨rfl, by decide, by decide⟩ hY F (fun _ _ a ns hl _ hS => ⟨a, ns, rfl, hS, hl, fun _ => rfl⟩) fun _ _ _ _ _ z => z
end Bk

open PySem PySem.W PyProof.Rows in
set_option maxRecDepth 100000 in
set_option maxHeartbeats 0 in
theorem PySem.Challenge.cw_thenbeside_k77_whole_commands_of_books_holds : PySem.Challenge.rw_thenbeside_k77_whole_commands_of_books.Holds := by
  w_on; o_law; k_head; (case hw => w_witness2)
  k_fill
  refine Bk.walk (l := PySem.Challenge.rw_thenbeside_k77_whole_commands_of_books) rfl rfl (fun w h Y => PySem.W.kIn_of Y) ?F
  case F =>
    intro w mg fa h KX G hmg
    refine' Bk.all_mk KX G hmg ?aB ?aC ?xL ?a1 ?l1 ?c1 ?k1 ?a2 ?l2 ?c2 ?k2 ?a3 ?l3 ?c3 ?k3 ?a4 ?l4 ?c4 ?k4 ?a5 ?l5 ?c5 ?k5 ?a6 ?l6 ?c6 ?k6 ?a7 ?l7 ?c7 ?k7 ?a8 ?l8 ?c8 ?k8 ?a9 ?l9 ?c9 ?k9 ?a10 ?l10 ?c10 ?k10 ?a11 ?l11 ?c11 ?k11 ?a12 ?l12 ?c12 ?k12 ?a13 ?l13 ?c13 ?k13 ?a14 ?l14 ?c14 ?k14 ?a15 ?l15 ?c15 ?k15 ?a16 ?l16 ?c16 ?k16 ?a17 ?l17 ?c17 ?k17 ?a18 ?l18 ?c18 ?k18 ?a19 ?i19 ?l19 ?c19 ?k19 ?a20 ?i20 ?l20 ?c20 ?k20 ?a21 ?i21 ?l21 ?c21 ?k21 ?a22 ?i22 ?l22 ?c22 ?k22 ?a23 ?i23 ?l23 ?c23 ?k23 ?bPg ?bHd ?bPo ?bSa ?bMk ?bKc ?b_size ?b_states ?b_commands ?xSa ?xGa ?xGg ?xWhy ?xKc ?xEx ?xTy ?xHd ?xIc ?xSc ?n1 ?n2 ?n3 ?n4 ?n5 ?z_isinstance ?z_int ?z_bool ?z_str ?z_tuple ?z_list ?z_len ?z_all ?z_abs ?z_min ?z_range
    (case aB => k_is)
    (case aC => k_is)
    (case xL => k_is)
    (case a1 => k_is)
    (case l1 => k_is)
    (case c1 => k_is)
    (case k1 => k_is)
    (case a2 => k_is)
    (case l2 => k_is)
    (case c2 => k_is)
    (case k2 => k_is)
    (case a3 => k_is)
    (case l3 => k_is)
    (case c3 => k_is)
    (case k3 => k_is)
    (case a4 => k_is)
    (case l4 => k_is)
    (case c4 => k_is)
    (case k4 => k_is)
    (case a5 => k_is)
    (case l5 => k_is)
    (case c5 => k_is)
    (case k5 => k_is)
    (case a6 => k_is)
    (case l6 => k_is)
    (case c6 => k_is)
    (case k6 => k_is)
    (case a7 => k_is)
    (case l7 => k_is)
    (case c7 => k_is)
    (case k7 => k_is)
    (case a8 => k_is)
    (case l8 => k_is)
    (case c8 => k_is)
    (case k8 => k_is)
    (case a9 => k_is)
    (case l9 => k_is)
    (case c9 => k_is)
    (case k9 => k_is)
    (case a10 => k_is)
    (case l10 => k_is)
    (case c10 => k_is)
    (case k10 => k_is)
    (case a11 => k_is)
    (case l11 => k_is)
    (case c11 => k_is)
    (case k11 => k_is)
    (case a12 => k_is)
    (case l12 => k_is)
    (case c12 => k_is)
    (case k12 => k_is)
    (case a13 => k_is)
    (case l13 => k_is)
    (case c13 => k_is)
    (case k13 => k_is)
    (case a14 => k_is)
    (case l14 => k_is)
    (case c14 => k_is)
    (case k14 => k_is)
    (case a15 => k_is)
    (case l15 => k_is)
    (case c15 => k_is)
    (case k15 => k_is)
    (case a16 => k_is)
    (case l16 => k_is)
    (case c16 => k_is)
    (case k16 => k_is)
    (case a17 => k_is)
    (case l17 => k_is)
    (case c17 => k_is)
    (case k17 => k_is)
    (case a18 => k_is)
    (case l18 => k_is)
    (case c18 => k_is)
    (case k18 => k_is)
    (case a19 => k_is)
    (case i19 => k_is)
    (case l19 => k_is)
    (case c19 => k_is)
    (case k19 => k_is)
    (case a20 => k_is)
    (case i20 => k_is)
    (case l20 => k_is)
    (case c20 => k_is)
    (case k20 => k_is)
    (case a21 => k_is)
    (case i21 => k_is)
    (case l21 => k_is)
    (case c21 => k_is)
    (case k21 => k_is)
    (case a22 => k_is)
    (case i22 => k_is)
    (case l22 => k_is)
    (case c22 => k_is)
    (case k22 => k_is)
    (case a23 => k_is)
    (case i23 => k_is)
    (case l23 => k_is)
    (case c23 => k_is)
    (case k23 => k_is)
    (case bPg => k_is)
    (case bHd => k_is)
    (case bPo => k_is)
    (case bSa => k_is)
    (case bMk => k_is)
    (case bKc => k_is)
    (case b_size => k_is)
    (case b_states => k_is)
    (case b_commands => k_is)
    (case xSa => k_is)
    (case xGa => k_is)
    (case xGg => k_is)
    (case xWhy => k_is)
    (case xKc => k_is)
    (case xEx => k_is)
    (case xTy => k_is)
    (case xHd => k_is)
    (case xIc => k_is)
    (case xSc => k_is)
    (case n1 => k_is)
    (case n2 => k_is)
    (case n3 => k_is)
    (case n4 => k_is)
    (case n5 => k_is)
    (case z_isinstance => k_is)
    (case z_int => k_is)
    (case z_bool => k_is)
    (case z_str => k_is)
    (case z_tuple => k_is)
    (case z_list => k_is)
    (case z_len => k_is)
    (case z_all => k_is)
    (case z_abs => k_is)
    (case z_min => k_is)
    (case z_range => k_is)
