import PyProof.Rows.All
import Wide.All
import OpenK.AllK
import Wide.FinOn
import HandS.ForMost
import HandS.SortKw
import HandS.TupSets
import HandS.DictTup
import HandS.Conv
import HandS.Zip
import HandS.TupAny
import HandS.Deep
import HandS.Wide
import HandS.Style
import HandS.EndBits
import PyProof.ReprRoads
import PyProof.ReprText
import PyProof.ReprLen
import PyProof.Rows.RegStrFacts
import PySem.Challenge.RW_oneweight_k65_greatest_rows_of_any_list
/-! The plain law of k65: rows of whole numbers of one length, the ones that lie below no other. No program here. -/
namespace K65
abbrev Row := List Int
/-- no number of a is greater than the one of b at its place -/
def leB (a b : Row) : Bool := (a.zip b).all fun p => decide (p.1 ≤ p.2)
def below (a b : Row) : Bool := if a = b then false else leB a b
/-- what the law's own _law_covered says of two rows -/
def cov1 (a b : Row) : Bool := leB a b && (a.zip b).any fun p => decide (p.1 < p.2)

theorem leB_nil (b : Row) : leB [] b = true := rfl
theorem leB_cons {x y : Int} {a b : Row} : leB (x :: a) (y :: b) = (decide (x ≤ y) && leB a b) := rfl
theorem leB_refl : ∀ a : Row, leB a a = true
  | [] => rfl
  | x :: a => by rw [leB_cons, leB_refl a]; simp
theorem leB_trans : ∀ {a b c : Row}, a.length = b.length → b.length = c.length → leB a b = true → leB b c = true → leB a c = true
  | [], _, _, _, _, _, _ => rfl
  | x :: a, [], _, h, _, _, _ => by simp at h
  | x :: a, y :: b, [], _, h, _, _ => by simp at h
  | x :: a, y :: b, z :: c, h1, h2, e1, e2 => by
    rw [leB_cons, Bool.and_eq_true, decide_eq_true_eq] at e1 e2
    rw [leB_cons, Bool.and_eq_true, decide_eq_true_eq]
    exact ⟨by omega, leB_trans (by simpa using h1) (by simpa using h2) e1.2 e2.2⟩
theorem leB_antisymm : ∀ {a b : Row}, a.length = b.length → leB a b = true → leB b a = true → a = b
  | [], [], _, _, _ => rfl
  | [], y :: b, h, _, _ => by simp at h
  | x :: a, [], h, _, _ => by simp at h
  | x :: a, y :: b, h1, e1, e2 => by
    rw [leB_cons, Bool.and_eq_true, decide_eq_true_eq] at e1 e2
    rw [leB_antisymm (by simpa using h1) e1.2 e2.2, show x = y by omega]
theorem leB_lt : ∀ {a b : Row}, a.length = b.length → leB a b = true → a ≠ b → a < b
  | [], [], _, _, n => absurd rfl n
  | [], y :: b, h, _, _ => by simp at h
  | x :: a, [], h, _, _ => by simp at h
  | x :: a, y :: b, h1, e1, n => by
    rw [leB_cons, Bool.and_eq_true, decide_eq_true_eq] at e1
    rw [List.cons_lt_cons_iff]
    by_cases q : x = y
    · subst q
      exact .inr ⟨rfl, leB_lt (by simpa using h1) e1.2 (fun z => n (by rw [z]))⟩
    · exact .inl (by omega)
theorem below_self (a : Row) : below a a = false := by unfold below; rw [if_pos rfl]
theorem below_iff {a b : Row} : below a b = true ↔ a ≠ b ∧ leB a b = true := by
  unfold below
  by_cases h : a = b
  · rw [if_pos h]; simp [h]
  · rw [if_neg h]; simp [h]
theorem below_lt {a b : Row} (h : a.length = b.length) (e : below a b = true) : a < b := by
  obtain ⟨n, l⟩ := below_iff.mp e
  exact leB_lt h l n
theorem below_trans {a b c : Row} (h1 : a.length = b.length) (h2 : b.length = c.length) (e1 : below a b = true) (e2 : below b c = true) : below a c = true := by
  obtain ⟨n1, l1⟩ := below_iff.mp e1
  obtain ⟨n2, l2⟩ := below_iff.mp e2
  refine below_iff.mpr ⟨fun z => ?_, leB_trans h1 h2 l1 l2⟩
  subst z
  exact n1 (leB_antisymm h1 l1 l2)
theorem any_lt : ∀ {a b : Row}, a.length = b.length → leB a b = true → ((a.zip b).any fun p => decide (p.1 < p.2)) = !decide (a = b)
  | [], [], _, _ => rfl
  | [], y :: b, h, _ => by simp at h
  | x :: a, [], h, _ => by simp at h
  | x :: a, y :: b, h1, e1 => by
    rw [leB_cons, Bool.and_eq_true, decide_eq_true_eq] at e1
    rw [List.zip_cons_cons, List.any_cons, any_lt (by simpa using h1) e1.2]
    by_cases q : x = y
    · subst q
      by_cases r : a = b
      · simp [r]
      · simp [r]
    · have : x < y := by omega
      simp [q, this]
theorem cov1_eq {a b : Row} (h : a.length = b.length) : cov1 a b = below a b := by
  unfold cov1 below
  cases e : leB a b with
  | false => by_cases q : a = b <;> simp [q]
  | true =>
    rw [any_lt h e]
    by_cases q : a = b <;> simp [q]

/-- the rows that are kept, of a list told backwards (the last one first) -/
def gr : List Row → List Row
  | [] => []
  | r :: pre => if (gr pre).any (below r) then gr pre else gr pre ++ [r]
theorem gr_mem : ∀ {L : List Row} {x : Row}, x ∈ gr L → x ∈ L
  | [], _, h => h
  | r :: pre, x, h => by
    unfold gr at h
    split at h
    · exact List.mem_cons_of_mem _ (gr_mem h)
    · rcases List.mem_append.mp h with q | q
      · exact List.mem_cons_of_mem _ (gr_mem q)
      · rw [List.mem_singleton.mp q]; exact List.mem_cons_self
theorem gr_cover : ∀ {L : List Row} {x : Row}, x ∈ L → x ∈ gr L ∨ ∃ o ∈ gr L, below x o = true
  | [], _, h => nomatch h
  | r :: pre, x, h => by
    unfold gr
    rcases List.mem_cons.mp h with q | q
    · subst q
      split
      · rename_i e
        obtain ⟨o, ho, e2⟩ := List.any_eq_true.mp e
        exact .inr ⟨o, ho, e2⟩
      · exact .inl (List.mem_append_right _ (List.mem_singleton.mpr rfl))
    · rcases gr_cover q with z | ⟨o, ho, e⟩
      · split
        · exact .inl z
        · exact .inl (List.mem_append_left _ z)
      · split
        · exact .inr ⟨o, ho, e⟩
        · exact .inr ⟨o, List.mem_append_left _ ho, e⟩
theorem gr_max {d : Nat} : ∀ {L : List Row}, (∀ x ∈ L, x.length = d) → L.Pairwise (· < ·) → ∀ {x : Row}, x ∈ gr L → ∀ o ∈ L, below x o = false
  | [], _, _, _, h, _, _ => nomatch h
  | r :: pre, hd, hp, x, h, o, ho => by
    obtain ⟨hr, hpre⟩ := List.pairwise_cons.mp hp
    have hd' : ∀ x ∈ pre, x.length = d := fun x hx => hd x (List.mem_cons_of_mem _ hx)
    have lr := hd r List.mem_cons_self
    unfold gr at h
    have old : x ∈ gr pre → below x o = false := fun hx => by
      rcases List.mem_cons.mp ho with q | q
      · subst q
        cases e : below x o with
        | false => rfl
        | true =>
          have l1 := below_lt (by rw [hd' x (gr_mem hx), lr]) e
          exact absurd l1 (List.lt_asymm (hr x (gr_mem hx)))
      · exact gr_max hd' hpre hx o q
    split at h
    · exact old h
    · rename_i e
      rcases List.mem_append.mp h with q | q
      · exact old q
      · have q' := List.mem_singleton.mp q
        subst q'
        rcases List.mem_cons.mp ho with z | z
        · rw [z]; exact below_self _
        · cases e2 : below x o with
          | false => rfl
          | true =>
            refine absurd (List.any_eq_true.mpr ?_) e
            rcases gr_cover z with m | ⟨o', m, e3⟩
            · exact ⟨o, m, e2⟩
            · exact ⟨o', m, below_trans (by rw [lr, hd' o z]) (by rw [hd' o z, hd' o' (gr_mem m)]) e2 e3⟩
theorem gr_nodup : ∀ {L : List Row}, L.Nodup → (gr L).Nodup
  | [], h => h
  | r :: pre, h => by
    obtain ⟨h1, h2⟩ := List.nodup_cons.mp h
    unfold gr
    split
    · exact gr_nodup h2
    · refine List.nodup_append.mpr ⟨gr_nodup h2, (by simp), fun a ha b hb => ?_⟩
      rw [List.mem_singleton.mp hb]
      rintro rfl
      exact h1 (gr_mem ha)

/-- Y: the rows of R that lie below none of R, each once, ascending -/
structure IsMax (R Y : List Row) : Prop where
  asc : Y.Pairwise (· < ·)
  mem : ∀ r, r ∈ Y ↔ r ∈ R ∧ ∀ o ∈ R, below r o = false
theorem asc_unique {Y Z : List Row} (h1 : Y.Pairwise (· < ·)) (h2 : Z.Pairwise (· < ·)) (h : ∀ r, r ∈ Y ↔ r ∈ Z) : Y = Z := by
  have n1 : Y.Nodup := h1.imp fun {a b} q e => by subst e; exact List.lt_irrefl _ q
  have n2 : Z.Nodup := h2.imp fun {a b} q e => by subst e; exact List.lt_irrefl _ q
  exact ((List.perm_ext_iff_of_nodup n1 n2).mpr h).eq_of_pairwise (fun a b _ _ p q => absurd q (List.lt_asymm p)) h1 h2
theorem IsMax.unique {R S Y Z : List Row} (h1 : IsMax R Y) (h2 : IsMax S Z) (h : ∀ r, r ∈ R ↔ r ∈ S) : Y = Z :=
  asc_unique h1.asc h2.asc fun r => by
    rw [h1.mem, h2.mem, h]
    exact ⟨fun ⟨a, b⟩ => ⟨a, fun o ho => b o ((h o).mpr ho)⟩, fun ⟨a, b⟩ => ⟨a, fun o ho => b o ((h o).mp ho)⟩⟩
theorem IsMax.self {R Y : List Row} (h : IsMax R Y) : IsMax Y Y := ⟨h.asc, fun r => ⟨fun m => ⟨m, fun o ho => ((h.mem r).mp m).2 o ((h.mem o).mp ho).1⟩, fun m => m.1⟩⟩
theorem IsMax.sub {R Y : List Row} (h : IsMax R Y) {r : Row} (m : r ∈ Y) : r ∈ R := ((h.mem r).mp m).1

theorem asc_of {Y : List Row} (h : Y.Pairwise fun a b => ¬ b < a) (n : Y.Nodup) : Y.Pairwise (· < ·) := by
  induction Y with
  | nil => exact .nil
  | cons y Y ih =>
    obtain ⟨h1, h2⟩ := List.pairwise_cons.mp h
    obtain ⟨n1, n2⟩ := List.nodup_cons.mp n
    refine List.pairwise_cons.mpr ⟨fun z hz => ?_, ih h2 n2⟩
    rcases Decidable.em (y < z) with q | q
    · exact q
    · exact absurd (List.le_antisymm q (h1 z hz)) (fun e => n1 (e ▸ hz))
/-- what greatest_rows works out: K the known rows in falling order, Y the kept ones sorted -/
theorem great_isMax {d : Nat} {R K Y : List Row} (hd : ∀ x ∈ R, x.length = d) (hK : K.Nodup) (hm : ∀ r, r ∈ K ↔ r ∈ R) (hs : K.Pairwise fun a b => ¬ a < b) (hp : Y.Perm (gr K.reverse)) (ha : Y.Pairwise fun a b => ¬ b < a) : IsMax R Y := by
  have hdK : ∀ x ∈ K.reverse, x.length = d := fun x hx => hd x ((hm x).mp (List.mem_reverse.mp hx))
  have nK : K.reverse.Nodup := List.pairwise_reverse.mpr (hK.imp Ne.symm)
  have aK : K.reverse.Pairwise (· < ·) := asc_of (List.pairwise_reverse.mpr hs) nK
  have nY : Y.Nodup := (hp.nodup_iff).mpr (gr_nodup nK)
  refine ⟨asc_of ha nY, fun r => ?_⟩
  rw [hp.mem_iff]
  constructor
  · intro h
    exact ⟨(hm r).mp (List.mem_reverse.mp (gr_mem h)), fun o ho => gr_max hdK aK h o (List.mem_reverse.mpr ((hm o).mpr ho))⟩
  · rintro ⟨h1, h2⟩
    rcases gr_cover (List.mem_reverse.mpr ((hm r).mpr h1)) with q | ⟨o, ho, e⟩
    · exact q
    · rw [h2 o ((hm o).mp (List.mem_reverse.mp (gr_mem ho)))] at e
      cases e
theorem cover_of {d : Nat} {R Y : List Row} (hd : ∀ x ∈ R, x.length = d) (h : IsMax R Y) {r : Row} (hr : r ∈ R) : r ∈ Y ∨ ∃ o ∈ Y, below r o = true := by
  have key : ∀ (n : Nat) (L : List Row), L.length ≤ n → (∀ x ∈ L, x ∈ R) → (∀ x ∈ R, below r x = true → (∀ o ∈ R, below x o = true → o ∈ L) → x ∈ Y ∨ ∃ o ∈ Y, below x o = true) := by
    intro n
    induction n with
    | zero =>
      intro L hl _ x hx _ hc
      refine .inl ((h.mem x).mpr ⟨hx, fun o ho => ?_⟩)
      cases e : below x o with
      | false => rfl
      | true =>
        have m := hc o ho e
        rw [List.length_eq_zero_iff.mp (Nat.le_zero.mp hl)] at m
        cases m
    | succ n ih =>
      intro L hl hL x hx hb hc
      by_cases q : ∃ o ∈ R, below x o = true
      · obtain ⟨o, ho, e⟩ := q
        have hbo : below r o = true := below_trans (by rw [hd r hr, hd x hx]) (by rw [hd x hx, hd o ho]) hb e
        have : o ∈ Y ∨ ∃ p ∈ Y, below o p = true := by
          refine ih (L.filter fun z => !decide (z = o)) ?_ (fun z hz => hL z (List.mem_filter.mp hz).1) o ho hbo fun p hp e2 => ?_
          · have hmo := hc o ho e
            have : (L.filter fun z => !decide (z = o)).length < L.length := List.length_filter_lt_length_iff_exists.mpr ⟨o, hmo, by simp⟩
            omega
          · refine List.mem_filter.mpr ⟨hc p hp (below_trans (by rw [hd x hx, hd o ho]) (by rw [hd o ho, hd p hp]) e e2), ?_⟩
            have : p ≠ o := fun z => by subst z; rw [below_self] at e2; cases e2
            simp [this]
        rcases this with m | ⟨p, hp, e2⟩
        · exact .inr ⟨o, m, e⟩
        · exact .inr ⟨p, hp, below_trans (by rw [hd x hx, hd o ho]) (by rw [hd o ho, hd p (h.sub hp)]) e e2⟩
      · refine .inl ((h.mem x).mpr ⟨hx, fun o ho => ?_⟩)
        cases e : below x o with
        | false => rfl
        | true => exact absurd ⟨o, ho, e⟩ q
  by_cases q : ∃ o ∈ R, below r o = true
  · obtain ⟨o, ho, e⟩ := q
    rcases key R.length R (Nat.le_refl _) (fun x hx => hx) o ho e (fun p hp _ => hp) with m | ⟨p, hp, e2⟩
    · exact .inr ⟨o, m, e⟩
    · exact .inr ⟨p, hp, below_trans (by rw [hd r hr, hd o ho]) (by rw [hd o ho, hd p (h.sub hp)]) e e2⟩
  · refine .inl ((h.mem r).mpr ⟨hr, fun o ho => ?_⟩)
    cases e : below r o with
    | false => rfl
    | true => exact absurd ⟨o, ho, e⟩ q

/-- what _law_due works out, of the sorted rows told backwards; c says which rows are covered -/
def du (c : Row → Bool) : List Row → List Row
  | [] => []
  | r :: pre => if r ∈ du c pre then du c pre else if c r then du c pre else du c pre ++ [r]
theorem du_mem {c : Row → Bool} : ∀ {L : List Row} {x : Row}, x ∈ du c L ↔ x ∈ L ∧ c x = false
  | [], x => by simp [du]
  | r :: pre, x => by
    unfold du
    by_cases h1 : r ∈ du c pre
    · rw [if_pos h1, du_mem, List.mem_cons]
      have := (du_mem.mp h1)
      constructor
      · rintro ⟨a, b⟩; exact ⟨.inr a, b⟩
      · rintro ⟨a | a, b⟩
        · subst a; exact this
        · exact ⟨a, b⟩
    · rw [if_neg h1]
      cases hc : c r with
      | true =>
        rw [if_pos rfl, du_mem, List.mem_cons]
        constructor
        · rintro ⟨a, b⟩; exact ⟨.inr a, b⟩
        · rintro ⟨a | a, b⟩
          · subst a; rw [hc] at b; cases b
          · exact ⟨a, b⟩
      | false =>
        rw [if_neg Bool.false_ne_true, List.mem_append, du_mem, List.mem_singleton, List.mem_cons]
        constructor
        · rintro (⟨a, b⟩ | a)
          · exact ⟨.inr a, b⟩
          · subst a; exact ⟨.inl rfl, hc⟩
        · rintro ⟨a | a, b⟩
          · exact .inr a
          · exact .inl ⟨a, b⟩
theorem du_asc {c : Row → Bool} : ∀ {L : List Row}, L.Pairwise (fun a b => ¬ a < b) → (du c L).Pairwise (· < ·)
  | [], _ => .nil
  | r :: pre, h => by
    obtain ⟨h1, h2⟩ := List.pairwise_cons.mp h
    unfold du
    by_cases q : r ∈ du c pre
    · rw [if_pos q]; exact du_asc h2
    · rw [if_neg q]
      cases hc : c r with
      | true => rw [if_pos rfl]; exact du_asc h2
      | false =>
        rw [if_neg Bool.false_ne_true]
        refine List.pairwise_append.mpr ⟨du_asc h2, List.pairwise_singleton _ _, fun a ha b hb => ?_⟩
        rw [List.mem_singleton.mp hb]
        rcases Decidable.em (a < r) with z | z
        · exact z
        · exact absurd (List.le_antisymm z (h1 a (du_mem.mp ha).1)) (fun e => q (e ▸ ha))
theorem due_isMax {d : Nat} {R S : List Row} (hd : ∀ x ∈ R, x.length = d) (hp : S.Perm R) (hs : S.Pairwise fun a b => ¬ b < a) : IsMax R (du (fun r => R.any (cov1 r)) S.reverse) := by
  refine ⟨du_asc (List.pairwise_reverse.mpr hs), fun r => ?_⟩
  rw [du_mem, List.mem_reverse, hp.mem_iff]
  constructor
  · rintro ⟨h1, h2⟩
    refine ⟨h1, fun o ho => ?_⟩
    cases e : below r o with
    | false => rfl
    | true =>
      rw [← cov1_eq (by rw [hd r h1, hd o ho])] at e
      rw [List.any_eq_true.mpr ⟨o, ho, e⟩] at h2
      cases h2
  · rintro ⟨h1, h2⟩
    refine ⟨h1, ?_⟩
    cases e : R.any (cov1 r) with
    | false => rfl
    | true =>
      obtain ⟨o, ho, e2⟩ := List.any_eq_true.mp e
      rw [cov1_eq (by rw [hd r h1, hd o ho]), h2 o ho] at e2
      cases e2
theorem isMax_nil : IsMax [] [] := ⟨.nil, fun r => by simp⟩
end K65

set_option Elab.async false
set_option linter.all false
set_option maxRecDepth 100000
set_option maxHeartbeats 4000000
/-! Sorting of tuples of whole numbers of one length, also by reverse=True, also out of a dict. -/
namespace K65
open PySem PySem.Spec PyProof.Rows L2 SrtO

theorem swo_rows (k : Value → Row) : Swo fun v u => decide (k v < k u) := by
  refine ⟨fun x y h => decide_eq_false (List.lt_asymm (of_decide_eq_true h)), fun x y z h1 h2 => ?_⟩
  have a := of_decide_eq_false h1
  have b := of_decide_eq_false h2
  refine decide_eq_false ?_
  exact List.not_lt.mpr (List.le_trans (List.not_lt.mp a) (List.not_lt.mp b))

section
variable {prog : Program} {w : World} {A : Around} {E : Value → Shared → Prop} {s : Shared} {Q : Bool → Shared → Prop}
theorem lex_rows {b : Bool} {xs ys : List Value} {ns ms : List Int} (i : Nat) (hx : IntsAre xs ns) (hy : IntsAre ys ms) (hl : ns.length = ms.length) (h : Q (decide (ns < ms)) s) : PySem.W.KatLex prog w A b false Q (xs.zip ys) i s := by
  induction hx generalizing ys ms i with
  | nil =>
    cases hy with
    | nil =>
      rw [decide_eq_false (List.lt_irrefl _)] at h
      exact PySem.W.kat_nil h
    | cons q u hy => simp at hl
  | @cons p t xs ns hx ih =>
    cases hy with
    | nil => simp at hl
    | @cons q u ys ms hy =>
      have hl' : ns.length = ms.length := by simpa using hl
      show PySem.W.KatLex prog w A b false Q ((Value.int p t, Value.int q u) :: xs.zip ys) i s
      refine PySem.W.kat_cons (wpAny_eqBool_int ?_)
      by_cases e : p = q
      · subst e
        rw [beq_self_eq_true]
        refine PySem.W.kat_yes (ih (i + 1) hy hl' ?_)
        have d : decide (p :: ns < p :: ms) = decide (ns < ms) := decide_eq_decide.mpr (by rw [List.cons_lt_cons_iff]; exact ⟨fun z => z.elim (fun z => absurd z (Int.lt_irrefl _)) (·.2), fun z => .inr ⟨rfl, z⟩⟩)
        rw [d] at h
        exact h
      · rw [show (p == q) = false from beq_eq_false_iff_ne.mpr e]
        refine PySem.W.kat_no (TS.oneLt_ints _ ?_)
        have d : decide (p :: ns < q :: ms) = decide (p < q) := decide_eq_decide.mpr (by rw [List.cons_lt_cons_iff]; exact ⟨fun z => z.elim id fun z => absurd z.1 e, .inl⟩)
        rw [d] at h
        exact h
/-- every value is a tuple of d whole numbers, k tells which -/
def RowsAt (h : Heap) (d : Nat) (k : Value → Row) (vs : List Value) : Prop := ∀ v ∈ vs, TS.TupInts h v (k v) ∧ (k v).length = d
theorem RowsAt.keeps {h h' : Heap} {d : Nat} {k : Value → Row} {vs : List Value} (x : RowsAt h d k vs) (kp : ∀ b o, h.get? b = some o → o.cls = .type "tuple" → h'.get? b = some o) : RowsAt h' d k vs := fun v hv =>
  ⟨(x v hv).1.keeps kp, (x v hv).2⟩
theorem rows_cmp {vs : List Value} {k : Value → Row} {d : Nat} (b : Bool) (hp : RowsAt s.heap d k vs) : Cmp prog w A s (tuples' b) (fun p => p.1 ∈ vs) (lt2 fun v u => decide (k v < k u)) := by
  intro p q hm hm'
  obtain ⟨⟨a, xs, e, ⟨o, ho, hc, n, hd⟩, hi⟩, l1⟩ := hp _ hm
  obtain ⟨⟨a', xs', e', ⟨o', ho', hc', n', hd'⟩, hi'⟩, l2⟩ := hp _ hm'
  show wpAny (model prog w) A (keyLt' (tuples' b) p.1 q.1) (fun r s' => s' = s ∧ r = decide (k p.1 < k q.1)) (fun _ _ => False) s
  generalize k p.1 = ns at hi l1 ⊢
  generalize k q.1 = ms at hi' l2 ⊢
  rw [e, e']
  refine PySem.W.kat_lt ho hd ho' hd' ?_
  have hs : decide (xs.size < xs'.size) = false := by
    have z1 := hi.length
    have z2 := hi'.length
    rw [Array.length_toList] at z1 z2
    exact decide_eq_false (by omega)
  rw [hs]
  exact lex_rows 0 hi hi' (by rw [l1, l2]) ⟨rfl, rfl⟩
/-- two empty tuples, asked by their own __lt__ -/
theorem rows0_cmp {vs : List Value} {k : Value → Row} (hu : A.units < cLine) (hp : RowsAt s.heap 0 k vs) : Cmp prog w A s oneType' (fun p => p.1 ∈ vs) (lt2 fun v u => decide (k v < k u)) := by
  intro p q hm hm'
  obtain ⟨⟨a, xs, e, ⟨⟨cls, dd, data, sl⟩, ho, hc, n, hd⟩, hi⟩, l1⟩ := hp _ hm
  obtain ⟨⟨a', xs', e', ⟨⟨cls', dd', data', sl'⟩, ho', hc', n', hd'⟩, hi'⟩, l2⟩ := hp _ hm'
  simp only at hc hd hc' hd'
  subst hc hd hc' hd'
  show wpAny (model prog w) A (keyLt' oneType' p.1 q.1) (fun r s' => s' = s ∧ r = decide (k p.1 < k q.1)) (fun _ _ => False) s
  have e1 : k p.1 = [] := List.length_eq_zero_iff.mp l1
  have e2 : k q.1 = [] := List.length_eq_zero_iff.mp l2
  rw [e1] at hi ⊢
  rw [e2] at hi' ⊢
  rw [e, e', keyLt'_oneType, oneLt'_eq]
  simp only [if_true]
  refine wpAny_bind (wpAny_cRoomFor hu ?_)
  refine wpAny_bind (wpAny_callSpecialIfBound?_slot ⟨_, ho, rfl⟩ PySem.F.slot_tuple_lt (call_meets PySem.F.slot_tuple_lt ⟨_, ho, rfl⟩ PySem.F.entry_tuple_lt (PySem.F.args_tuple_lt_2 _ _)
    (HT.tuple_lt_ints a a' xs xs' n n' dd dd' sl sl' [] [] hi hi') ⟨ho, ho', ?_⟩))
  exact wpAny_truthy_bool ⟨rfl, (decide_eq_false (List.lt_irrefl _)).symm⟩
theorem firsts0 {M : Model} : ∀ (vs : List Value) {Q : List (Option Value) → Shared → Prop}, (∀ v ∈ vs, ∃ a o n, v = .ref a ∧ s.heap.get? a = some o ∧ o.cls = .type "tuple" ∧ o.data = .seq #[] n) → Q (vs.map fun _ => none) s → wpAny M A (vs.mapM firstOfTuple') Q E s
  | [], _, _, h => by rw [List.mapM_nil]; exact wpAny_pure h
  | v :: vs, Q, hv, h => by
    obtain ⟨a, o, n, rfl, ho, hc, hd⟩ := hv v List.mem_cons_self
    rw [List.mapM_cons]
    refine wpAny_bind ?_
    rw [PySem.W.kas_first_eq]
    refine wpAny_bind (PySem.W.Looks.here (show PySem.W.Looks M s.heap (typeOf (.ref a)) o.cls from (PySem.W.Looks.ld ho).andThen .now) ?_)
    rw [hc, if_neg (by first | decide | simp)]
    refine wpAny_bind (listItems_at ho hd (wpAny_pure ?_))
    show wpAny M A _ Q E s
    exact wpAny_bind (firsts0 vs (Q := fun bs s' => wpAny M A (pure (none :: bs)) Q E s') (fun u hu => hv u (List.mem_cons_of_mem _ hu)) (wpAny_pure h))
theorem kind0 {M : Model} {vs : List Value} {Q : SortKind → Shared → Prop} (h2 : 2 ≤ vs.length) (hv : ∀ v ∈ vs, ∃ a o n, v = .ref a ∧ s.heap.get? a = some o ∧ o.cls = .type "tuple" ∧ o.data = .seq #[] n) (h : Q oneType' s) : wpAny M A (keyKind' vs.toArray) Q E s := by
  obtain ⟨v₁, rest, rfl⟩ : ∃ v₁ rest, vs = v₁ :: rest := by
    match vs, h2 with
    | [], h2 => simp at h2
    | v₁ :: rest, _ => exact ⟨v₁, rest, rfl⟩
  rw [keyKind'_eq, List.mapM_toArray, map_eq_pure_bind]
  refine wpAny_bind (wpAny_bind (firsts0 _ hv (wpAny_pure ?_)))
  rw [if_neg (by simp), if_neg (by simp)]
  rw [oneTypeOnly'_eq, List.mapM_toArray, map_eq_pure_bind]
  refine wpAny_bind (wpAny_bind (wpAny_bind (PySem.W.kas_mapM (r := Value.type "tuple") _ (fun v hm Q' hq => ?_) (wpAny_pure ?_))))
  · obtain ⟨a, o, n, rfl, ho, hc, hd⟩ := hv v hm
    rw [← hc] at hq
    exact (show PySem.W.Looks M s.heap (typeOf (.ref a)) o.cls from (PySem.W.Looks.ld ho).andThen .now).here hq
  · have hall : ((List.map (fun _ => Value.type "tuple") (v₁ :: rest)).toArray.all fun x => x == Value.type "tuple") = true := by
      simp only [List.all_toArray, List.all_map, List.all_eq_true]
      intro _ _
      rfl
    have h0 : (List.map (fun _ => Value.type "tuple") (v₁ :: rest)).toArray[0]? = some (Value.type "tuple") := by simp
    rw [h0]
    simp only [hall, if_true]
    exact wpAny_pure (wpAny_pure h)
theorem firsts_rows {h : Heap} {d : Nat} {k : Value → Row} (hd : 1 ≤ d) : ∀ vs : List Value, RowsAt h d k vs → ∃ fs, PySem.W.KatTups h vs fs ∧ fs.length = vs.length ∧ ∀ f ∈ fs, ∃ n t, f = Value.int n t
  | [], _ => ⟨[], PySem.W.KatTups.nil, rfl, fun f hf => by simp at hf⟩
  | v :: vs, x => by
    obtain ⟨fs, f1, f2, f3⟩ := firsts_rows hd vs fun u hu => x u (List.mem_cons_of_mem _ hu)
    obtain ⟨⟨a, xs, rfl, ⟨o, ho, hc, n, hdt⟩, hi⟩, l1⟩ := x v List.mem_cons_self
    obtain ⟨l⟩ := xs
    generalize k (.ref a) = ns at hi l1
    have hi' : IntsAre l ns := hi
    cases hi' with
    | nil => simp at l1; omega
    | cons m t r =>
      refine ⟨Value.int m t :: fs, PySem.W.KatTups.cons ho hc hdt rfl f1, by rw [List.length_cons, List.length_cons, f2], fun f hf => ?_⟩
      rcases List.mem_cons.mp hf with e | hf
      · exact ⟨m, t, e⟩
      · exact f3 f hf
theorem rows_sortable {a : Addr} {vs : List Value} {k : Value → Row} {d : Nat} (hu : A.units < cLine) (h2 : 2 ≤ vs.length) (hp : RowsAt s.heap d k vs) (ha : ∀ o, s.heap.get? a = some o → o.cls ≠ .type "tuple") : SortableO prog w A s a vs fun v u => decide (k v < k u) := by
  intro h' keep
  have hp' : RowsAt h' d k vs := hp.keeps fun b o e c => keep b o (fun z => by subst z; exact ha o e c) e
  by_cases hd : 1 ≤ d
  · obtain ⟨fs, h1, h2', h3⟩ := firsts_rows hd vs hp'
    refine ⟨tuples' true, fun Q E hq => ?_, rows_cmp (s := { s with heap := h' }) true hp'⟩
    refine PySem.W.kat_kind (T := .type "int") h1 (by omega) (fun f hm => ?_) (by rfl) ?_
    · obtain ⟨x, t, rfl⟩ := h3 f hm
      exact PySem.W.Looks.now
    · have e : (Value.type "int" != Value.type "tuple") = true := by first | decide +kernel | rfl | decide
      rw [e]
      exact hq
  · have d0 : d = 0 := by omega
    subst d0
    refine ⟨oneType', fun Q E hq => kind0 (s := { s with heap := h' }) h2 (fun v hv => ?_) hq, rows0_cmp (s := { s with heap := h' }) hu hp'⟩
    obtain ⟨⟨b, xs, rfl, ⟨o, ho, hc, n, hdt⟩, hi⟩, l1⟩ := hp' v hv
    rw [List.length_eq_zero_iff.mp l1] at hi
    obtain ⟨l⟩ := xs
    have hi' : IntsAre l [] := hi
    cases hi'
    exact ⟨b, o, n, rfl, ho, hc, hdt⟩
end
end K65

set_option Elab.async false
set_option linter.all false
set_option maxRecDepth 100000
set_option maxHeartbeats 4000000
/-! Rules over the hand layer: sorted of rows, sorted(d, reverse=True), repr of rows, a comprehension over zip of two tuples. -/
namespace K65
open PySem PySem.Spec PyProof.Rows L2 SrtO

/-! ### rows in the abstract heap -/
def rowOf (H : Hp) : V → Row
  | .ref t => match H t with
    | some (.tup xs) => xs.map fun x => match x with
      | .int i => i
      | _ => 0
    | _ => []
  | _ => []
def IsRow (H : Hp) (v : V) (ns : Row) : Prop := ∃ t, v = .ref t ∧ H t = some (.tup (ns.map V.int))
theorem rowOf_eq {H : Hp} {v : V} {ns : Row} (h : IsRow H v ns) : rowOf H v = ns := by
  obtain ⟨t, rfl, e⟩ := h
  unfold rowOf
  simp only [e, List.map_map]
  have : (fun x : V => match x with | .int i => i | _ => 0) ∘ V.int = id := rfl
  rw [this, List.map_id]
def AllRow (H : Hp) (d : Nat) (xs : List V) : Prop := ∀ x ∈ xs, ∃ ns, IsRow H x ns ∧ ns.length = d
abbrev dat (H : Hp) (xs : List V) : List Row := xs.map (rowOf H)
/-- all tuples stay -/
def TKeep (H H' : Hp) : Prop := ∀ t ys, H t = some (.tup ys) → H' t = some (.tup ys)
theorem TKeep.refl (H : Hp) : TKeep H H := fun _ _ h => h
theorem TKeep.trans {H H' H'' : Hp} (a : TKeep H H') (b : TKeep H' H'') : TKeep H H'' := fun t ys h => b t ys (a t ys h)
theorem Same.tk {H H' : Hp} (s : Same H H') : TKeep H H' := fun t ys h => s t _ h
theorem TKeep.new {H : Hp} {p : Addr} {o : HO} (h : H p = none) : TKeep H (upd H p o) := fun t ys e => by rw [upd_ne (ne_of_none e h)]; exact e
theorem TKeep.mut {H : Hp} {p : Addr} {o : HO} {u : HO} (h : H p = some u) (n : ∀ ys, u ≠ .tup ys) : TKeep H (upd H p o) := fun t ys e => by
  rw [upd_ne (ne_of e h (fun z => n ys z.symm))]; exact e
theorem IsRow.keep {H H' : Hp} {v : V} {ns : Row} (k : TKeep H H') (h : IsRow H v ns) : IsRow H' v ns := by
  obtain ⟨t, rfl, e⟩ := h
  exact ⟨t, rfl, k _ _ e⟩
theorem AllRow.keep {H H' : Hp} {d : Nat} {xs : List V} (k : TKeep H H') (h : AllRow H d xs) : AllRow H' d xs := fun x hx => by
  obtain ⟨ns, r, l⟩ := h x hx
  exact ⟨ns, r.keep k, l⟩
theorem AllRow.is {H : Hp} {d : Nat} {xs : List V} (h : AllRow H d xs) {x : V} (hx : x ∈ xs) : IsRow H x (rowOf H x) := by
  obtain ⟨ns, r, l⟩ := h x hx
  rw [rowOf_eq r]
  exact r
theorem AllRow.len {H : Hp} {d : Nat} {xs : List V} (h : AllRow H d xs) {x : V} (hx : x ∈ xs) : (rowOf H x).length = d := by
  obtain ⟨ns, r, l⟩ := h x hx
  rw [rowOf_eq r]
  exact l
theorem dat_keep {H H' : Hp} {d : Nat} {xs : List V} (k : TKeep H H') (h : AllRow H d xs) : dat H' xs = dat H xs := List.map_congr_left fun x hx => rowOf_eq ((h.is hx).keep k)
theorem dat_len {H : Hp} {d : Nat} {xs : List V} (h : AllRow H d xs) : ∀ r ∈ dat H xs, r.length = d := fun r hr => by
  obtain ⟨x, hx, rfl⟩ := List.mem_map.mp hr
  exact h.len hx
theorem AllRow.perm {H : Hp} {d : Nat} {xs ys : List V} (p : ys.Perm xs) (h : AllRow H d xs) : AllRow H d ys := fun x hx => h x (p.mem_iff.mp hx)
theorem AllRow.append {H : Hp} {d : Nat} {xs ys : List V} (h : AllRow H d xs) (g : AllRow H d ys) : AllRow H d (xs ++ ys) := fun x hx => (List.mem_append.mp hx).elim (h x) (g x)

/-! ### rows as data -/
def rowD (ns : Row) : PyData := .tuple (ns.map PyData.int)
theorem dpAll_ints {K : PySem.W.Frag} {H : Hp} : ∀ ns : Row, DpAll K H (ns.map V.int) (ns.map PyData.int)
  | [] => .nil
  | n :: ns => .cons (.int n) (dpAll_ints ns)
theorem IsRow.dp {K : PySem.W.Frag} {H : Hp} {v : V} {ns : Row} (h : IsRow H v ns) : Dp K H v (rowD ns) := by
  obtain ⟨t, rfl, e⟩ := h
  exact .tup (.inl (.inl e)) (dpAll_ints ns)
theorem dpAll_rows {K : PySem.W.Frag} {H : Hp} {d : Nat} : ∀ {xs : List V}, AllRow H d xs → DpAll K H xs ((dat H xs).map rowD)
  | [], _ => .nil
  | x :: xs, h => .cons (h.is List.mem_cons_self).dp (dpAll_rows fun y hy => h y (List.mem_cons_of_mem _ hy))
theorem lay_ints : ∀ ns : Row, PyData.canLayAll0 (ns.map PyData.int) = true
  | [] => by simp [PyData.canLayAll0]
  | n :: ns => by simp [PyData.canLayAll0, PyData.canLay0, lay_ints ns]
theorem depth_ints : ∀ ns : Row, PyData.depthAll (ns.map PyData.int) = 0
  | [] => by simp [PyData.depthAll]
  | n :: ns => by simp [PyData.depthAll, PyData.depth, depth_ints ns]
theorem rowD_lay (ns : Row) : (rowD ns).canLay0 = true := by simp [rowD, PyData.canLay0, lay_ints ns]
theorem rowD_depth (ns : Row) : (rowD ns).depth = 1 := by simp [rowD, PyData.depth, depth_ints ns]
theorem rowDs_lay : ∀ L : List Row, PyData.canLayAll0 (L.map rowD) = true
  | [] => by simp [PyData.canLayAll0]
  | n :: ns => by simp [PyData.canLayAll0, rowD_lay n, rowDs_lay ns]
theorem rowDs_depth : ∀ L : List Row, PyData.depthAll (L.map rowD) ≤ 1
  | [] => by simp [PyData.depthAll]
  | n :: ns => by
    have h1 := rowDs_depth ns
    have h2 := rowD_depth n
    simp only [List.map_cons, PyData.depthAll]
    omega
theorem rowD_shaped (ns : Row) : SeqAt.shaped (rowD ns) = true := by
  have h := rowD_depth ns
  show ((rowD ns).canLay0 && decide ((rowD ns).depth ≤ 64)) = true
  rw [Bool.and_eq_true]
  exact ⟨rowD_lay ns, decide_eq_true (by omega)⟩
theorem rowDs_shaped (L : List Row) : SeqAt.shaped (.list (L.map rowD)) = true := by
  have h1 := rowDs_depth L
  have h2 : PyData.depth (.list (L.map rowD)) ≤ 64 := by
    simp only [PyData.depth]
    omega
  show (PyData.canLay0 (.list (L.map rowD)) && decide (PyData.depth (.list (L.map rowD)) ≤ 64)) = true
  rw [Bool.and_eq_true]
  exact ⟨by simp only [PyData.canLay0]; exact rowDs_lay L, decide_eq_true h2⟩
theorem eqv_ints : ∀ a b : Row, PyData.eqvAll (a.map PyData.int) (b.map PyData.int) = decide (a = b)
  | [], [] => by simp [PyData.eqvAll]
  | [], _ :: _ => by simp [PyData.eqvAll]
  | _ :: _, [] => by simp [PyData.eqvAll]
  | x :: a, y :: b => by
    rw [List.map_cons, List.map_cons, PyData.eqvAll, eqv_ints a b]
    by_cases h : x = y
    · subst h; simp [PyData.eqv]
    · simp [PyData.eqv, h]
theorem rowD_eqv (a b : Row) : PyData.eqv (rowD a) (rowD b) = decide (a = b) := by
  unfold rowD
  rw [PyData.eqv, eqv_ints]
theorem rowDs_eqvAll : ∀ a b : List Row, PyData.eqvAll (a.map rowD) (b.map rowD) = decide (a = b)
  | [], [] => by simp [PyData.eqvAll]
  | [], _ :: _ => by simp [PyData.eqvAll]
  | _ :: _, [] => by simp [PyData.eqvAll]
  | x :: a, y :: b => by
    rw [List.map_cons, List.map_cons, PyData.eqvAll, rowDs_eqvAll a b, rowD_eqv]
    by_cases h : x = y
    · subst h; simp
    · simp [h]
theorem rowDs_eqv (a b : List Row) : PyData.eqv (.list (a.map rowD)) (.list (b.map rowD)) = decide (a = b) := by rw [PyData.eqv, rowDs_eqvAll]
theorem any_eqv (L : List Row) (r : Row) : ((L.map rowD).any fun z => PyData.eqv z (rowD r)) = decide (r ∈ L) := by
  induction L with
  | nil => simp
  | cons a L ih =>
    rw [List.map_cons, List.any_cons, ih, rowD_eqv]
    by_cases h : a = r
    · subst h; simp
    · have : ¬ r = a := fun e => h e.symm
      simp [h, this]

/-! ### sorted(xs) -/
section
variable {X : Cx} {pins : List (Addr × Obj)} {σ : L2.St} {H : Hp} {s : Shared}
theorem rowsAt_of {h : Heap} {vs : List Value} {xs : List V} {d : Nat} (I : Inv X pins σ H s) (hx : AllRow H d xs) (hv : ∀ v ∈ vs, ∃ t, v = .ref t ∧ V.ref t ∈ xs) (k : ∀ b o, s.heap.get? b = some o → h.get? b = some o) :
    RowsAt h d (fun v => rowOf H (bkV v)) vs := fun v m => by
  obtain ⟨t, rfl, ht⟩ := hv v m
  obtain ⟨t', e, hr⟩ := hx.is ht
  have e' : t = t' := by injection e
  subst e'
  exact ⟨(tupI_raw I (.inl (.inl hr))).keeps fun b o e _ => k b o e, hx.len ht⟩
def rSortR (K : PySem.W.Frag) : List V → Hp → VK → Prop := fun vs H Q => ∃ (a : Addr) (xs : List V) (d : Nat), vs = [V.ref a] ∧ SqL K H a xs ∧ AllRow H d xs ∧
  ∀ (ys : List V) (p : Addr), ys.Perm xs → (dat H ys).Pairwise (fun x y => ¬ y < x) → H p = none → Q (.ref p) (upd H p (.lst ys))
theorem srtd_dat {out : List Value} (h : Srtd (fun v u => decide (rowOf H (bkV v) < rowOf H (bkV u))) out) : (dat H (out.map bkV)).Pairwise (fun x y => ¬ y < x) := by
  unfold dat
  rw [List.map_map, List.pairwise_map]
  exact h.imp fun {v u} e => of_decide_eq_false e
theorem cr_sortRow (hu : X.A.units + 64 < cLine) : CallR X (.builtin "sorted") (rSortR X.K) := by
  intro pins s σ H vs us Q I r h
  obtain ⟨a, xs, d, rfl, hs, hx, q⟩ := h
  obtain ⟨its, rv, hl, hz⟩ := I.list hs
  rw [Vals.ref1 r]
  obtain ⟨e1, e2⟩ := bkV_refs rv fun x m => by
    obtain ⟨ns, ⟨t, e, _⟩, _⟩ := hx x m
    exact ⟨t, e⟩
  have hv : ∀ v ∈ its, ∃ t, v = .ref t ∧ V.ref t ∈ xs := fun v m => by
    obtain ⟨t, rfl⟩ := e2 v m
    exact ⟨t, rfl, by rw [e1]; exact List.mem_map.mpr ⟨_, m, rfl⟩⟩
  refine sorted_ord (swo_rows fun v => rowOf H (bkV v)) hl.isList (by rw [← rv.length]; exact hz) (fun h2 h₁ b hb kp => rows_sortable (d := d) (by show X.A.units + 1 + 1 < cLine; omega) h2 (rowsAt_of I hx hv fun b o e => (kp b o e).2) fun o e => ?_) fun out h1 h2 => ?_
  · have e' : some o = some (seqObj "list" its.toArray 0) := e.symm.trans hb
    cases e'
    intro c
    exact absurd (Value.type.inj c) (by decide)
  · obtain ⟨ep, he'⟩ := PyProof.Rows.sortedAll_at s.heap its out.toArray
    have h3 : ∀ u ∈ out, ∃ a, u = Value.ref a := fun u hu' => e2 u (h2.perm.mem_iff.mp hu')
    have hp : (out.map bkV).Perm xs := by
      rw [e1]
      exact h2.perm.map bkV
    have hlen : (out.map bkV).length ≤ sizeLine := by
      rw [hp.length_eq]
      exact hz
    exact ⟨.ref _, upd H (s.heap.objs.size + 1) (.lst (out.map bkV)), I.laid (t' := s.toks) (fun _ _ => PyProof.Rows.sortedAll_old) (Nat.le_succ _) ⟨hlen, out, ep, bkV_vals h3, he'⟩, rfl, q _ _ hp (srtd_dat h1) (I.hok.fresh (Nat.le_succ _))⟩

/-! ### sorted(d, reverse=True), the keys of d rows -/
def keyR (r : Row) : List L2.Key := r.map Sum.inl
theorem keyR_kV (r : Row) : (keyR r).map kV = r.map V.int := by
  unfold keyR
  rw [List.map_map]
  rfl
def rSortD : List V → List V → Hp → VK → Prop := fun vs zs H Q => ∃ (a : Addr) (kvs : List (List L2.Key × V)) (ks : List Row) (d : Nat), vs = [V.ref a] ∧ zs = [.bl true] ∧ H a = some (.dT kvs) ∧ kvs.map (·.1) = ks.map keyR ∧ (∀ k ∈ ks, k.length = d) ∧
  ∀ (ys : List V) (p : Addr), AllRow H d ys → (dat H ys).Perm ks → (dat H ys).Pairwise (fun x y => ¬ x < y) → H p = none → Q (.ref p) (upd H p (.lst ys))
theorem keys_rows {kvs : List (List L2.Key × V)} {ks : List Row} {xs : List (List L2.Key × Addr × Value)} {d : Nat} (pr : KT H kvs xs) (hk : kvs.map (·.1) = ks.map keyR) (hd : ∀ k ∈ ks, k.length = d) :
    AllRow H d (xs.map fun x => V.ref x.2.1) ∧ dat H (xs.map fun x => V.ref x.2.1) = ks := by
  induction pr generalizing ks with
  | nil =>
    cases ks with
    | nil => exact ⟨(fun x hx => nomatch hx), rfl⟩
    | cons k ks => simp at hk
  | @cons p x kvs xs h t ih =>
    cases ks with
    | nil => simp at hk
    | cons k ks =>
      rw [List.map_cons, List.map_cons] at hk
      injection hk with hk1 hk2
      obtain ⟨i1, i2⟩ := ih hk2 fun z hz => hd z (List.mem_cons_of_mem _ hz)
      have hr : IsRow H (V.ref x.2.1) k := ⟨_, rfl, by rw [h.2.1, hk1, keyR_kV]⟩
      refine And.intro (fun y hy => ?_) ?_
      · rcases List.mem_cons.mp hy with e | hy
        · exact ⟨k, by rw [e]; exact hr, hd k List.mem_cons_self⟩
        · exact i1 y hy
      · show rowOf H (V.ref x.2.1) :: dat H (xs.map fun x => V.ref x.2.1) = k :: ks
        rw [i2, rowOf_eq hr]
theorem cr_sortRev (hc : X.calm = true) (hu : X.A.units + 64 < cLine) : CallRK X (.builtin "sorted") [Str.ofString "reverse"] rSortD := by
  intro pins s σ H vs zs us ws Q I r rz h
  obtain ⟨a, kvs, ks, d, rfl, rfl, ha, hk, hd, q⟩ := h
  obtain rfl := Vals.ref1 r
  obtain ⟨w1, rfl, e1⟩ := vals1 rz
  obtain rfl : w1 = Value.bool true := e1
  obtain ⟨z, hs, xs', pr, o, es, ep, ho, hx, hdt, he, hn⟩ := (show ObjOk X.prog X.w H s.heap a (.dT kvs) from I.hok a _ ha)
  have l1 : es.size = xs'.length := size_of_entries he
  have l2 : kvs.length = xs'.length := Paired.length pr
  obtain ⟨hrow, hdat⟩ := keys_rows pr hk hd
  show wpAny _ _ (call (.builtin "sorted") [.ref a] [(Str.ofString "reverse", .bool true)]) _ _ _
  refine call_function_entry_kw kind_sorted plain_sorted entry_sorted (PyProof.Rows.args_sorted_rev _ _) ?_
  unfold Builtin.«sorted»
  refine wpAny_bind (m := checkCount "sorted" 1 1 _) (wpAny_pure ?_)
  refine wpAny_bind (PySem.W.kdu_collect (A := X.A.in1) (kdl_raw hs hx hdt) (I.ok.hd hc) ho (by omega) fun h' tk acc hk' hacc => ?_)
  have ea : acc.toList = (xs'.map fun x => x.2.1).map Value.ref := by
    have hl : acc.toList.length = xs'.length := by rw [Array.length_toList, hacc.1]; exact l1
    rw [List.map_map]
    apply List.ext_getElem?
    intro j
    rw [List.getElem?_map]
    cases hj : acc.toList[j]? with
    | none =>
      have h1 := List.getElem?_eq_none_iff.mp hj
      rw [List.getElem?_eq_none (by omega)]
      all_goals rfl
    | some v =>
      obtain ⟨en, hen, hv⟩ := hacc.2 j v (by rw [← Array.getElem?_toList]; exact hj)
      have qe := entry_at he j
      rw [hen] at qe
      cases hb : xs'[j]? with
      | none =>
        rw [hb] at qe
        exact nomatch (show some en = none from qe)
      | some b =>
        rw [hb] at qe
        have e2 : en = entryOfKey (tupleKind (mixKind X.prog X.w)) b := Option.some.inj qe
        rw [hv, e2]
        all_goals rfl
  rw [ea]
  have I1 : Inv X pins σ H { s with heap := h', toks := tk } := I.kept hk'
  generalize hvs : (xs'.map fun x => x.2.1).map Value.ref = vs
  have lvs : vs.length = xs'.length := by rw [← hvs, List.length_map, List.length_map]
  have hv : ∀ v ∈ vs, ∃ t, v = .ref t ∧ V.ref t ∈ xs'.map fun x => V.ref x.2.1 := fun v m => by
    rw [← hvs, List.map_map] at m
    obtain ⟨x, hx', rfl⟩ := List.mem_map.mp m
    exact ⟨_, rfl, List.mem_map.mpr ⟨x, hx', rfl⟩⟩
  have ebk : vs.map bkV = xs'.map fun x => V.ref x.2.1 := by
    rw [← hvs, List.map_map, List.map_map]
    rfl
  refine wpAny_bind (wpAny_newList ?_ (by rw [lvs]; omega))
  have hoL : (h'.push (seqObj "list" vs.toArray 0)).get? h'.objs.size = some (seqObj "list" vs.toArray 0) := Heap.get?_push_size _ rfl
  show wpAny _ _ _ _ _ { s with heap := h'.push (seqObj "list" vs.toArray 0), toks := tk }
  refine wpAny_bind (wpAny_holding (wpAny_call_entry_kw slot_list_sort ⟨_, hoL, rfl⟩ entry_list_sort ?_ (PyProof.Rows.args_list_sort_rev _ _)))
  refine SrtR.list_sort_ordR (b := true) (s := { s with heap := h'.push (seqObj "list" vs.toArray 0), toks := tk }) (swo_rows fun v => rowOf H (bkV v)) hoL (by rw [lvs]; omega)
    (fun h2 => rows_sortable (d := d) (by show X.A.units + 1 + 1 < cLine; omega) h2 (rowsAt_of (s := { s with heap := h', toks := tk }) I1 hrow hv fun b o e => Heap.get?_push_of_some _ e) fun o e => ?_) fun out h1 h2 => ⟨_, rfl, wpAny_pure ⟨_, rfl, ?_⟩⟩
  · have e' : some o = some (seqObj "list" vs.toArray 0) := e.symm.trans hoL
    cases e'
    intro c
    exact absurd (Value.type.inj c) (by decide)
  · have h2p : out.Perm vs := h2.perm.trans (List.reverse_perm _)
    have h3 : ∀ u ∈ out.reverse, ∃ a, u = Value.ref a := fun u hu' => by
      obtain ⟨t, e, _⟩ := hv u (h2p.mem_iff.mp (List.mem_reverse.mp hu'))
      exact ⟨t, e⟩
    obtain ⟨e', he'⟩ := PyProof.Rows.sortedHeap_at (vs := vs) (out := out.toArray.reverse) hoL
    have hp : (out.reverse.map bkV).Perm (xs'.map fun x => V.ref x.2.1) := by
      rw [← ebk]
      exact ((List.reverse_perm _).trans h2p).map bkV
    have hlen : (out.reverse.map bkV).length ≤ sizeLine := by
      rw [hp.length_eq, List.length_map]
      omega
    have er : out.reverse.toArray = out.toArray.reverse := by
      apply Array.ext'
      rw [Array.toList_reverse]
    refine ⟨.ref h'.objs.size, upd H h'.objs.size (.lst (out.reverse.map bkV)), I1.laid (t' := tk) (fun b u e => ?_) (Nat.le_refl _) ⟨hlen, out.reverse, e', bkV_vals h3, by rw [er]; exact he'⟩, rfl, q _ _ (hrow.perm hp) ?_ ?_ (I1.hok.fresh (Nat.le_refl _))⟩
    · have hb : b < h'.objs.size := Heap.lt_size e
      show (PyProof.Rows.sortedHeap (h'.push (seqObj "list" vs.toArray 0)) h'.objs.size vs out.toArray.reverse).get? b = some u
      rw [PyProof.Rows.sortedHeap_old (Nat.ne_of_lt hb) (by rw [size_push']; exact Nat.lt_succ_of_lt hb)]
      exact Heap.get?_push_of_some _ e
    · rw [← hdat]
      exact hp.map _
    · have h4 := srtd_dat h1
      have : dat H (out.reverse.map bkV) = (dat H (out.map bkV)).reverse := by
        unfold dat
        rw [List.map_reverse, List.map_reverse]
      rw [this]
      exact List.pairwise_reverse.mpr h4
end
end K65

set_option Elab.async false
set_option linter.all false
set_option maxRecDepth 100000
set_option maxHeartbeats 4000000
/-! repr of a list of rows, and the law's call where it is known that no repr is under way (the caller's own Around). -/
namespace K65
open PySem PySem.Spec PyProof.Rows L2

/-! ### repr -/
section
variable {X : Cx}
theorem call_reprD (hg : X.A.guards = some []) (hu : X.A.units + 64 < cLine) : CallR X (.builtin "repr") (fun xs H Q => ∃ (a : Addr) (d : PyData), xs = [.ref a] ∧ Dp X.K H (.ref a) d ∧ d.canLay0 = true ∧ d.showable = true ∧ d.depth ≤ 60 ∧ d.shown.length ≤ sizeLine ∧ Q (.str d.shown) H) := by
  intro pins s σ H xs us Q I r h
  obtain ⟨a, d, rfl, hd, hl, hs, hp, hz, q⟩ := h
  obtain ⟨u, rfl, rx⟩ := vals1 r
  cases rx
  obtain ⟨as, rd⟩ := Dp.reads I d _ _ hd rfl
  exact repr_of_reads' rd hs (PyData.noDict_hsm (PyData.hasDict_of_canLay d hl)) hg (by omega) (fun _ _ e => e) (fun h' u tk hk => ⟨.str d.shown, H, I.kept (t' := tk) hk, ⟨u, rfl⟩, q⟩) hz
end
/-- all numbers below 2 ^ 100 in size -/
def Small (L : List Row) : Prop := ∀ r ∈ L, ∀ n ∈ r, n.natAbs < 2 ^ 100
theorem small_log {n : Int} (h : n.natAbs < 2 ^ 100) : n.natAbs.log2 < 1920 := by
  by_cases h0 : n.natAbs = 0
  · rw [h0]; decide
  · exact Nat.lt_of_lt_of_le ((Nat.log2_lt h0).mpr h) (by decide)
theorem len_ints : ∀ r : Row, (∀ n ∈ r, n.natAbs < 2 ^ 100) → ((PyData.shownAll (r.map PyData.int)).map (·.length)).sum ≤ 1921 * r.length ∧ (PyData.shownAll (r.map PyData.int)).length = r.length
  | [], _ => ⟨by simp [PyData.shownAll], by simp [PyData.shownAll]⟩
  | n :: r, h => by
    obtain ⟨h1, h2⟩ := len_ints r fun m hm => h m (List.mem_cons_of_mem _ hm)
    have h3 := int_text_len_1921 (small_log (h n List.mem_cons_self))
    rw [List.map_cons, PyData.shownAll_cons, List.map_cons, List.sum_cons, List.length_cons, List.length_cons, PyData.shown_int]
    have e : ((toString n : String) : Str) = PySem.Str.ofString (toString n) := rfl
    rw [e]
    omega
theorem len_rows {d : Nat} : ∀ L : List Row, (∀ r ∈ L, r.length = d) → Small L → ((PyData.shownAll (L.map rowD)).map (·.length)).sum ≤ (1923 * d + 3) * L.length ∧ (PyData.shownAll (L.map rowD)).length = L.length
  | [], _, _ => ⟨by simp [PyData.shownAll], by simp [PyData.shownAll]⟩
  | r :: L, hd, h => by
    obtain ⟨h1, h2⟩ := len_rows L (fun m hm => hd m (List.mem_cons_of_mem _ hm)) fun m hm => h m (List.mem_cons_of_mem _ hm)
    obtain ⟨h3, h4⟩ := len_ints r (h r List.mem_cons_self)
    have h5 := tupleText_len_le (PyData.shownAll (r.map PyData.int))
    have e : (rowD r).shown = tupleText (PyData.shownAll (r.map PyData.int)) := by unfold rowD; rw [PyData.shown]
    rw [List.map_cons, PyData.shownAll_cons, List.map_cons, List.sum_cons, List.length_cons, List.length_cons, e, Nat.mul_add, Nat.mul_one]
    have hr := hd r List.mem_cons_self
    omega
theorem rows_show {d : Nat} {L : List Row} (hd : ∀ r ∈ L, r.length = d) (d6 : d ≤ 6) (hl : L.length ≤ 100) (h : Small L) : (PyData.list (L.map rowD)).showable = true ∧ (PyData.list (L.map rowD)).shown.length ≤ sizeLine := by
  constructor
  · rw [PyData.showable]
    refine showableAll_of fun x hx => ?_
    obtain ⟨r, hr, rfl⟩ := List.mem_map.mp hx
    unfold rowD
    rw [PyData.showable]
    exact PyData.showableAll_ints r fun n hn => small_log (h r hr n hn)
  · obtain ⟨h1, h2⟩ := len_rows L hd h
    have h3 := listText_len_le (PyData.shownAll (L.map rowD))
    rw [PyData.shown, sizeLine_eq]
    have h4 : (1923 * d + 3) * L.length ≤ (1923 * 6 + 3) * 100 := Nat.mul_le_mul (by omega) hl
    omega

/-! ### the law's call -/
/-- a def of the text at one Around: its body's reading at that Around -/
theorem at_fn {P : Program} {w : World} {K : PySem.W.Frag} {mg : Str → Option Value} {base : Heap} {k : Nat} {x qual : Str} {st : Stmt} {f : Addr} {fd : FuncData} {N ps : List Str} {A : Around} {outer : List Env} {s : Shared} {H : Hp} {us : List Value} {vs : List V} {Q : VK} {args : Args}
    (F : Fun K x qual st f fd) (S : FnScope N ps (defScope st)) (hr : Room (k + 1) A) (e0 : Env0 P w K mg base A outer s H) (hb : BindsTo s fd args (ps.zip us)) (r : Vals vs us) (hl : vs.length = ps.length)
    (body : ∀ cdv : Value, ∃ t, PSs (cxOf CX0 P w K mg base N qual (defScope st) f cdv A outer s H E0).nox (defBody st) t ∧ t { nx := fun _ H' => Q .non H', rt := Q } (start N vs) H) :
    codeAny (model P w) A (.call (.ref f) args) (CR CX0 outer P w H s Q E0) s := by
  obtain ⟨oc, od, kV, doc, pm, an, cdv, ct, osl, rfl, lk, hcd⟩ := F.ex
  obtain ⟨t, ht, hq⟩ := body cdv
  have far : ∀ b o, base.get? b = some o → s.heap.get? b = some o := fun b o e => (e0.bs b o e).1
  refine Att.call_fn (e0.mod.kin.keeps far) (e0.mod.nolimit.keeps far) lk hcd hr.depth hb ?kinds (fun s1 x => ?_) S.co S.gen S.kind
  case kinds =>
    rw [List.all_eq_true]
    rintro ⟨n, v⟩ hy
    rcases S.par n (List.of_mem_zip hy).1 with q | q
    · simp [q]
    · simp [q]
  have I := inv_start (CX := CX0) (E := E0) S hr.hd e0 hl r x
  refine wpAny_mono (ht.nox.run [] s1 (start N vs) H _ I hq) (fun fl s' hs => ?_) fun e s' hs => hs
  show CE outer P w H s Q _ s'
  have fin : ∀ {σ' : L2.St} {H' : Hp} {v : V} {u : Value}, Inv (cxOf CX0 P w K mg base N qual (defScope st) f cdv A outer s H E0) [] σ' H' s' → RelV v u → Q v H' → CE outer P w H s Q u s' :=
    fun {σ' H' v u} J rv q => ⟨v, H', J.os, J.bare, J.base, J.hok, rv, q⟩
  cases fl with
  | ret u =>
    obtain ⟨v, σ', H', J, rv, q⟩ := hs
    exact fin J rv q
  | next =>
    obtain ⟨σ', H', J, q⟩ := hs
    exact fin (v := V.non) (u := Value.none) J rfl q
  | brk =>
    obtain ⟨_, _, _, q⟩ := hs
    exact False.elim q
  | cont =>
    obtain ⟨_, _, _, q⟩ := hs
    exact False.elim q

/-- the heap at the law's entry with the script alone tracked (or nothing, where the module holds the script) -/
structure Entry (P : Program) (w : World) (K : PySem.W.Frag) (s : Shared) (a : Addr) (o : Obj) (H : Hp) : Prop where
  only : ∀ b, H b = none ∨ (b = a ∧ ∃ xs, H b = some (.frz o (.lst xs)))
  ok : HOk P w H s.heap
  apart : H a ≠ none → K.lookup a = none
theorem law_at {P : Program} {w : World} {K : PySem.W.Frag} {mg mb : Str → Option Value} {s : Shared} {a fa : Addr} {o : Obj} {H : Hp} {vs : List Value}
    (KX : K.In s.heap) (hns : s.heap.Ns mainGlobals mg) (hb : s.heap.Ns builtinsNs mb) (hbb : ∀ x : Str, x ≠ "__name__" → mb x = bootBuiltins x) (hlim : s.heap.NoLimit) (hg : s.gens = #[])
    (ha : s.heap.get? a = some o) (hd : o.data = .seq vs.toArray) (e : Entry P w K s a o H)
    (run : ∀ base : Heap, Env0 P w K mg base callerA [] s H → codeAny (model P w) callerA (.call (.ref fa) ⟨[.ref a], []⟩) (CR CX0 [] P w H s (fun v _ => v = .bl true) E0) s) :
    codeAny (model P w) callerA (.call (.ref fa) ⟨[.ref a], []⟩) (fun r s' => r = .ok (.ret (.bool true)) ∧ OldK s.heap s'.heap ∧ s'.os = s.os ∧ AllBare s'.gens) s := by
  have keepN : ∀ {b : Addr} {ob : Obj}, s.heap.get? b = some ob → b ≠ a → (hidT s.heap H).get? b = some ob := fun {b ob} h n =>
    hidT_get h ((e.only b).elim id fun z => absurd z.1 n)
  have nsK : ∀ {b : Addr} {m : Str → Option Value}, s.heap.Ns b m → (hidT s.heap H).Ns b m := fun {b m} ⟨ob, es, ep, h, d, r⟩ => ⟨ob, es, ep, keepN h (fun z => by
    subst z
    rw [ha] at h
    cases h
    rw [hd] at d
    cases d), d, r⟩
  have kin : K.In (hidT s.heap H) := fun b ob h => by
    by_cases z : b = a
    · subst z
      refine hidT_get (KX _ _ h) ?_
      cases q : H b with
      | none => rfl
      | some u =>
        have := e.apart (by rw [q]; simp)
        rw [h] at this
        cases this
    · exact keepN (KX _ _ h) z
  have md : Mod K mg (hidT s.heap H) := ⟨kin, nsK hns, ⟨mb, nsK hb, hbb⟩, let ⟨mc, h1, h2⟩ := hlim; ⟨mc, nsK h1, h2⟩⟩
  refine codeAny_mono (run _ ⟨rfl, md, fun b ob h => of_hidT h, Nat.le_of_eq (hidT_size _ _), trivial, fun b h => absurd (show b ∈ ([] : List Addr) from h) (by simp), e.ok, .of_eq hg⟩) fun r s' h => ?_
  match r, h with
  | .ok (.ret u), ⟨v, H', os, bare, un, ok', rel, (q : v = .bl true)⟩ =>
    subst q
    obtain rfl : u = Value.bool true := rel
    refine ⟨rfl, OldK.of_keep fun b ob hob => ?_, os, bare⟩
    rcases e.only b with q | ⟨z, xs, q⟩
    · exact un.keep b ob hob q (fun m => absurd (show b ∈ ([] : List Addr) from m) (by simp)) (by simp)
    · obtain ⟨e1, _⟩ := e.ok b _ q
      obtain ⟨e2, _⟩ := ok' b _ (un.frzs b _ _ q)
      exact e2.trans (e1.symm.trans hob)
/-- the end of the law: FR says what its call does at the caller's Around -/
theorem walk_g {l : PySem.W.OpenLaw} {n : Nat} {q : Program} {loose : List Str} {XP : (Str → Option Value) → Heap → Prop} {YP : World → Heap → Prop} {d : DefRec} {K : Params → PySem.W.Frag}
    (hn : l.most = some n) (hn2 : n ≤ sizeLine) (hdf : d.params.defaults = []) (hY : ∀ (w : World) (h : Heap), YP w h → (K w.params).In h)
    (FR : ∀ (w : World) (mg : Str → Option Value) (fa a : Addr) (ns : List Int) (s : Shared) (H : Hp) (base : Heap), (K w.params).In s.heap → s.heap.Ns mainGlobals mg → mg d.name = some (.ref fa) → ns.length ≤ n → (∀ z ∈ ns, Builtin.Int.intBits z ≤ 1048576) →
      SqL (K w.params) H a (ns.map V.int) → Env0 l.prog w (K w.params) mg base callerA [] s H → codeAny (model l.prog w) callerA (.call (.ref fa) ⟨[.ref a], []⟩) (CR CX0 [] l.prog w H s (fun v _ => v = .bl true) E0) s) :
    PySem.W.WalkO q loose XP YP l.row.toRowW d [] (fun f vs => PySem.call f vs) := by
  refine Att.attach_callB hn hdf fun w s₀ s₁ mg mb fa o pm cd doc a vs ns G Y ho hd hcd hmg hobj hints hlen hbits hg => ?_
  have KX := hY w _ Y
  have rv := vals_ints hints
  have lz : (ns.map V.int).length ≤ sizeLine := by rw [List.length_map]; omega
  cases hk : (K w.params).lookup a with
  | some o1 =>
    have e1 := KX a o1 hk
    rw [hobj] at e1
    cases e1
    refine law_at (H := fun _ => none) KX G.T.g G.T.b G.T.builtins G.T.nolimit hg hobj rfl ⟨fun _ => .inl rfl, (fun b u z => nomatch (show (none : Option HO) = some u from z)), fun z => absurd rfl z⟩ fun base e0 => ?_
    refine FR w mg fa a ns s₁ _ base KX G.T.g hmg hlen hbits (.inr ⟨_, vs.toArray, _, hk, rfl, rfl, rfl, by rw [List.size_toArray, ← rv.length]; exact lz, by simpa using rv⟩) e0
  | none =>
    refine law_at (H := fun b => if b = a then some (.frz { cls := .type "list", data := .seq vs.toArray } (.lst (ns.map V.int))) else none) KX G.T.g G.T.b G.T.builtins G.T.nolimit hg hobj rfl ⟨fun b => ?_, fun b u z => ?_, fun _ => hk⟩ fun base e0 => ?_
    · by_cases hb : b = a
      · exact .inr ⟨hb, _, if_pos hb⟩
      · exact .inl (if_neg hb)
    · by_cases hb : b = a
      · have z' := (if_pos hb).symm.trans z
        cases z'
        subst hb
        exact ⟨hobj, lz, vs, _, rv, hobj⟩
      · have z' := (if_neg hb).symm.trans z
        cases z'
    · exact FR w mg fa a ns s₁ _ base KX G.T.g hmg hlen hbits (.inl (.inr ⟨_, if_pos rfl⟩)) e0
end K65

set_option Elab.async false
set_option linter.all false
set_option maxRecDepth 100000
set_option maxHeartbeats 4000000
/-! lies_below and greatest_rows. -/
namespace K65
open PySem PySem.Spec PyProof.Rows L2 RZ
def topS (i : Nat) : Stmt := PySem.Challenge.pw_oneweight_k65_greatest_rows_of_any_list.main.body.getD i (.Pass ⟨0, 0, 0, 0⟩)
abbrev sLies : Stmt := topS 1
abbrev sGreat : Stmt := topS 2
abbrev sBox : Stmt := topS 4
abbrev sTake : Stmt := topS 5
abbrev sPick : Stmt := topS 6
abbrev sDrawn : Stmt := topS 7
abbrev sCov : Stmt := topS 8
abbrev sDue : Stmt := topS 9
abbrev sLaw : Stmt := topS 10
theorem same_new {H : Hp} {p : Addr} {o : HO} (h : H p = none) : Same H (upd H p o) := fun b x e => by
  rw [upd_ne (ne_of_none e h)]
  exact e
theorem sm_new {H0 H : Hp} {p : Addr} {o : HO} (s : Same H0 H) (h : H p = none) : Same H0 (upd H p o) := s.trans (same_new h)
/-- an object that was free at the start may change -/
theorem sm_free {H0 H : Hp} {p : Addr} {o : HO} (s : Same H0 H) (h : H0 p = none) : Same H0 (upd H p o) := fun b x e => by
  rw [upd_ne (ne_of_none e h)]
  exact s b x e
theorem sm_seqT {K : PySem.W.Frag} {H H' : Hp} {a : Addr} {xs : List V} (e : Same H H') (h : SqT K H a xs) : SqT K H' a xs := by
  rcases h with (h | ⟨o, h⟩) | h
  · exact .inl (.inl (e _ _ h))
  · exact .inl (.inr ⟨o, e _ _ h⟩)
  · exact .inr h
theorem IsRow.same {H H' : Hp} {v : V} {ns : Row} (h : IsRow H v ns) (s : Same H H') : IsRow H' v ns := h.keep (Same.tk s)

/-- a comprehension over zip of two tuples of one length -/
theorem lc_zipT {K : PySem.W.Frag} {a b : Addr} {xs ys : List V} {g : TG} {tt : TT} {te : TE} {vs : List Nat} {σ : L2.St} {H1 : Hp} {D : Addr} {Qd : Hp → Prop} (hl : xs.length = ys.length) (Pv : Nat → Hp → Prop) (h0 : Pv 0 (upd H1 D (.lst [])))
    (hq : ∀ i H, Pv i H → SqT K H a xs ∧ SqT K H b ys)
    (hs : ∀ i x y T H, xs[i]? = some x → ys[i]? = some y → Pv i H → H T = none → g (.ref T) (wipe σ vs) (upd H T (.tup [x, y])) fun σ2 H2 => wipe σ2 vs = wipe σ vs ∧ tt σ2 H2 fun k H3 =>
      if k = true then te σ2 H3 fun z H4 => ∃ acc, H4 D = some (.lst acc) ∧ acc.length < sizeLine ∧ Pv (i + 1) (upd H4 D (.lst (acc ++ [z]))) else Pv (i + 1) H3) (hd : ∀ H, Pv xs.length H → Qd H) :
    ∃ W : Nat → Nat → Hp → Prop, (∃ m, W 0 m (upd H1 D (.lst []))) ∧ ∀ i m H, W i m H →
      ((ItzT K a b).stop i H ∧ Qd H) ∨ ((ItzT K a b).go i H ∧ ∃ Nx : Hp → Prop, (∀ H', Nx H' → ∃ m', m' < m ∧ W (i + 1) m' H') ∧ ∀ x H', (ItzT K a b).yld i H x H' → g x (wipe σ vs) H' fun σ2 H2 => wipe σ2 vs = wipe σ vs ∧ tt σ2 H2 fun k H3 =>
        if k = true then te σ2 H3 fun y H4 => ∃ acc, H4 D = some (.lst acc) ∧ acc.length < sizeLine ∧ Nx (upd H4 D (.lst (acc ++ [y]))) else Nx H3) := by
  refine ⟨fun i m H => m = xs.length - i ∧ i ≤ xs.length ∧ Pv i H, ⟨xs.length, by simp, Nat.zero_le _, h0⟩, ?_⟩
  rintro i m H ⟨rfl, hi, p⟩
  obtain ⟨qx, qy⟩ := hq i H p
  by_cases hlt : i < xs.length
  · have hy : i < ys.length := by omega
    refine .inr ⟨⟨xs, ys, xs[i], ys[i], qx, qy, by simp [hlt], by simp [hy]⟩, Pv (i + 1), fun H' p' => ⟨xs.length - (i + 1), by omega, rfl, hlt, p'⟩, fun x H' y => ?_⟩
    obtain ⟨T, x', y', rfl, hT, rfl, f1, f2⟩ := y
    exact hs i x' y' T H (f1 xs qx) (f2 ys qy) p hT
  · have e : i = xs.length := by omega
    subst e
    exact .inl ⟨⟨xs, ys, qx, qy, .inl (Nat.le_refl _)⟩, hd H p⟩

section
variable {P : Program} {w : World} {K : PySem.W.Frag} {mg : Str → Option Value} {base : Heap}
theorem scLies : FnScope ["row", "other", "number", "most"] ["row", "other"] (defScope sLies) := ⟨rfl, rfl, rfl, by decide +kernel, rfl, by decide +kernel, by decide +kernel⟩
def spLies : Sp := fun vs H Q _ => ∃ (x y : V) (a b : Row), vs = [x, y] ∧ IsRow H x a ∧ IsRow H y b ∧ a.length = b.length ∧ a.length ≤ 1000 ∧ ∀ H', Same H H' → Q (.bl (below a b)) H'
/-- the comparisons of the first i numbers -/
def les (a b : Row) (i : Nat) : List Bool := ((a.zip b).take i).map fun p => decide (p.1 ≤ p.2)
theorem les_all (a b : Row) (h : a.length = b.length) : (les a b a.length).all id = leB a b := by
  unfold les leB
  rw [List.take_of_length_le (by rw [List.length_zip]; omega), List.all_map]
  rfl
theorem les_succ {a b : Row} {i : Nat} {x y : Int} (hx : a[i]? = some x) (hy : b[i]? = some y) : les a b (i + 1) = les a b i ++ [decide (x ≤ y)] := by
  unfold les
  have e : (a.zip b)[i]? = some (x, y) := by
    rw [List.getElem?_zip_eq_some]
    exact ⟨hx, hy⟩
  rw [List.take_add_one, e, List.map_append]
  rfl
theorem ok_lies {f : Addr} {fd : FuncData} (F : Fun K "lies_below" "lies_below" sLies f fd) (mAll : mg "all" = none) (mZip : mg "zip" = none) : FnOk P w K mg base CX0 1 f fd ["row", "other"] spLies := by
  refine F.ok scLies (fun vs H Q E h => ?_) (fun cdv A outer s H vs Q E hr h => ?_)
  · obtain ⟨x, y, a, b, rfl, _⟩ := h
    rfl
  · obtain ⟨x, y, a, b, rfl, hx, hy, hl, hz, q⟩ := h
    refine ⟨_, pss_cons (ps_if (pt_cmpR (op_eqD hr.units) (pv 0) (pv 1) (nomark _)) (pss_one (ps_ret pe_bl)) pss_nil)
      (pss_one (ps_ret (pe_callB (cr_all rfl) (by rfl) mAll (by decide +kernel) (pa_cons (pe_lc (own := [("number", 2), ("most", 3)]) (g := gTup K 2 (gCons (gName 2) (gCons (gName 3) gNil))) (tt := tYes) rfl scLies.nd
        (pi_zipA (by rfl) mZip (pa_cons (pv 0) (pa_cons (pv 1) pa_nil))) (blkOk_by (own := [("number", 2), ("most", 3)]) (N := ["row", "other", "number", "most"]) (sc := defScope sLies) (by decide +kernel))
        (fun _ _ _ _ _ => pg_tup rfl (pgs_cons (pg_name (i := 2) scLies.nd rfl (.inl rfl)) (pgs_cons (pg_name (i := 3) scLies.nd rfl (.inl rfl)) pgs_nil))) (fun _ _ _ _ _ => pts_nil)
        (fun _ _ _ _ _ => pe_cmpR op_le (pv 2) (pv 3) (nomark _))) pa_nil)))), ?_⟩
    refine ⟨x, rfl, y, rfl, rowD a, rowD b, hx.dp, hy.dp, rowD_shaped _, rowD_shaped _, _, rfl, ?_⟩
    rw [rowD_eqv]
    by_cases e : a = b
    · rw [decide_eq_true e]
      refine iteT ?_
      have := q H (Same.refl H)
      unfold below at this
      rw [if_pos e] at this
      exact this
    · rw [decide_eq_false e]
      refine iteF ?_
      obtain ⟨t1, rfl, e1⟩ := hx
      obtain ⟨t2, rfl, e2⟩ := hy
      refine ⟨_, rfl, _, rfl, t1, t2, _, _, rfl, .inr ⟨.inl (.inl e1), .inl (.inl e2), fun D hD => ?_⟩⟩
      refine lc_zipT (by rw [List.length_map, List.length_map]; exact hl) (fun i H' => Same H H' ∧ H' D = some (.lst ((les a b i).map V.bl))) ⟨same_new hD, upd_same⟩ (fun i H' h' => ⟨.inl (.inl (h'.1 _ _ e1)), .inl (.inl (h'.1 _ _ e2))⟩) ?_ ?_
      · rintro i x y T H' hxi hyi ⟨s1, hDl⟩ hT
        obtain ⟨u, hu, rfl⟩ := List.getElem?_map ▸ hxi |> fun h => Option.map_eq_some_iff.mp h
        obtain ⟨v, hv, rfl⟩ := List.getElem?_map ▸ hyi |> fun h => Option.map_eq_some_iff.mp h
        refine ⟨T, _, rfl, .inl (.inl upd_same), rfl, _, _, rfl, _, _, rfl, rfl, rfl, ?_⟩
        refine ⟨_, rfl, _, rfl, u, v, rfl, rfl, _, by rw [upd_ne (ne_of_none hDl hT)]; exact hDl, ?_, fun b o e => ?_, ?_⟩
        · rw [List.length_map]
          unfold les
          rw [List.length_map, List.length_take]
          exact Nat.lt_of_le_of_lt (Nat.min_le_right _ _) (small1000 (by rw [List.length_zip]; omega))
        · rw [upd_ne (ne_of_none e hD), upd_ne (ne_of_none (s1 _ _ e) hT)]
          exact s1 _ _ e
        · rw [upd_same, les_succ hu hv, List.map_append]
          rfl
      · rintro H' ⟨s1, hDl⟩
        refine ⟨D, _, rfl, .inl (.inl hDl), ?_⟩
        rw [List.length_map, les_all a b hl]
        have := q H' s1
        unfold below at this
        rw [if_neg e] at this
        exact this

/-! ### greatest_rows -/
theorem keyR_inj {a b : Row} : keyR a = keyR b ↔ a = b := by
  constructor
  · intro h
    have : (keyR a).map kV = (keyR b).map kV := by rw [h]
    rw [keyR_kV, keyR_kV] at this
    exact (List.map_inj_right (fun x y h => by injection h)).mp this
  · rintro rfl; rfl
/-- the dict's rows: the first i rows, each once -/
structure Known (L : List Row) (kvs : List (List L2.Key × V)) (ks : List Row) : Prop where
  keys : kvs.map (·.1) = ks.map keyR
  nd : ks.Nodup
  mem : ∀ r, r ∈ ks ↔ r ∈ L
  len : kvs.length ≤ L.length
theorem Known.put {L : List Row} {kvs : List (List L2.Key × V)} {ks : List Row} (h : Known L kvs ks) (r : Row) (v : V) : ∃ ks', Known (L ++ [r]) (putK kvs (keyR r) v) ks' := by
  by_cases e : r ∈ ks
  · refine ⟨ks, ?_, h.nd, fun z => ?_, ?_⟩
    · have h1 : (putK kvs (keyR r) v).map (·.1) = kvs.map (·.1) := by
        unfold putK
        rw [if_pos]
        · rw [List.map_map]
          refine List.map_congr_left fun p _ => ?_
          show (if p.1 = keyR r then (p.1, v) else p).1 = p.1
          split <;> rfl
        · rw [List.any_eq_true]
          have : keyR r ∈ kvs.map (·.1) := by rw [h.keys]; exact List.mem_map.mpr ⟨r, e, rfl⟩
          obtain ⟨p, hp, e2⟩ := List.mem_map.mp this
          exact ⟨p, hp, decide_eq_true e2⟩
      rw [h1, h.keys]
    · rw [h.mem, List.mem_append, List.mem_singleton]
      exact ⟨.inl, fun q => q.elim id fun q => by rw [q]; exact (h.mem r).mp e⟩
    · have : (putK kvs (keyR r) v).length ≤ kvs.length + 1 := by
        unfold putK
        split
        · rw [List.length_map]; omega
        · rw [List.length_append, List.length_singleton]; omega
      have := h.len
      rw [List.length_append, List.length_singleton]
      omega
  · refine ⟨ks ++ [r], ?_, ?_, fun z => ?_, ?_⟩
    · have h1 : putK kvs (keyR r) v = kvs ++ [(keyR r, v)] := by
        unfold putK
        rw [if_neg]
        intro q
        obtain ⟨p, hp, e2⟩ := List.any_eq_true.mp q
        have : p.1 ∈ kvs.map (·.1) := List.mem_map.mpr ⟨p, hp, rfl⟩
        rw [h.keys, of_decide_eq_true e2] at this
        obtain ⟨z, hz, e3⟩ := List.mem_map.mp this
        exact e (keyR_inj.mp e3 ▸ hz)
      rw [h1, List.map_append, List.map_append, h.keys]
      rfl
    · refine List.nodup_append.mpr ⟨h.nd, by simp, fun a ha b hb => ?_⟩
      rw [List.mem_singleton.mp hb]
      rintro rfl
      exact e ha
    · rw [List.mem_append, List.mem_append, h.mem]
    · have : (putK kvs (keyR r) v).length ≤ kvs.length + 1 := by
        unfold putK
        split
        · rw [List.length_map]; omega
        · rw [List.length_append, List.length_singleton]; omega
      have := h.len
      rw [List.length_append, List.length_singleton]
      omega
abbrev nGreat : List Str := ["rows", "known", "row", "greatest", "other"]
theorem scGreat : FnScope nGreat ["rows"] (defScope sGreat) := ⟨rfl, rfl, rfl, by decide +kernel, rfl, by decide +kernel, by decide +kernel⟩
def spGreat (K : PySem.W.Frag) : Sp := fun vs H Q _ => ∃ (a : Addr) (xs : List V) (d : Nat), vs = [.ref a] ∧ (SqL K H a xs ∨ SqT K H a xs) ∧ AllRow H d xs ∧ d ≤ 1000 ∧ xs.length ≤ 1000 ∧
  ∀ (H' : Hp) (p : Addr) (ys : List V), Same H H' → H p = none → H' p = some (.lst ys) → AllRow H' d ys → ys.length ≤ xs.length → IsMax (dat H xs) (dat H' ys) → Q (.ref p) H'
structure Txt (mg : Str → Option Value) : Prop where
  all : mg "all" = none
  zip : mg "zip" = none
  any : mg "any" = none
  sorted : mg "sorted" = none
  tuple : mg "tuple" = none
theorem getElem?_dat {H : Hp} {xs : List V} {i : Nat} {x : V} (h : xs[i]? = some x) : (dat H xs)[i]? = some (rowOf H x) := by
  unfold dat
  rw [List.getElem?_map, h]
  rfl
theorem take_succ_rev {L : List Row} {i : Nat} {r : Row} (h : L[i]? = some r) : (L.take (i + 1)).reverse = r :: (L.take i).reverse := by
  rw [List.take_add_one, h]
  simp
theorem ok_great {f fL : Addr} {fd fdL : FuncData} (F : Fun K "greatest_rows" "greatest_rows" sGreat f fd) (FL : Fun K "lies_below" "lies_below" sLies fL fdL) (bL : Binds K fdL ["row", "other"] []) (gL : mg "lies_below" = some (.ref fL)) (T : Txt mg) :
    FnOk P w K mg base CX0 2 f fd ["rows"] (spGreat K) := by
  have GL : FnOk P w K mg base CX0 1 fL fdL ["row", "other"] spLies := ok_lies FL T.all T.zip
  refine F.ok scGreat (fun vs H Q E h => ?_) (fun cdv A outer s H vs Q E hr h => ?_)
  · obtain ⟨a, xs, d, rfl, _⟩ := h
    rfl
  · obtain ⟨a, xs, d, rfl, hS, hX, hd, hxl, q⟩ := h
    have hr1 : Room 1 _ := hr
    -- what follows the first loop
    obtain ⟨tr, htr, hq⟩ : ∃ tr, PSs (cxOf CX0 P w K mg base nGreat "greatest_rows" (defScope sGreat) f cdv A outer s H E).nox ((defBody sGreat).drop 2) tr ∧
        ∀ (H1 : Hp) (k : Addr) (v2 v4 v5 : Option V) (kvs : List (List L2.Key × V)) (ks : List Row), Same H H1 → H k = none → H1 k = some (.dT kvs) → Known (dat H xs) kvs ks →
          tr { nx := fun _ H' => Q .non H', rt := Q } [some (.ref a), some (.ref k), v2, v4, v5] H1 := by
      refine ⟨_, pss_cons (ps_set (i := 3) scGreat.nd rfl (.inl rfl) (pe_lst pa_nil))
        (pss_cons (ps_for PassesOwn.never rfl (pi_list (pe_callBK (cr_sortRev rfl hr.units) (by rfl) T.sorted (by decide +kernel) (pa_cons (pv 1) pa_nil) (pk_cons pe_bl pk_nil))) (pg_name (i := 2) scGreat.nd rfl (.inr rfl))
          (pss_one (ps_if (pt_not (pt_val (pe_callB (cr_any rfl) (by rfl) T.any (by decide +kernel) (pa_cons (pe_lc (own := [("other", 4)]) (g := gName 4) (tt := tYes) rfl scGreat.nd (pi_list (pv 3))
              (blkOk_by (own := [("other", 4)]) (N := nGreat) (sc := defScope sGreat) (by decide +kernel)) (fun _ _ _ _ _ => pg_name (i := 4) scGreat.nd rfl (.inl rfl)) (fun _ _ _ _ _ => pts_nil)
              (fun _ _ _ _ _ => pe_call GL hr1 rfl gL FL.kp bL .nil pass0 (pa_cons (pv 2) (pa_cons (pv 4) pa_nil)))) pa_nil))))
            (pss_one (ps_expr (pe_bm PySem.F.plainAttrs_list PySem.F.slot_list_append PySem.F.type_list_append mt_append (pv 3) (pa_cons (pv 2) pa_nil)))) pss_nil)))
        (pss_one (ps_ret (pe_callB (cr_sortRow hr.units) (by rfl) T.sorted (by decide +kernel) (pa_cons (pv 3) pa_nil))))), ?_⟩
      intro H1 k v2 v4 v5 kvs ks s1 k0 e1 kn
      have kd : ∀ r ∈ ks, r.length = d := fun r hr' => dat_len hX r ((kn.mem r).mp hr')
      -- greatest = []
      refine ⟨Nat.zero_le _, fun g g1 => ?_⟩
      have g0 : H g = none := Same.free s1 g1
      have ngk : g ≠ k := fun z => by rw [z, e1] at g1; cases g1
      have s2 : Same H (upd H1 g (.lst [])) := sm_new s1 g1
      generalize hH2 : upd H1 g (.lst []) = H2 at s2 ⊢
      have eg2 : H2 g = some (.lst []) := by rw [← hH2]; exact upd_same
      have ek2 : H2 k = some (.dT kvs) := by rw [← hH2, upd_ne ngk.symm]; exact e1
      -- for row in sorted(known, reverse=True)
      refine ⟨.ref k, rfl, k, kvs, ks, d, rfl, rfl, ek2, kn.keys, kd, fun ys L hys hp hso L2 => ?_⟩
      have L0 : H L = none := Same.free s2 L2
      have nLg : L ≠ g := fun z => by rw [z, eg2] at L2; cases L2
      refine ⟨L, rfl, ⟨ys, .inl (.inl upd_same)⟩, ?_⟩
      have lysx : ys.length ≤ xs.length := by
        have e2 : (dat H2 ys).length = ks.length := hp.length_eq
        have e3 := congrArg List.length kn.keys
        rw [List.length_map, List.length_map] at e3
        have e4 := kn.len
        rw [List.length_map] at e2 e4
        omega
      have lys : ys.length ≤ 1000 := by omega
      refine for_list (K := K) (a := L) (xs := ys) (fun i σ H' => ∃ v2 v5 zs, σ = [some (.ref a), some (.ref k), v2, some (.ref g), v5] ∧ Same H H' ∧ TKeep H2 H' ∧ H' L = some (.lst ys) ∧ H' g = some (.lst zs) ∧ AllRow H' d zs ∧ dat H' zs = gr ((dat H2 ys).take i).reverse ∧ zs.length ≤ i)
        ⟨v2, v5, [], rfl, sm_new s2 L2, TKeep.new L2, upd_same, by rw [upd_ne nLg.symm]; exact eg2, (fun _ h => nomatch h), rfl, Nat.le_refl _⟩ (fun i σ H' _ ⟨_, _, _, _, _, _, h, _⟩ => .inl (.inl h)) ?_ ?_
      · rintro i x σ H' hxi ⟨v2, v5, zs, rfl, s3, t3, eL, eg, hz, dz, lz⟩
        have hx2 : IsRow H2 x (rowOf H2 x) := hys.is (List.mem_of_getElem? hxi)
        have hx3 : IsRow H' x (rowOf H2 x) := hx2.keep t3
        have lx : (rowOf H2 x).length = d := hys.len (List.mem_of_getElem? hxi)
        have step : gr ((dat H2 ys).take (i + 1)).reverse = if (dat H' zs).any (below (rowOf H2 x)) then dat H' zs else dat H' zs ++ [rowOf H2 x] := by
          rw [take_succ_rev (getElem?_dat hxi), dz]
          rfl
        have hi := (List.getElem?_eq_some_iff.mp hxi).1
        refine ⟨_, rfl, g, rfl, ⟨zs, .inl (.inl eg)⟩, fun D hD => ?_⟩
        refine lc_list (K := K) (a := g) (xs := zs) (fun j H'' => Same H' H'' ∧ H'' D = some (.lst ((((dat H' zs).take j).map (below (rowOf H2 x))).map V.bl))) ⟨same_new hD, upd_same⟩ (fun j H'' _ h => .inl (.inl (h.1 _ _ eg))) ?_ ?_
        · rintro j o H'' hoj ⟨s4, eD⟩
          have ho := List.mem_of_getElem? hoj
          refine ⟨rfl, ?_⟩
          refine ⟨x, rfl, o, rfl, x, o, rowOf H2 x, rowOf H' o, rfl, hx3.same s4, (hz.is ho).same s4, by rw [lx, hz.len ho], by omega, fun H3 s5 => ?_⟩
          have lj := (List.getElem?_eq_some_iff.mp hoj).1
          refine ⟨_, s5 _ _ eD, ?_, fun b ob e => ?_, ?_⟩
          · rw [List.length_map, List.length_map, List.length_take]
            exact Nat.lt_of_le_of_lt (Nat.min_le_left _ _) (small1000 (by omega))
          · rw [upd_ne (ne_of_none e hD)]
            exact s5 _ _ (s4 _ _ e)
          · rw [upd_same, List.take_add_one, getElem?_dat hoj, List.map_append, List.map_append]
            rfl
        · rintro H'' ⟨s4, eD⟩
          rw [List.take_of_length_le (by rw [List.length_map]; exact Nat.le_refl _)] at eD
          refine ⟨D, _, rfl, .inl (.inl eD), _, rfl, ?_⟩
          have s5 : Same H H'' := s3.trans s4
          have t5 : TKeep H2 H'' := t3.trans (Same.tk s4)
          have hz5 : AllRow H'' d zs := hz.keep (Same.tk s4)
          have d5 : dat H'' zs = dat H' zs := dat_keep (Same.tk s4) hz
          have ea : (((dat H' zs).map (below (rowOf H2 x))).any id) = (dat H' zs).any (below (rowOf H2 x)) := by rw [List.any_map]; rfl
          rw [ea]
          cases hb : (dat H' zs).any (below (rowOf H2 x)) with
          | true =>
            rw [hb, if_pos rfl] at step
            refine iteF ?_
            exact ⟨_, _, zs, rfl, s5, t5, s4 _ _ eL, s4 _ _ eg, hz5, by rw [d5, step], by omega⟩
          | false =>
            rw [hb, if_neg Bool.false_ne_true] at step
            refine iteT ?_
            have eg5 := s4 _ _ eg
            refine ⟨_, rfl, .inl ⟨rfl, _, .inl (.inl eg5)⟩, _, rfl, g, _, _, rfl, rfl, eg5, Nat.lt_of_le_of_lt lz (small1000 (by omega)), ?_⟩
            have t6 : TKeep H'' (upd H'' g (.lst (zs ++ [x]))) := TKeep.mut eg5 (fun _ z => by cases z)
            have r6 : IsRow (upd H'' g (.lst (zs ++ [x]))) x (rowOf H2 x) := (hx3.same s4).keep t6
            refine ⟨_, _, zs ++ [x], rfl, sm_free s5 g0, t5.trans t6, by rw [upd_ne nLg]; exact s4 _ _ eL, upd_same, ?_, ?_, ?_⟩
            · refine (hz5.keep t6).append fun y hy => ?_
              rw [List.mem_singleton.mp hy]
              exact ⟨_, r6, lx⟩
            · unfold dat
              rw [List.map_append, List.map_cons, List.map_nil, rowOf_eq r6]
              have := dat_keep t6 hz5
              unfold dat at this
              rw [this]
              unfold dat at d5 step
              rw [d5, step]
            · rw [List.length_append, List.length_singleton]
              omega
      · rintro σ H' ⟨v2, v5, zs, rfl, s3, t3, eL, eg, hz, dz, lz⟩
        refine ⟨_, rfl, g, zs, d, rfl, .inl (.inl eg), hz, fun ys' p hp' ha p0 => ?_⟩
        rw [List.take_of_length_le (by rw [List.length_map]; exact Nat.le_refl _)] at dz
        have hy : AllRow H' d ys' := hz.perm hp'
        refine q _ p ys' (sm_new s3 p0) (Same.free s3 p0) upd_same (hy.keep (TKeep.new p0)) ?_ ?_
        · rw [hp'.length_eq]
          exact Nat.le_trans lz lysx
        rw [dat_keep (TKeep.new p0) hy]
        refine great_isMax (d := d) (K := dat H2 ys) (dat_len hX) (hp.nodup_iff.mpr kn.nd) (fun r => by rw [hp.mem_iff, kn.mem]) hso ?_ ha
        rw [← dz]
        exact hp'.map _
    rcases hS with hS | hS
    · refine ⟨_, pss_cons (ps_set (i := 1) scGreat.nd rfl (.inl rfl) pe_dnewT)
        (pss_cons (ps_for PassesOwn.never rfl (pi_list (pv 0)) (pg_name (i := 2) scGreat.nd rfl (.inr rfl)) (pss_one (ps_dput (hu_of hr) (pv 1) (pe_tupleOf (by rfl) T.tuple (pv 2)) pe_bl rfl))) htr), ?_⟩
      -- known = {}; for row in rows: known[tuple(row)] = True
      intro k hk
      have start0 : SqL K (upd H k (.dT [])) a xs := (same_new hk).seq hS
      refine ⟨.ref a, rfl, a, rfl, ⟨_, start0⟩, for_list (K := K) (a := a) (xs := xs) (fun i σ H' => ∃ v2 v4 v5 kvs ks, σ = [some (.ref a), some (.ref k), v2, v4, v5] ∧ Same H H' ∧ H' k = some (.dT kvs) ∧ Known ((dat H xs).take i) kvs ks)
        ⟨none, none, none, [], [], rfl, same_new hk, upd_same, ⟨rfl, .nil, fun r => by simp, Nat.zero_le _⟩⟩ (fun i σ H' _ ⟨_, _, _, _, _, _, s1, _⟩ => s1.seq hS) ?_ ?_⟩
      · rintro i x σ H' hxi ⟨v2, v4, v5, kvs, ks, rfl, s1, ek, kn⟩
        have hx := (hX.is (List.mem_of_getElem? hxi)).same s1
        obtain ⟨t, rfl, et⟩ := hx
        obtain ⟨ks', kn'⟩ := kn.put (rowOf H (.ref t)) (.bl true)
        have hlen := kn.len
        rw [List.length_take, List.length_map] at hlen
        refine ⟨_, rfl, _, rfl, .inr ⟨t, _, rfl, .inl (.inl et), k, _, rfl, DPut.t (k := keyR (rowOf H (.ref t))) ek (by rw [keyR_kV]; exact et) (small1000 (by omega)), ?_⟩⟩
        refine ⟨_, _, _, _, ks', rfl, sm_free s1 hk, upd_same, ?_⟩
        rw [List.take_add_one, getElem?_dat hxi]
        exact kn'
      · rintro σ H' ⟨v2, v4, v5, kvs, ks, rfl, s1, ek, kn⟩
        rw [List.take_of_length_le (by rw [List.length_map]; exact Nat.le_refl _)] at kn
        exact hq H' k v2 v4 v5 kvs ks s1 hk ek kn
    · refine ⟨_, pss_cons (ps_set (i := 1) scGreat.nd rfl (.inl rfl) pe_dnewT)
        (pss_cons (ps_for PassesOwn.never rfl (pi_tup (pv 0)) (pg_name (i := 2) scGreat.nd rfl (.inr rfl)) (pss_one (ps_dput (hu_of hr) (pv 1) (pe_tupleOf (by rfl) T.tuple (pv 2)) pe_bl rfl))) htr), ?_⟩
      -- known = {}; for row in rows: known[tuple(row)] = True
      intro k hk
      have start0 : SqT K (upd H k (.dT [])) a xs := sm_seqT (same_new hk) hS
      refine ⟨.ref a, rfl, a, rfl, ⟨_, start0⟩, for_tup (K := K) (a := a) (xs := xs) (fun i σ H' => ∃ v2 v4 v5 kvs ks, σ = [some (.ref a), some (.ref k), v2, v4, v5] ∧ Same H H' ∧ H' k = some (.dT kvs) ∧ Known ((dat H xs).take i) kvs ks)
        ⟨none, none, none, [], [], rfl, same_new hk, upd_same, ⟨rfl, .nil, fun r => by simp, Nat.zero_le _⟩⟩ (fun i σ H' _ ⟨_, _, _, _, _, _, s1, _⟩ => sm_seqT s1 hS) ?_ ?_⟩
      · rintro i x σ H' hxi ⟨v2, v4, v5, kvs, ks, rfl, s1, ek, kn⟩
        have hx := (hX.is (List.mem_of_getElem? hxi)).same s1
        obtain ⟨t, rfl, et⟩ := hx
        obtain ⟨ks', kn'⟩ := kn.put (rowOf H (.ref t)) (.bl true)
        have hlen := kn.len
        rw [List.length_take, List.length_map] at hlen
        refine ⟨_, rfl, _, rfl, .inr ⟨t, _, rfl, .inl (.inl et), k, _, rfl, DPut.t (k := keyR (rowOf H (.ref t))) ek (by rw [keyR_kV]; exact et) (small1000 (by omega)), ?_⟩⟩
        refine ⟨_, _, _, _, ks', rfl, sm_free s1 hk, upd_same, ?_⟩
        rw [List.take_add_one, getElem?_dat hxi]
        exact kn'
      · rintro σ H' ⟨v2, v4, v5, kvs, ks, rfl, s1, ek, kn⟩
        rw [List.take_of_length_le (by rw [List.length_map]; exact Nat.le_refl _)] at kn
        exact hq H' k v2 v4 v5 kvs ks s1 hk ek kn
end
end K65

set_option Elab.async false
set_option linter.all false
set_option maxRecDepth 100000
set_option maxHeartbeats 4000000
/-! The law's drawing: _law_box, _law_take, _law_pick. Only this is said of a draw: it lies in its bounds, and nothing but the box changes. -/
namespace K65
open PySem PySem.Spec PyProof.Rows L2 RZ

/-- the box at b with its list of great numbers at g -/
def BoxAt (H : Hp) (b g : Addr) : Prop := ∃ (seed e : Int) (gs : List Int), H b = some (.lst [.int seed, .int e, .ref g]) ∧ H g = some (.lst (gs.map V.int)) ∧ 0 ≤ seed ∧ seed < 2147483647 ∧ 0 ≤ e ∧ (∀ z ∈ gs, 0 ≤ z) ∧ gs.length ≤ 63
/-- all but the box stays -/
def Frame (b g : Addr) (H H' : Hp) : Prop := ∀ c o, c ≠ b → c ≠ g → H c = some o → H' c = some o
theorem Frame.refl (b g : Addr) (H : Hp) : Frame b g H H := fun _ _ _ _ h => h
theorem Frame.trans {b g : Addr} {H H1 H2 : Hp} (a : Frame b g H H1) (c : Frame b g H1 H2) : Frame b g H H2 := fun x o h1 h2 h => c x o h1 h2 (a x o h1 h2 h)
theorem Frame.new {b g p : Addr} {H H1 : Hp} {o : HO} (a : Frame b g H H1) (h : H1 p = none) : Frame b g H (upd H1 p o) := fun x u h1 h2 e => by
  rw [upd_ne (ne_of_none (a x u h1 h2 e) h)]
  exact a x u h1 h2 e
theorem Frame.of_same {b g : Addr} {H H1 : Hp} (s : Same H H1) : Frame b g H H1 := fun x o _ _ h => s x o h
theorem BoxAt.ne {H : Hp} {b g : Addr} (h : BoxAt H b g) : b ≠ g := by
  obtain ⟨seed, e, gs, hb, hg, _⟩ := h
  rintro rfl
  rw [hb] at hg
  have := HO.lst.inj (Option.some.inj hg)
  match gs, this with
  | [_, _, _], z => simp at z
theorem BoxAt.keep {H H' : Hp} {b g : Addr} (h : BoxAt H b g) (hb : ∀ o, H b = some o → H' b = some o) (hg : ∀ o, H g = some o → H' g = some o) : BoxAt H' b g := by
  obtain ⟨seed, e, gs, h1, h2, r⟩ := h
  exact ⟨seed, e, gs, hb _ h1, hg _ h2, r⟩
theorem BoxAt.same {H H' : Hp} {b g : Addr} (h : BoxAt H b g) (s : Same H H') : BoxAt H' b g := h.keep (fun o e => s _ o e) (fun o e => s _ o e)
theorem BoxAt.new {H : Hp} {b g p : Addr} {o : HO} (h : BoxAt H b g) (n : H p = none) : BoxAt (upd H p o) b g := h.same (same_new n)
theorem BoxAt.mut {H : Hp} {b g p : Addr} {o : HO} (h : BoxAt H b g) (n1 : p ≠ b) (n2 : p ≠ g) : BoxAt (upd H p o) b g := h.keep (fun o e => by rw [upd_ne n1.symm]; exact e) (fun o e => by rw [upd_ne n2.symm]; exact e)
/-- a tuple is neither box nor list -/
theorem BoxAt.tup_ne {H : Hp} {b g t : Addr} {ys : List V} (h : BoxAt H b g) (e : H t = some (.tup ys)) : t ≠ b ∧ t ≠ g := by
  obtain ⟨seed, e', gs, h1, h2, r⟩ := h
  exact ⟨ne_of e h1 (fun z => by cases z), ne_of e h2 (fun z => by cases z)⟩
theorem Frame.tk {b g : Addr} {H H' : Hp} (f : Frame b g H H') (h : BoxAt H b g) : TKeep H H' := fun t ys e => f t _ (h.tup_ne e).1 (h.tup_ne e).2 e
theorem BoxAt.none_ne {H : Hp} {b g p : Addr} (h : BoxAt H b g) (e : H p = none) : p ≠ b ∧ p ≠ g := by
  obtain ⟨seed, e', gs, h1, h2, r⟩ := h
  exact ⟨(ne_of_none h1 e).symm, (ne_of_none h2 e).symm⟩
structure TxtB (mg : Str → Option Value) : Prop where
  int : mg "int" = none
  len : mg "len" = none
  range : mg "range" = none
  tuple : mg "tuple" = none

section
variable {P : Program} {w : World} {K : PySem.W.Frag} {mg : Str → Option Value} {base : Heap}
/-! ### _law_take -/
theorem scTake : FnScope ["box", "many", "told"] ["box", "many"] (defScope sTake) := ⟨rfl, rfl, rfl, by decide +kernel, rfl, by decide +kernel, by decide +kernel⟩
def spTake : Sp := fun vs H Q _ => ∃ (b g : Addr) (m : Int), vs = [.ref b, .int m] ∧ BoxAt H b g ∧ 1 ≤ m ∧ m < 2 ^ 100 ∧ ∀ (H' : Hp) (v : Int), BoxAt H' b g → Frame b g H H' → 0 ≤ v → v < m → Q (.int v) H'
theorem ok_take {f : Addr} {fd : FuncData} (F : Fun K "_law_take" "_law_take" sTake f fd) (T : TxtB mg) : FnOk P w K mg base CX0 1 f fd ["box", "many"] spTake := by
  refine F.ok scTake (fun vs H Q E h => ?_) (fun cdv A outer s H vs Q E hr h => ?_)
  · obtain ⟨b, g, m, rfl, _⟩ := h
    rfl
  · obtain ⟨b, g, m, rfl, hB, hm, hm2, q⟩ := h
    -- behind the first if
    obtain ⟨tr, htr, hq⟩ : ∃ tr, PSs (cxOf CX0 P w K mg base ["box", "many", "told"] "_law_take" (defScope sTake) f cdv A outer s H E).nox ((defBody sTake).drop 1) tr ∧
        ∀ (H1 : Hp), BoxAt H1 b g → Frame b g H H1 → tr { nx := fun _ H' => Q .non H', rt := Q } [some (.ref b), some (.int m), none] H1 := by
      refine ⟨_, pss_cons (ps_if (pt_cmpR op_gt (pe_ix ix_list (pv 0) pe_int (fun _ _ => rfl)) pe_int (nomark _))
          (pss_cons (ps_set (i := 2) scTake.nd rfl (.inl rfl) (pe_op op_modN (pe_callTy call_int1 (by rfl) T.int (by decide +kernel) (pa_cons (pe_ix ix_list (pv 0) pe_int (fun _ _ => rfl)) pa_nil)) (pv 1)))
          (pss_cons (ps_asg (pe_op op_fdivW (pe_ix ix_list (pv 0) pe_int (fun _ _ => rfl)) (pv 1)) (pg_sub (pv 0) pe_int set_list))
          (pss_one (ps_ret (pv 2))))) pss_nil)
        (pss_cons (ps_asg (pe_op op_modN (pe_op op_add (pe_op op_mul (pe_callTy call_int1 (by rfl) T.int (by decide +kernel) (pa_cons (pe_ix ix_list (pv 0) pe_int (fun _ _ => rfl)) pa_nil)) pe_int) pe_int) pe_int) (pg_sub (pv 0) pe_int set_list))
        (pss_one (ps_ret (pe_op op_modN (pe_op op_modN (pe_op op_add (pe_op op_mul (pe_callTy call_int1 (by rfl) T.int (by decide +kernel) (pa_cons (pe_ix ix_list (pv 0) pe_int (fun _ _ => rfl)) pa_nil)) pe_int) pe_int) pe_int) (pv 1))))), ?_⟩
      rintro H1 ⟨seed, e, gs, hb, hg, s0, s1, e0, hz, hl⟩ fr
      have nbg : b ≠ g := BoxAt.ne ⟨seed, e, gs, hb, hg, s0, s1, e0, hz, hl⟩
      refine ⟨_, rfl, b, _, _, _, rfl, rfl, .inl (.inl hb), atI_nat (j := 1) rfl, e, 0, rfl, rfl, _, rfl, ?_⟩
      by_cases hp : 0 < e
      · rw [decide_eq_true hp]
        refine iteT ?_
        refine ⟨_, rfl, b, _, _, _, rfl, rfl, .inl (.inl hb), atI_nat (j := 1) rfl, .inl ⟨_, rfl, _, rfl, _, _, rfl, rfl, (by omega), ?_⟩⟩
        refine ⟨_, rfl, b, _, _, _, rfl, rfl, .inl (.inl hb), atI_nat (j := 1) rfl, _, rfl, _, _, rfl, rfl, wide_div (b := 100) (by omega) (by omega) (by decide) (by decide), _, rfl, b, _, _, 1, rfl, rfl, hb, rfl, ?_⟩
        refine ⟨_, rfl, ?_⟩
        show Q (V.int (e.fmod m)) _
        rw [Int.fmod_eq_emod_of_nonneg e (by omega : 0 ≤ m)]
        refine q _ _ ⟨seed, e / m, gs, upd_same, by rw [upd_ne nbg.symm]; exact hg, s0, s1, Int.ediv_nonneg e0 (by omega), hz, hl⟩ (fun c o h1 h2 h => ?_) (Int.emod_nonneg _ (by omega)) (Int.emod_lt_of_pos _ (by omega))
        rw [upd_ne h1]
        exact fr c o h1 h2 h
      · rw [decide_eq_false hp]
        refine iteF ?_
        have b1 : 0 ≤ (seed * 48271 + 11).fmod 2147483647 ∧ (seed * 48271 + 11).fmod 2147483647 < 2147483647 := by
          rw [Int.fmod_eq_emod_of_nonneg _ (by omega : (0 : Int) ≤ 2147483647)]
          omega
        refine ⟨_, rfl, b, _, _, _, rfl, rfl, .inl (.inl hb), atI_nat (j := 0) rfl, .inl ⟨_, rfl, _, _, rfl, rfl, .inl ⟨by omega, by omega⟩, _, _, rfl, rfl, _, _, rfl, rfl, (show (2147483647 : Int) ≠ 0 by decide), ?_⟩⟩
        refine ⟨_, rfl, b, _, _, 0, rfl, rfl, hb, rfl, ?_⟩
        refine ⟨_, rfl, b, _, _, _, rfl, rfl, .inl (.inl upd_same), atI_nat (j := 0) rfl, .inl ⟨_, rfl, _, _, rfl, rfl, .inl ⟨Int.lt_of_lt_of_le (by decide) b1.1, Int.lt_trans b1.2 (by decide)⟩, _, _, rfl, rfl, _, _, rfl, rfl, (show (2147483629 : Int) ≠ 0 by decide), _, rfl, _, _, rfl, rfl, (by omega), ?_⟩⟩
        show Q (V.int (Int.fmod (((seed * 48271 + 11).fmod 2147483647 * 69621 + 5).fmod 2147483629) m)) _
        rw [Int.fmod_eq_emod_of_nonneg _ (by omega : 0 ≤ m)]
        refine q _ _ ⟨_, e, gs, upd_same, by rw [upd_ne nbg.symm]; exact hg, b1.1, b1.2, e0, hz, hl⟩ (fun c o h1 h2 h => ?_) (Int.emod_nonneg _ (by omega)) (Int.emod_lt_of_pos _ (by omega))
        rw [upd_ne h1]
        exact fr c o h1 h2 h
    obtain ⟨seed, e, gs, hb, hg, s0, s1, e0, hz, hl⟩ := id hB
    refine ⟨_, pss_cons (ps_if (PW.pt (pw_and (pt_cmpR op_eq (pe_ix ix_list (pv 0) pe_int (fun _ _ => rfl)) pe_int (nomark _)) (pw_and1 (pt_truth (pe_ix ix_list (pv 0) pe_int (fun _ _ => rfl)) (by intro _; rfl)))))
        (pss_one (ps_asg (pe_bm PySem.F.plainAttrs_list PySem.F.slot_list_pop PySem.F.type_list_pop mt_popAt (pe_ix ix_list (pv 0) pe_int (fun _ _ => rfl)) (pa_cons pe_int pa_nil)) (pg_sub (pv 0) pe_int set_list))) pss_nil) htr, ?_⟩
    refine ⟨_, rfl, b, _, _, _, rfl, rfl, .inl (.inl hb), atI_nat (j := 1) rfl, rfl, _, rfl, ?_⟩
    by_cases h0 : V.int e = V.int 0
    · rw [decide_eq_true h0]
      refine iteT ?_
      refine ⟨_, rfl, b, _, _, _, rfl, rfl, .inl (.inl hb), atI_nat (j := 2) rfl, !(gs.map V.int).isEmpty, .inl ⟨_, .inl (.inl hg), rfl⟩, ?_⟩
      cases hgs : gs with
      | nil =>
        refine iteF ?_
        exact hq H hB (Frame.refl _ _ _)
      | cons z zs =>
        refine iteT ?_
        rw [hgs] at hg hz hl
        have nbg : b ≠ g := hB.ne
        refine ⟨_, rfl, b, _, _, _, rfl, rfl, .inl (.inl hb), atI_nat (j := 2) rfl, .inl ⟨rfl, _, .inl (.inl hg)⟩, g, _, 0, 0, _, rfl, rfl, hg, by decide, by decide, ?_, rfl, ?_⟩
        · unfold seqIndex?
          rw [List.length_map]
          simp
        · refine ⟨_, rfl, b, _, _, 1, rfl, rfl, by rw [upd_ne nbg]; exact hb, rfl, ?_⟩
          refine hq _ ⟨seed, z, zs, upd_same, by rw [upd_ne nbg.symm, upd_same]; rfl, s0, s1, hz z List.mem_cons_self, fun y hy => hz y (List.mem_cons_of_mem _ hy), by simp at hl; omega⟩ fun c o h1 h2 h => ?_
          rw [upd_ne h1, upd_ne h2]
          exact h
    · rw [decide_eq_false h0]
      refine iteF ?_
      refine iteF ?_
      exact hq H hB (Frame.refl _ _ _)
/-! ### _law_pick -/
theorem scPick : FnScope ["box", "rows"] ["box", "rows"] (defScope sPick) := ⟨rfl, rfl, rfl, by decide +kernel, rfl, by decide +kernel, by decide +kernel⟩
def spPick : Sp := fun vs H Q _ => ∃ (b g a : Addr) (xs : List V), vs = [.ref b, .ref a] ∧ BoxAt H b g ∧ H a = some (.lst xs) ∧ a ≠ b ∧ a ≠ g ∧ 1 ≤ xs.length ∧ xs.length ≤ 1000 ∧ ∀ (H' : Hp) (v : V), BoxAt H' b g → Frame b g H H' → v ∈ xs → Q v H'
theorem ok_pick {f fT : Addr} {fd fdT : FuncData} (F : Fun K "_law_pick" "_law_pick" sPick f fd) (FT : Fun K "_law_take" "_law_take" sTake fT fdT) (bT : Binds K fdT ["box", "many"] []) (gT : mg "_law_take" = some (.ref fT)) (T : TxtB mg) :
    FnOk P w K mg base CX0 2 f fd ["box", "rows"] spPick := by
  have GT : FnOk P w K mg base CX0 1 fT fdT ["box", "many"] spTake := ok_take FT T
  refine F.ok scPick (fun vs H Q E h => ?_) (fun cdv A outer s H vs Q E hr h => ?_)
  · obtain ⟨b, g, a, xs, rfl, _⟩ := h
    rfl
  · obtain ⟨b, g, a, xs, rfl, hB, ha, n1, n2, l1, l2, q⟩ := h
    refine ⟨_, pss_one (ps_ret (pe_ix ix_list (pv 1) (pe_call GT hr (by rfl) gT FT.kp bT .nil pass0 (pa_cons (pv 0) (pa_cons (pe_callB call_len_seq (by rfl) T.len PySem.boot_len (pa_cons (pv 1) pa_nil)) pa_nil))) (fun _ _ => rfl))), ?_⟩
    refine ⟨_, rfl, _, rfl, _, rfl, a, _, rfl, .inl (.inl (.inl ha)), b, g, _, rfl, hB, by omega, by omega, fun H' v hB' fr v0 v1 => ?_⟩
    obtain ⟨j, rfl⟩ := Int.eq_ofNat_of_zero_le v0
    have hj : j < xs.length := by omega
    exact ⟨a, xs, _, _, rfl, rfl, .inl (.inl (fr _ _ n1 n2 ha)), atI_nat (List.getElem?_eq_getElem hj), q H' _ hB' fr (List.getElem_mem hj)⟩
/-! ### _law_box -/
theorem scBox : FnScope ["script", "cells", "seed", "cell"] ["script"] (defScope sBox) := ⟨rfl, rfl, rfl, by decide +kernel, rfl, by decide +kernel, by decide +kernel⟩
def spBox (K : PySem.W.Frag) : Sp := fun vs H Q _ => ∃ (a : Addr) (ns : List Int), vs = [.ref a] ∧ SqL K H a (ns.map V.int) ∧ ns.length ≤ 63 ∧ ∀ (H' : Hp) (b g : Addr), Same H H' → H b = none → H g = none → BoxAt H' b g → Q (.ref b) H'
theorem ok_box {f : Addr} {fd : FuncData} (F : Fun K "_law_box" "_law_box" sBox f fd) (T : TxtB mg) : FnOk P w K mg base CX0 1 f fd ["script"] (spBox K) := by
  refine F.ok scBox (fun vs H Q E h => ?_) (fun cdv A outer s H vs Q E hr h => ?_)
  · obtain ⟨a, ns, rfl, _⟩ := h
    rfl
  · obtain ⟨a, ns, rfl, hS, hl, q⟩ := h
    refine ⟨_, pss_cons (ps_setLc (i := 1) (own := [("cell", 3)]) (g := gName 3) (tt := tYes) rfl scBox.nd rfl rfl (sw_true rfl rfl rfl (by decide +kernel)) (pi_list (pe_slice sl_list (pv 0) po_none (po_some pe_int)))
        (blkOk_by (own := [("cell", 3)]) (N := ["script", "cells", "seed", "cell"]) (sc := defScope sBox) (by decide +kernel)) (fun _ _ _ _ _ => pg_name (i := 3) scBox.nd rfl (.inl rfl)) (fun _ _ _ _ _ => pts_nil)
        (fun _ _ _ _ _ => pe_callTy call_int1 (by rfl) T.int (by decide +kernel) (pa_cons (pv 3) pa_nil)))
      (pss_cons (ps_set (i := 2) scBox.nd rfl (.inl rfl) pe_int)
      (pss_cons (ps_for PassesOwn.never rfl (pi_list (pv 1)) (pg_name (i := 3) scBox.nd rfl (.inl rfl))
        (pss_one (ps_set (i := 2) scBox.nd rfl (.inl rfl) (pe_op op_modN (pe_op op_add (pe_op op_add (pe_op op_mul (pv 2) pe_int) (pe_op op_modN (pv 3) pe_int)) pe_int) pe_int))))
      (pss_one (ps_ret (pe_lst (pa_cons (pv 2) (pa_cons pe_int (pa_cons (pe_lc (own := [("cell", 3)]) (g := gName 3) rfl scBox.nd (pi_list (pv 1))
        (blkOk_by (own := [("cell", 3)]) (N := ["script", "cells", "seed", "cell"]) (sc := defScope sBox) (by decide +kernel)) (fun _ _ _ _ _ => pg_name (i := 3) scBox.nd rfl (.inl rfl)) (fun _ _ _ _ _ => pts_one (pt_cmpR op_ge (pv 3) (pe_op op_pow pe_int pe_int) (nomark _)))
        (fun _ _ _ _ _ => pv 3)) pa_nil)))))))), ?_⟩
    -- cells = [int(cell) for cell in script[:63]]
    refine ⟨_, rfl, 63, rfl, a, _, rfl, hS, fun c hc => ?_⟩
    have s1 : Same H (upd H c (.lst (cutV (ns.map V.int) none (some 63)))) := same_new hc
    have ecut : cutV (ns.map V.int) none (some 63) = ns.map V.int := by
      unfold cutV
      rw [HT.sIx_none, show HT.sIx (ns.map V.int).length (ns.map V.int).length (some 63) = min 63 (ns.map V.int).length from HT.sIx_nat _ _ 63, List.drop_zero, List.length_map]
      exact List.take_of_length_le (by rw [List.length_map]; omega)
    rw [ecut] at s1 ⊢
    refine ⟨c, rfl, ⟨_, .inl (.inl upd_same)⟩, fun D hD => ?_⟩
    generalize hH1 : upd H c (.lst (ns.map V.int)) = H1 at s1 hD ⊢
    have ec : H1 c = some (.lst (ns.map V.int)) := by rw [← hH1]; exact upd_same
    have D0 : H D = none := Same.free s1 hD
    refine lc_list (K := K) (a := c) (xs := ns.map V.int) (fun j H' => Same H1 H' ∧ H' D = some (.lst ((ns.take j).map V.int))) ⟨same_new hD, upd_same⟩ (fun j H' _ h => .inl (.inl (h.1 _ _ ec))) ?_ ?_
    · rintro j x H' hx ⟨s2, eD⟩
      obtain ⟨n, hn, rfl⟩ := Option.map_eq_some_iff.mp (List.getElem?_map ▸ hx)
      refine ⟨rfl, ?_⟩
      refine ⟨_, rfl, .inl ⟨_, rfl, _, eD, ?_, sm_free s2 hD, ?_⟩⟩
      · rw [List.length_map, List.length_take]
        exact small1000 (by omega)
      · rw [upd_same, List.take_add_one, hn, List.map_append]
        rfl
    · rintro H2 ⟨s2, eD⟩
      rw [List.take_of_length_le (by rw [List.length_map]; exact Nat.le_refl _)] at eD
      have s3 : Same H H2 := s1.trans s2
      -- seed = 7; for cell in cells
      refine ⟨_, rfl, D, rfl, ⟨_, .inl (.inl eD)⟩, for_list (K := K) (a := D) (xs := ns.map V.int) (fun j σ H' => ∃ (seed : Int) (v3 : Option V), σ = [some (.ref a), some (.ref D), some (.int seed), v3] ∧ H2 = H' ∧ 0 ≤ seed ∧ seed < 2147483647)
        ⟨7, none, rfl, rfl, by decide, by decide⟩ (fun j σ H' _ ⟨_, _, _, e, _, _⟩ => by rw [← e]; exact .inl (.inl eD)) ?_ ?_⟩
      · rintro j x σ H' hx ⟨seed, v3, rfl, rfl, b0, b1⟩
        obtain ⟨n, hn, rfl⟩ := Option.map_eq_some_iff.mp (List.getElem?_map ▸ hx)
        refine ⟨_, rfl, _, _, rfl, rfl, .inl ⟨by omega, by omega⟩, _, rfl, _, _, rfl, rfl, (show (2147483647 : Int) ≠ 0 by decide), _, _, rfl, rfl, _, _, rfl, rfl, _, _, rfl, rfl, (show (2147483647 : Int) ≠ 0 by decide), ?_⟩
        refine ⟨_, _, rfl, rfl, ?_, ?_⟩
        · rw [Int.fmod_eq_emod_of_nonneg _ (by decide : (0 : Int) ≤ 2147483647)]
          exact Int.emod_nonneg _ (by decide)
        · rw [Int.fmod_eq_emod_of_nonneg _ (by decide : (0 : Int) ≤ 2147483647)]
          exact Int.emod_lt_of_pos _ (by decide)
      · rintro σ H' ⟨seed, v3, rfl, rfl, b0, b1⟩
        refine ⟨_, rfl, _, rfl, D, rfl, ⟨_, .inl (.inl eD)⟩, fun G hG => ?_⟩
        have G0 : H G = none := Same.free s3 hG
        refine lc_list (K := K) (a := D) (xs := ns.map V.int) (fun j H' => Same H2 H' ∧ H' G = some (.lst (((ns.take j).filter fun z => decide (10 ^ 18 ≤ z)).map V.int))) ⟨same_new hG, upd_same⟩ (fun j H' _ h => .inl (.inl (h.1 _ _ eD))) ?_ ?_
        · rintro j x H' hx ⟨s4, eG⟩
          obtain ⟨n, hn, rfl⟩ := Option.map_eq_some_iff.mp (List.getElem?_map ▸ hx)
          refine ⟨rfl, ?_⟩
          refine ⟨_, rfl, _, _, rfl, rfl, ⟨by decide, by decide, by decide⟩, _, _, rfl, rfl, _, rfl, ?_⟩
          show if decide ((10 : Int) ^ 18 ≤ n) = true then _ else _
          have e1 : (ns.take (j + 1)).filter (fun z => decide (10 ^ 18 ≤ z)) = (ns.take j).filter (fun z => decide (10 ^ 18 ≤ z)) ++ (if decide ((10 : Int) ^ 18 ≤ n) = true then [n] else []) := by
            rw [List.take_add_one, hn, List.filter_append]
            congr 1
            show List.filter _ [n] = _
            rw [List.filter_cons, List.filter_nil]
          rw [e1]
          by_cases hn2 : (10 : Int) ^ 18 ≤ n
          · rw [if_pos (decide_eq_true hn2), if_pos (decide_eq_true hn2)]
            refine ⟨_, rfl, _, eG, ?_, sm_free s4 hG, ?_⟩
            · rw [List.length_map]
              exact Nat.lt_of_le_of_lt (List.length_filter_le _ _) (small1000 (by rw [List.length_take]; omega))
            · rw [upd_same, List.map_append]
              rfl
          · rw [if_neg (by simp only [decide_eq_true_eq]; exact hn2), if_neg (by simp only [decide_eq_true_eq]; exact hn2), List.append_nil]
            exact ⟨s4, eG⟩
        · rintro H3 ⟨s4, eG⟩
          rw [List.take_of_length_le (by rw [List.length_map]; exact Nat.le_refl _)] at eG
          refine ⟨by show 3 ≤ sizeLine; decide, fun p hp => ?_⟩
          have s5 : Same H H3 := s3.trans s4
          have npG : G ≠ p := ne_of_none eG hp
          refine q _ p G (sm_new s5 hp) (Same.free s5 hp) G0 ⟨seed, 0, _, upd_same, by rw [upd_ne npG]; exact eG, b0, b1, by decide, fun z hz => ?_, ?_⟩
          · have := of_decide_eq_true (List.mem_filter.mp hz).2
            omega
          · exact Nat.le_trans (List.length_filter_le _ _) hl
end
end K65

set_option Elab.async false
set_option linter.all false
set_option maxRecDepth 100000
set_option maxHeartbeats 4000000
/-! _law_drawn: one to forty rows of one length, at most six, of numbers that stay small. -/
namespace K65
open PySem PySem.Spec PyProof.Rows L2 RZ

/-! ### slices and sums of rows -/
def cutR (ns : Row) (lo hi : Option Int) : Row := (ns.drop (HT.sIx ns.length 0 lo)).take (HT.sIx ns.length ns.length hi - HT.sIx ns.length 0 lo)
theorem cutR_to (ns : Row) (k : Nat) (h : k ≤ ns.length) : cutR ns none (some (k : Int)) = ns.take k := by
  unfold cutR
  rw [HT.sIx_none, HT.sIx_nat, List.drop_zero, Nat.sub_zero, Nat.min_eq_left h]
theorem cutR_from (ns : Row) (k : Nat) (h : k ≤ ns.length) : cutR ns (some (k : Int)) none = ns.drop k := by
  unfold cutR
  rw [HT.sIx_none, HT.sIx_nat, Nat.min_eq_left h]
  exact List.take_of_length_le (by rw [List.length_drop]; exact Nat.le_refl _)
theorem sl_row {K : PySem.W.Frag} {H : Hp} {x : V} {ns : Row} {lo hi : Option Int} {Q : VK} (e : IsRow H x ns) (q : ∀ H' y, Same H H' → IsRow H' y (cutR ns lo hi) → Q y H') : rSlA K x lo hi H Q := by
  obtain ⟨t, rfl, e⟩ := e
  refine ⟨t, _, rfl, .inl (.inl e), fun h => ?_, fun _ p hp => ?_⟩
  · refine q H _ (Same.refl H) ⟨t, rfl, ?_⟩
    rw [List.length_map] at h
    unfold cutR
    rw [h.1, h.2, List.drop_zero, Nat.sub_zero, List.take_length]
    exact e
  · refine q _ _ (same_new hp) ⟨p, rfl, ?_⟩
    rw [upd_same]
    unfold cutV cutR
    rw [List.length_map, List.map_take, List.map_drop]
theorem cat_row {K : PySem.W.Frag} {H : Hp} {x y : V} {a b : Row} {Q : VK} (ea : IsRow H x a) (eb : IsRow H y b) (hl : a.length + b.length ≤ 1000) (q : ∀ H' z, Same H H' → IsRow H' z (a ++ b) → Q z H') : rCatA K x y H Q := by
  obtain ⟨t, rfl, e1⟩ := ea
  obtain ⟨u, rfl, e2⟩ := eb
  refine ⟨t, u, _, _, rfl, rfl, .inl (.inl e1), .inl (.inl e2), by rw [List.length_map, List.length_map]; exact Nat.le_of_lt (small1000 hl), fun h => ?_, fun _ h => ?_, fun _ _ p hp => ?_⟩
  · refine q H _ (Same.refl H) ⟨u, rfl, ?_⟩
    have : a = [] := List.map_eq_nil_iff.mp h
    rw [this]
    exact e2
  · refine q H _ (Same.refl H) ⟨t, rfl, ?_⟩
    have : b = [] := List.map_eq_nil_iff.mp h
    rw [this, List.append_nil]
    exact e1
  · refine q _ _ (same_new hp) ⟨p, rfl, ?_⟩
    rw [upd_same, List.map_append]

/-! ### what is drawn -/
def Bd (B : Int) (r : Row) : Prop := ∀ n ∈ r, -B ≤ n ∧ n ≤ B
theorem Bd.mono {B C : Int} {r : Row} (h : Bd B r) (l : B ≤ C) : Bd C r := fun n hn => by have := h n hn; omega
theorem Bd.append {B : Int} {r q : Row} (h : Bd B r) (g : Bd B q) : Bd B (r ++ q) := fun n hn => (List.mem_append.mp hn).elim (h n) (g n)
theorem Bd.take {B : Int} {r : Row} (h : Bd B r) (k : Nat) : Bd B (r.take k) := fun n hn => h n (List.mem_of_mem_take hn)
theorem Bd.drop {B : Int} {r : Row} (h : Bd B r) (k : Nat) : Bd B (r.drop k) := fun n hn => h n (List.mem_of_mem_drop hn)
abbrev B0 : Int := 2 * 10 ^ 20
abbrev nDrawn : List Str := ["box", "many", "size", "wide", "low", "rows", "turn", "way", "row", "old", "at", "k"]
theorem scDrawn : FnScope nDrawn ["box"] (defScope sDrawn) := ⟨rfl, rfl, rfl, by decide +kernel, rfl, by decide +kernel, by decide +kernel⟩
def forBody : Stmt → List Stmt
  | .For _ _ b _ _ => b
  | _ => []
abbrev sTurn (j : Nat) : Stmt := (forBody ((defBody sDrawn).getD 5 (.Pass ⟨0, 0, 0, 0⟩))).getD j (.Pass ⟨0, 0, 0, 0⟩)
/-- the heap between two turns: n rows at R -/
structure Mid (b g R : Addr) (d : Nat) (H0 : Hp) (n : Nat) (H : Hp) (xs : List V) : Prop where
  box : BoxAt H b g
  fr : Frame b g H0 H
  at_ : H R = some (.lst xs)
  nb : R ≠ b
  ng : R ≠ g
  row : AllRow H d xs
  bd : ∀ r ∈ dat H xs, Bd (B0 + n) r
  len : xs.length = n
theorem Mid.same {b g R : Addr} {d n : Nat} {H0 H H' : Hp} {xs : List V} (m : Mid b g R d H0 n H xs) (s : Same H H') : Mid b g R d H0 n H' xs :=
  ⟨m.box.same s, m.fr.trans (Frame.of_same s), s _ _ m.at_, m.nb, m.ng, m.row.keep (Same.tk s), by rw [dat_keep (Same.tk s) m.row]; exact m.bd, m.len⟩
theorem Mid.frame {b g R : Addr} {d n : Nat} {H0 H H' : Hp} {xs : List V} (m : Mid b g R d H0 n H xs) (hb : BoxAt H' b g) (f : Frame b g H H') : Mid b g R d H0 n H' xs :=
  ⟨hb, m.fr.trans f, f _ _ m.nb m.ng m.at_, m.nb, m.ng, m.row.keep (f.tk m.box), by rw [dat_keep (f.tk m.box) m.row]; exact m.bd, m.len⟩
/-- a row that may be appended -/
def Cand (d n : Nat) (H : Hp) (x : V) : Prop := ∃ ns, IsRow H x ns ∧ ns.length = d ∧ Bd (B0 + n + 1) ns
theorem Cand.keep {d n : Nat} {H H' : Hp} {x : V} (c : Cand d n H x) (k : TKeep H H') : Cand d n H' x := by
  obtain ⟨ns, r, l⟩ := c
  exact ⟨ns, r.keep k, l⟩
theorem Mid.cand {b g R : Addr} {d n : Nat} {H0 H : Hp} {xs : List V} (m : Mid b g R d H0 n H xs) {x : V} (hx : x ∈ xs) : Cand d n H x :=
  ⟨_, m.row.is hx, m.row.len hx, (m.bd _ (List.mem_map.mpr ⟨x, hx, rfl⟩)).mono (by omega)⟩
theorem Mid.old {b g R : Addr} {d n : Nat} {H0 H : Hp} {xs : List V} (m : Mid b g R d H0 n H xs) {x : V} (hx : x ∈ xs) : ∃ ns, IsRow H x ns ∧ ns.length = d ∧ Bd (B0 + n) ns :=
  ⟨_, m.row.is hx, m.row.len hx, m.bd _ (List.mem_map.mpr ⟨x, hx, rfl⟩)⟩
/-- the slots: box, many, size, wide, low, rows stand -/
def Slots (b R : Addr) (many wide low : Int) (d : Nat) (σ : L2.St) : Prop := ∃ v6 v7 v8 v9 v10 v11, σ = [some (.ref b), some (.int many), some (.int d), some (.int wide), some (.int low), some (.ref R), v6, v7, v8, v9, v10, v11]
/-- within a turn: way and row are there -/
def Slots2 (b R : Addr) (many wide low : Int) (d : Nat) (x : V) (σ : L2.St) : Prop := ∃ v6 way v9 v10 v11, σ = [some (.ref b), some (.int many), some (.int d), some (.int wide), some (.int low), some (.ref R), v6, some (.int way), some x, v9, v10, v11]

section
variable {P : Program} {w : World} {K : PySem.W.Frag} {mg : Str → Option Value} {base : Heap} {f fT fP : Addr} {fdT fdP : FuncData} {cdv : Value} {A : Around} {outer : List Env} {s : Shared} {H : Hp} {E : XK}
  {b g R : Addr} {many wide low : Int} {d n : Nat} {H0 : Hp}
abbrev XD (P : Program) (w : World) (K : PySem.W.Frag) (mg : Str → Option Value) (base : Heap) (f : Addr) (cdv : Value) (A : Around) (outer : List Env) (s : Shared) (H : Hp) (E : XK) : Cx := (cxOf CX0 P w K mg base nDrawn "_law_drawn" (defScope sDrawn) f cdv A outer s H E).nox
/-- what a middle statement keeps -/
def Keeps (b g R : Addr) (many wide low : Int) (d n : Nat) (H0 : Hp) (t : TS) : Prop := ∀ (D : Ends) (σ : L2.St) (H : Hp) (xs : List V) (x : V), Slots2 b R many wide low d x σ → Mid b g R d H0 n H xs → Cand d n H x →
  (∀ σ' H' x', Slots2 b R many wide low d x' σ' → Mid b g R d H0 n H' xs → Cand d n H' x' → D.nx σ' H') → t D σ H

/-- if rows and way == 1: row = _law_pick(box, rows) -/
theorem st_pick (FP : Fun K "_law_pick" "_law_pick" sPick fP fdP) (FT : Fun K "_law_take" "_law_take" sTake fT fdT) (bT : Binds K fdT ["box", "many"] []) (gT : mg "_law_take" = some (.ref fT)) (bP : Binds K fdP ["box", "rows"] []) (gP : mg "_law_pick" = some (.ref fP)) (T : TxtB mg)
    (hr : Room 2 (XD P w K mg base f cdv A outer s H E).A) : ∃ t, PS (XD P w K mg base f cdv A outer s H E) (sTurn 2) t ∧ ∀ (b g R : Addr) (many wide low : Int) (d n : Nat) (H0 : Hp), n ≤ 40 → Keeps b g R many wide low d n H0 t := by
  have GP : FnOk P w K mg base CX0 2 fP fdP ["box", "rows"] spPick := ok_pick FP FT bT gT T
  refine ⟨_, ps_if (PW.pt (pw_and (pt_truth (pv 5) (by intro _; rfl)) (pw_and1 (pt_cmpR op_eq (pv 7) pe_int (nomark _)))))
    (pss_one (ps_set (i := 8) scDrawn.nd rfl (.inl rfl) (pe_call GP hr (by rfl) gP FP.kp bP .nil pass0 (pa_cons (pv 0) (pa_cons (pv 5) pa_nil))))) pss_nil, ?_⟩
  intro b g R many wide low d n H0 hn
  rintro D σ H1 xs x ⟨v6, way, v9, v10, v11, rfl⟩ m c q
  refine ⟨_, rfl, !xs.isEmpty, .inl ⟨xs, .inl (.inl m.at_), rfl⟩, ?_⟩
  cases hx : xs with
  | nil =>
    refine iteF ?_
    refine iteF ?_
    exact q _ H1 x ⟨_, _, _, _, _, rfl⟩ m c
  | cons y ys =>
    refine iteT ?_
    refine ⟨_, rfl, rfl, _, rfl, ?_⟩
    refine ite2 (fun _ => ?_) (fun _ => ?_)
    · have hl := m.len
      refine ⟨_, rfl, _, rfl, b, g, R, xs, rfl, m.box, m.at_, m.nb, m.ng, by rw [hx]; simp, by omega, fun H2 v hB fr hv => ?_⟩
      have m2 := m.frame hB fr
      exact q _ H2 v ⟨_, _, _, _, _, rfl⟩ m2 (m2.cand hv)
    · exact q _ H1 x ⟨_, _, _, _, _, rfl⟩ m c

/-- way 2: an old row with one number changed -/
theorem st_way2 (FP : Fun K "_law_pick" "_law_pick" sPick fP fdP) (FT : Fun K "_law_take" "_law_take" sTake fT fdT) (bT : Binds K fdT ["box", "many"] []) (gT : mg "_law_take" = some (.ref fT)) (bP : Binds K fdP ["box", "rows"] []) (gP : mg "_law_pick" = some (.ref fP)) (T : TxtB mg)
    (hr : Room 2 (XD P w K mg base f cdv A outer s H E).A) : ∃ t, PS (XD P w K mg base f cdv A outer s H E) (sTurn 3) t ∧ ∀ (b g R : Addr) (many wide low : Int) (d n : Nat) (H0 : Hp), n ≤ 40 → d ≤ 6 → Keeps b g R many wide low d n H0 t := by
  have GP : FnOk P w K mg base CX0 2 fP fdP ["box", "rows"] spPick := ok_pick FP FT bT gT T
  have GT : FnOk P w K mg base CX0 1 fT fdT ["box", "many"] spTake := ok_take FT T
  have hr1 : Room 1 (XD P w K mg base f cdv A outer s H E).A := hr.mono (by decide)
  refine ⟨_, ps_if (PW.pt (pw_and (pt_truth (pv 5) (by intro _; rfl)) (pw_and (pt_truth (pv 2) (by intro _; rfl)) (pw_and1 (pt_cmpR op_eq (pv 7) pe_int (nomark _))))))
    (pss_cons (ps_set (i := 9) scDrawn.nd rfl (.inl rfl) (pe_call GP hr (by rfl) gP FP.kp bP .nil pass0 (pa_cons (pv 0) (pa_cons (pv 5) pa_nil))))
    (pss_cons (ps_set (i := 10) scDrawn.nd rfl (.inl rfl) (pe_call GT hr1 (by rfl) gT FT.kp bT .nil pass0 (pa_cons (pv 0) (pa_cons (pv 2) pa_nil))))
    (pss_one (ps_set (i := 8) scDrawn.nd rfl (.inl rfl) (pe_op op_catA (pe_op op_catA (pe_slice sl_tupA (pv 9) po_none (po_some (pv 10)))
        (pe_tup (pa_cons (pe_op op_sub (pe_op op_add (pe_ix ix_tup (pv 9) (pv 10) (fun _ _ => rfl)) (pe_call GT hr1 (by rfl) gT FT.kp bT .nil pass0 (pa_cons (pv 0) (pa_cons pe_int pa_nil)))) pe_int) pa_nil)))
      (pe_slice sl_tupA (pv 9) (po_some (pe_op op_add (pv 10) pe_int)) po_none)))))) pss_nil, ?_⟩
  intro b g R many wide low d n H0 hn hd
  rintro D σ H1 xs x ⟨v6, way, v9, v10, v11, rfl⟩ m c q
  have hl := m.len
  refine ⟨_, rfl, !xs.isEmpty, .inl ⟨xs, .inl (.inl m.at_), rfl⟩, ?_⟩
  by_cases hx : xs.isEmpty = true
  · rw [hx]
    refine iteF ?_
    refine iteF ?_
    exact q _ H1 x ⟨_, _, _, _, _, rfl⟩ m c
  · have hx' : xs ≠ [] := fun z => hx (by rw [z]; rfl)
    have hx1 : 1 ≤ xs.length := List.length_pos_iff.mpr hx'
    rw [Bool.eq_false_iff.mpr hx]
    refine iteT ?_
    refine ⟨_, rfl, ((d : Int) != 0), rfl, ?_⟩
    by_cases hd0 : d = 0
    · have e0 : ((d : Int) != 0) = false := by rw [hd0]; rfl
      rw [e0]
      refine iteF ?_
      refine iteF ?_
      exact q _ H1 x ⟨_, _, _, _, _, rfl⟩ m c
    · have e0 : ((d : Int) != 0) = true := by
        rw [bne_iff_ne]
        omega
      rw [e0]
      refine iteT ?_
      refine ⟨_, rfl, rfl, _, rfl, ?_⟩
      refine ite2 (fun _ => ?_) (fun _ => ?_)
      · -- old = _law_pick(box, rows)
        refine ⟨_, rfl, _, rfl, b, g, R, xs, rfl, m.box, m.at_, m.nb, m.ng, hx1, by omega, fun H2 v hB fr hv => ?_⟩
        have m2 := m.frame hB fr
        -- at = _law_take(box, size)
        refine ⟨_, rfl, _, rfl, b, g, _, rfl, m2.box, by omega, by omega, fun H3 at_ hB3 fr3 a0 a1 => ?_⟩
        have m3 := m2.frame hB3 fr3
        obtain ⟨j, rfl⟩ := Int.eq_ofNat_of_zero_le a0
        have hj : j < d := by omega
        obtain ⟨ns, rn, ln, bn⟩ := m3.old hv
        obtain ⟨t, rfl, et⟩ := id rn
        have hjn : ns[j]? = some ns[j] := List.getElem?_eq_getElem (by omega)
        have hb := bn ns[j] (List.getElem_mem (by omega))
        -- old[:at]
        refine ⟨_, rfl, _, rfl, _, rfl, sl_row rn fun H4 y4 s4 r4 => ?_⟩
        have m4 := m3.same s4
        -- (old[at] + _law_take(box, 3) - 1,)
        refine ⟨_, rfl, _, rfl, t, _, _, .int ns[j], rfl, rfl, .inl (.inl (s4 _ _ et)), atI_nat (by rw [List.getElem?_map, hjn]; rfl), ?_⟩
        refine ⟨_, rfl, b, g, 3, rfl, m4.box, by decide, by decide, fun H5 k hB5 fr5 k0 k1 => ?_⟩
        have m5 := m4.frame hB5 fr5
        have t5 : TKeep H3 H5 := (Same.tk s4).trans (fr5.tk m4.box)
        refine ⟨_, _, rfl, rfl, _, _, rfl, rfl, (by show 1 ≤ sizeLine; decide), fun p hp => ?_⟩
        have s6 : Same H5 (upd H5 p (.tup [V.int (ns[j] + k - 1)])) := same_new hp
        have r6 : IsRow (upd H5 p (.tup [V.int (ns[j] + k - 1)])) (.ref p) [ns[j] + k - 1] := ⟨p, rfl, upd_same⟩
        have c4 : (cutR ns none (some (j : Int))) = ns.take j := cutR_to ns j (by omega)
        have c5 : (cutR ns (some ((j : Int) + 1)) none) = ns.drop (j + 1) := cutR_from ns (j + 1) (by omega)
        rw [c4] at r4
        have r4' : IsRow (upd H5 p (.tup [V.int (ns[j] + k - 1)])) y4 (ns.take j) := (r4.keep (fr5.tk m4.box)).keep (Same.tk s6)
        have l4 : (ns.take j).length = j := by rw [List.length_take]; omega
        have l5 : (ns.drop (j + 1)).length = d - (j + 1) := by rw [List.length_drop, ln]
        refine cat_row r4' r6 (by rw [l4]; show j + 1 ≤ 1000; omega) fun H7 z s7 r7 => ?_
        have rn7 : IsRow H7 (.ref t) ns := ((rn.keep t5).keep (Same.tk s6)).keep (Same.tk s7)
        -- old[at + 1:]
        refine ⟨_, rfl, _, rfl, _, _, rfl, rfl, _, rfl, ?_⟩
        dsimp only [tNoPart]
        refine sl_row rn7 fun H8 y8 s8 r8 => ?_
        rw [c5] at r8
        refine cat_row (r7.keep (Same.tk s8)) r8 (by rw [List.length_append, l4, l5]; show j + 1 + (d - (j + 1)) ≤ 1000; omega) fun H9 z9 s9 r9 => ?_
        refine q _ H9 z9 ⟨_, _, _, _, _, rfl⟩ ((((m5.same s6).same s7).same s8).same s9) ⟨_, r9, ?_, ?_⟩
        · rw [List.length_append, List.length_append, l4, l5]
          show j + 1 + (d - (j + 1)) = d
          omega
        · have bn' := bn.mono (show B0 + (n : Int) ≤ B0 + n + 1 by omega)
          refine ((bn'.take j).append fun y hy => ?_).append (bn'.drop (j + 1))
          rw [List.mem_singleton.mp hy]
          omega
      · exact q _ H1 x ⟨_, _, _, _, _, rfl⟩ m c

/-- way 3: an old row turned -/
theorem st_way3 (FP : Fun K "_law_pick" "_law_pick" sPick fP fdP) (FT : Fun K "_law_take" "_law_take" sTake fT fdT) (bT : Binds K fdT ["box", "many"] []) (gT : mg "_law_take" = some (.ref fT)) (bP : Binds K fdP ["box", "rows"] []) (gP : mg "_law_pick" = some (.ref fP)) (T : TxtB mg)
    (hr : Room 2 (XD P w K mg base f cdv A outer s H E).A) : ∃ t, PS (XD P w K mg base f cdv A outer s H E) (sTurn 4) t ∧ ∀ (b g R : Addr) (many wide low : Int) (d n : Nat) (H0 : Hp), n ≤ 40 → d ≤ 6 → Keeps b g R many wide low d n H0 t := by
  have GP : FnOk P w K mg base CX0 2 fP fdP ["box", "rows"] spPick := ok_pick FP FT bT gT T
  refine ⟨_, ps_if (PW.pt (pw_and (pt_truth (pv 5) (by intro _; rfl)) (pw_and (pt_cmpR op_gt (pv 2) pe_int (nomark _)) (pw_and1 (pt_cmpR op_eq (pv 7) pe_int (nomark _))))))
    (pss_cons (ps_set (i := 9) scDrawn.nd rfl (.inl rfl) (pe_call GP hr (by rfl) gP FP.kp bP .nil pass0 (pa_cons (pv 0) (pa_cons (pv 5) pa_nil))))
    (pss_one (ps_set (i := 8) scDrawn.nd rfl (.inl rfl) (pe_op op_catA (pe_slice sl_tupA (pv 9) (po_some pe_int) po_none) (pe_slice sl_tupA (pv 9) po_none (po_some pe_int)))))) pss_nil, ?_⟩
  intro b g R many wide low d n H0 hn hd
  rintro D σ H1 xs x ⟨v6, way, v9, v10, v11, rfl⟩ m c q
  have hl := m.len
  refine ⟨_, rfl, !xs.isEmpty, .inl ⟨xs, .inl (.inl m.at_), rfl⟩, ?_⟩
  by_cases hx : xs.isEmpty = true
  · rw [hx]
    refine iteF ?_
    refine iteF ?_
    exact q _ H1 x ⟨_, _, _, _, _, rfl⟩ m c
  · have hx' : xs ≠ [] := fun z => hx (by rw [z]; rfl)
    have hx1 : 1 ≤ xs.length := List.length_pos_iff.mpr hx'
    rw [Bool.eq_false_iff.mpr hx]
    refine iteT ?_
    refine ⟨_, rfl, _, _, rfl, rfl, _, rfl, ?_⟩
    by_cases hd1 : (1 : Int) < d
    · rw [decide_eq_true hd1]
      refine iteT ?_
      refine ⟨_, rfl, rfl, _, rfl, ?_⟩
      refine ite2 (fun _ => ?_) (fun _ => ?_)
      · refine ⟨_, rfl, _, rfl, b, g, R, xs, rfl, m.box, m.at_, m.nb, m.ng, hx1, by omega, fun H2 v hB fr hv => ?_⟩
        have m2 := m.frame hB fr
        obtain ⟨ns, rn, ln, bn⟩ := m2.old hv
        have c1 : (cutR ns (some 1) none) = ns.drop 1 := cutR_from ns 1 (by omega)
        have c2 : (cutR ns none (some 1)) = ns.take 1 := cutR_to ns 1 (by omega)
        refine ⟨_, rfl, _, rfl, ?_⟩
        dsimp only [tNoPart]
        refine sl_row rn fun H3 y3 s3 r3 => ?_
        refine ⟨_, rfl, _, rfl, sl_row (rn.keep (Same.tk s3)) fun H4 y4 s4 r4 => ?_⟩
        rw [c1] at r3
        rw [c2] at r4
        have l3 : (ns.drop 1).length = d - 1 := by rw [List.length_drop, ln]
        have l4 : (ns.take 1).length = 1 := by rw [List.length_take]; omega
        refine cat_row (r3.keep (Same.tk s4)) r4 (by rw [l3, l4]; omega) fun H5 z5 s5 r5 => ?_
        have bn' := bn.mono (show B0 + (n : Int) ≤ B0 + n + 1 by omega)
        exact q _ H5 z5 ⟨_, _, _, _, _, rfl⟩ (((m2.same s3).same s4).same s5) ⟨_, r5, by rw [List.length_append, l3, l4]; omega, (bn'.drop 1).append (bn'.take 1)⟩
      · exact q _ H1 x ⟨_, _, _, _, _, rfl⟩ m c
    · rw [decide_eq_false hd1]
      refine iteF ?_
      refine iteF ?_
      exact q _ H1 x ⟨_, _, _, _, _, rfl⟩ m c
/-- way = _law_take(box, 4); row = tuple([_law_take(box, wide) - low for k in range(size)]) -/
theorem st_row (FT : Fun K "_law_take" "_law_take" sTake fT fdT) (bT : Binds K fdT ["box", "many"] []) (gT : mg "_law_take" = some (.ref fT)) (T : TxtB mg)
    (hr1 : Room 1 (XD P w K mg base f cdv A outer s H E).A) :
    ∃ t u, PS (XD P w K mg base f cdv A outer s H E) (sTurn 0) t ∧ PS (XD P w K mg base f cdv A outer s H E) (sTurn 1) u ∧
      ∀ (b g R : Addr) (many wide low : Int) (d n : Nat) (H0 : Hp), n ≤ 40 → d ≤ 6 → 1 ≤ wide ∧ wide ≤ 10 ^ 20 → 0 ≤ low ∧ low ≤ 10 ^ 19 → ∀ (D : Ends) (σ : L2.St) (H : Hp) (xs : List V), Slots b R many wide low d σ → Mid b g R d H0 n H xs → (∀ σ' H' x', Slots2 b R many wide low d x' σ' → Mid b g R d H0 n H' xs → Cand d n H' x' → D.nx σ' H') → tSeq t u D σ H := by
  have GT : FnOk P w K mg base CX0 1 fT fdT ["box", "many"] spTake := ok_take FT T
  refine ⟨_, _, ps_set (i := 7) scDrawn.nd rfl (.inl rfl) (pe_call GT hr1 (by rfl) gT FT.kp bT .nil pass0 (pa_cons (pv 0) (pa_cons pe_int pa_nil))),
    ps_set (i := 8) scDrawn.nd rfl (.inl rfl) (pe_tupleOf (by rfl) T.tuple (pe_lc (own := [("k", 11)]) (g := gName 11) (tt := tYes) rfl scDrawn.nd (pi_range1 rfl T.range (pa_cons (pv 2) pa_nil))
      (blkOk_by (own := [("k", 11)]) (N := nDrawn) (sc := defScope sDrawn) (by decide +kernel)) (fun _ _ _ _ _ => pg_name (i := 11) scDrawn.nd rfl (.inl rfl)) (fun _ _ _ _ _ => pts_nil)
      (fun _ _ _ _ _ => pe_op op_sub (pe_call GT hr1 rfl gT FT.kp bT .nil pass0 (pa_cons (pv 0) (pa_cons (pv 3) pa_nil))) (pv 4)))), ?_⟩
  intro b g R many wide low d n H0 hn hd hw hlo
  rintro D σ H1 xs ⟨v6, v7, v8, v9, v10, v11, rfl⟩ m q
  refine ⟨_, rfl, b, g, 4, rfl, m.box, by decide, by decide, fun H2 way hB fr w0 w1 => ?_⟩
  have m2 := m.frame hB fr
  refine ⟨_, rfl, _, rfl, by omega, by omega, fun C hC => ?_⟩
  have ed : ((d : Int)).toNat = d := Int.toNat_natCast d
  rw [ed]
  have nC := m2.box.none_ne hC
  have nCR : C ≠ R := (ne_of_none m2.at_ hC).symm
  refine lc_range (lo := 0) (n := d) (fun i H' => Mid b g R d H0 n H' xs ∧ ∃ ns : Row, H' C = some (.lst (ns.map V.int)) ∧ ns.length = i ∧ Bd (B0 + n + 1) ns) ⟨m2.same (same_new hC), [], upd_same, rfl, fun n hn => nomatch hn⟩ ?_ ?_
  · rintro i H' hi ⟨m3, ns, eC, ln, bn⟩
    refine ⟨rfl, ?_⟩
    refine ⟨_, rfl, _, rfl, b, g, wide, rfl, m3.box, hw.1, by omega, fun H4 v hB4 fr4 v0 v1 => ?_⟩
    have m4 := m3.frame hB4 fr4
    have eC4 := fr4 _ _ nC.1 nC.2 eC
    refine ⟨_, rfl, _, _, rfl, rfl, _, eC4, ?_, ?_, ns ++ [v - low], ?_, ?_, ?_⟩
    · rw [List.length_map]
      exact small1000 (by omega)
    · have t5 : TKeep H4 (upd H4 C (.lst (ns.map V.int ++ [V.int (v - low)]))) := TKeep.mut eC4 (fun _ z => by cases z)
      exact ⟨m4.box.mut nC.1 nC.2, fun c o h1 h2 h => by
        by_cases hc : c = C
        · subst hc
          have h3 := m.fr c o h1 h2 h
          rw [show H2 c = some o from fr c o h1 h2 h3] at hC
          cases hC
        · rw [upd_ne hc]
          exact m4.fr c o h1 h2 h, by rw [upd_ne nCR.symm]; exact m4.at_, m4.nb, m4.ng, m4.row.keep t5, by rw [dat_keep t5 m4.row]; exact m4.bd, m4.len⟩
    · rw [upd_same, List.map_append]
      rfl
    · rw [List.length_append, List.length_singleton, ln]
    · refine bn.append fun y hy => ?_
      rw [List.mem_singleton.mp hy]
      have e0 : B0 = 200000000000000000000 := rfl
      omega
  · rintro H' ⟨m3, ns, eC, ln, bn⟩
    refine .inl ⟨C, _, rfl, .inl (.inl eC), fun p hp => ?_⟩
    exact q _ _ (.ref p) ⟨_, _, _, _, _, rfl⟩ (m3.same (same_new hp)) ⟨ns, ⟨p, rfl, upd_same⟩, ln, bn⟩
/-- rows.append(row) -/
theorem st_app : ∃ t, PS (XD P w K mg base f cdv A outer s H E) (sTurn 5) t ∧
      ∀ (b g R : Addr) (many wide low : Int) (d n : Nat) (H0 : Hp), n ≤ 40 → ∀ (D : Ends) (σ : L2.St) (H : Hp) (xs : List V) (x : V), Slots2 b R many wide low d x σ → Mid b g R d H0 n H xs → Cand d n H x → H0 R = none → (∀ σ' H' xs', Slots b R many wide low d σ' → Mid b g R d H0 (n + 1) H' xs' → D.nx σ' H') → t D σ H := by
  refine ⟨_, ps_expr (pe_bm PySem.F.plainAttrs_list PySem.F.slot_list_append PySem.F.type_list_append mt_append (pv 5) (pa_cons (pv 8) pa_nil)), ?_⟩
  intro b g R many wide low d n H0 hn
  rintro D σ H1 xs x ⟨v6, way, v9, v10, v11, rfl⟩ m ⟨ns, rn, ln, bn⟩ R0 q
  have hl := m.len
  refine ⟨_, rfl, .inl ⟨rfl, _, .inl (.inl m.at_)⟩, _, rfl, R, _, _, rfl, rfl, m.at_, small1000 (by omega), ?_⟩
  have t5 : TKeep H1 (upd H1 R (.lst (xs ++ [x]))) := TKeep.mut m.at_ (fun _ z => by cases z)
  have r5 := rn.keep t5
  refine q _ _ (xs ++ [x]) ⟨_, _, _, _, _, _, rfl⟩ ⟨m.box.mut m.nb m.ng, fun c o h1 h2 h => ?_, upd_same, m.nb, m.ng, ?_, ?_, ?_⟩
  · rw [upd_ne (ne_of_none h R0)]
    exact m.fr c o h1 h2 h
  · refine (m.row.keep t5).append fun y hy => ?_
    rw [List.mem_singleton.mp hy]
    exact ⟨ns, r5, ln⟩
  · intro r hr
    unfold dat at hr
    rw [List.map_append, List.map_cons, List.map_nil, rowOf_eq r5] at hr
    rcases List.mem_append.mp hr with h | h
    · have e := dat_keep t5 m.row
      unfold dat at e
      rw [e] at h
      exact (m.bd r h).mono (by omega)
    · rw [List.mem_singleton.mp h]
      exact bn.mono (by omega)
  · rw [List.length_append, List.length_singleton, hl]

def spDrawn : Sp := fun vs H Q _ => ∃ (b g : Addr), vs = [.ref b] ∧ BoxAt H b g ∧ ∀ (H' : Hp) (p : Addr) (xs : List V) (d : Nat), BoxAt H' b g → Frame b g H H' → H p = none → H' p = some (.lst xs) → AllRow H' d xs → d ≤ 6 → 1 ≤ xs.length → xs.length ≤ 40 → Small (dat H' xs) → Q (.ref p) H'
end
section
variable {P : Program} {w : World} {K : PySem.W.Frag} {mg : Str → Option Value} {base : Heap}
theorem ok_drawn {f fT fP : Addr} {fd fdT fdP : FuncData} (F : Fun K "_law_drawn" "_law_drawn" sDrawn f fd) (FP : Fun K "_law_pick" "_law_pick" sPick fP fdP) (FT : Fun K "_law_take" "_law_take" sTake fT fdT) (bT : Binds K fdT ["box", "many"] []) (gT : mg "_law_take" = some (.ref fT)) (bP : Binds K fdP ["box", "rows"] [])
    (gP : mg "_law_pick" = some (.ref fP)) (T : TxtB mg) : FnOk P w K mg base CX0 3 f fd ["box"] spDrawn := by
  have GP : FnOk P w K mg base CX0 2 fP fdP ["box", "rows"] spPick := ok_pick FP FT bT gT T
  have GT : FnOk P w K mg base CX0 1 fT fdT ["box", "many"] spTake := ok_take FT T
  refine F.ok scDrawn (fun vs H Q E h => ?_) (fun cdv A outer s H vs Q E hr h => ?_)
  · obtain ⟨b, g, rfl, _⟩ := h
    rfl
  · obtain ⟨b, g, rfl, hB, q⟩ := h
    have hr1 : Room 1 (XD P w K mg base f cdv A outer s H E).A := hr.mono (by decide)
    obtain ⟨t0, t1, p0, p1, k01⟩ := st_row (P := P) (w := w) (K := K) (mg := mg) (base := base) (f := f) (cdv := cdv) (A := A) (outer := outer) (s := s) (H := H) (E := E) FT bT gT T hr1
    obtain ⟨t2, p2, k2⟩ := st_pick (P := P) (w := w) (K := K) (mg := mg) (base := base) (f := f) (cdv := cdv) (A := A) (outer := outer) (s := s) (H := H) (E := E) FP FT bT gT bP gP T hr
    obtain ⟨t3, p3, k3⟩ := st_way2 (P := P) (w := w) (K := K) (mg := mg) (base := base) (f := f) (cdv := cdv) (A := A) (outer := outer) (s := s) (H := H) (E := E) FP FT bT gT bP gP T hr
    obtain ⟨t4, p4, k4⟩ := st_way3 (P := P) (w := w) (K := K) (mg := mg) (base := base) (f := f) (cdv := cdv) (A := A) (outer := outer) (s := s) (H := H) (E := E) FP FT bT gT bP gP T hr
    obtain ⟨t5, p5, k5⟩ := st_app (P := P) (w := w) (K := K) (mg := mg) (base := base) (f := f) (cdv := cdv) (A := A) (outer := outer) (s := s) (H := H) (E := E)
    refine ⟨_, pss_cons (ps_set (i := 1) scDrawn.nd rfl (.inl rfl) (pe_op op_add pe_int (pe_call GT hr1 (by rfl) gT FT.kp bT .nil pass0 (pa_cons (pv 0) (pa_cons pe_int pa_nil)))))
      (pss_cons (ps_set (i := 2) scDrawn.nd rfl (.inl rfl) (pe_call GP hr (by rfl) gP FP.kp bP .nil pass0 (pa_cons (pv 0) (pa_cons (pe_lst (pa_cons pe_int (pa_cons pe_int (pa_cons pe_int (pa_cons pe_int (pa_cons pe_int (pa_cons pe_int (pa_cons pe_int pa_nil)))))))) pa_nil))))
      (pss_cons (ps_set (i := 3) scDrawn.nd rfl (.inr rfl) (pe_call GP hr (by rfl) gP FP.kp bP .nil pass0 (pa_cons (pv 0) (pa_cons (pe_lst (pa_cons pe_int (pa_cons pe_int (pa_cons pe_int (pa_cons pe_int (pa_cons (pe_op op_pow pe_int pe_int) pa_nil)))))) pa_nil))))
      (pss_cons (ps_set (i := 4) scDrawn.nd rfl (.inr rfl) (pe_call GP hr (by rfl) gP FP.kp bP .nil pass0 (pa_cons (pv 0) (pa_cons (pe_lst (pa_cons pe_int (pa_cons pe_int (pa_cons pe_int (pa_cons pe_int (pa_cons (pe_op op_pow pe_int pe_int) pa_nil)))))) pa_nil))))
      (pss_cons (ps_set (i := 5) scDrawn.nd rfl (.inl rfl) (pe_lst pa_nil))
      (pss_cons (ps_for PassesOwn.never rfl (pi_range1 rfl T.range (pa_cons (pv 1) pa_nil)) (pg_name (i := 6) scDrawn.nd rfl (.inl rfl)) (pss_cons p0 (pss_cons p1 (pss_cons p2 (pss_cons p3 (pss_cons p4 (pss_one p5)))))))
      (pss_one (ps_ret (pv 5)))))))), ?_⟩
    -- many, size, wide, low
    refine ⟨_, rfl, b, g, 40, rfl, hB, by decide, by decide, fun H1 m hB1 fr1 m0 m1 => ?_⟩
    refine ⟨_, _, rfl, rfl, ?_⟩
    refine ⟨_, rfl, by show 7 ≤ sizeLine; decide, fun p2 n2 => ?_⟩
    have e2 := hB1.none_ne n2
    refine ⟨b, g, p2, _, rfl, hB1.new n2, upd_same, e2.1, e2.2, by decide, by decide, fun H2 v2 hB2 fr2 hv2 => ?_⟩
    have f2 : Frame b g H H2 := (fr1.new n2).trans fr2
    obtain ⟨d, rfl, hd⟩ : ∃ d : Nat, v2 = V.int d ∧ d ≤ 6 := by
      simp only [List.mem_cons, List.not_mem_nil, or_false] at hv2
      rcases hv2 with h | h | h | h | h | h | h
      · exact ⟨3, h, by decide⟩
      · exact ⟨2, h, by decide⟩
      · exact ⟨1, h, by decide⟩
      · exact ⟨0, h, by decide⟩
      · exact ⟨4, h, by decide⟩
      · exact ⟨5, h, by decide⟩
      · exact ⟨6, h, by decide⟩
    refine ⟨_, rfl, _, _, rfl, rfl, ⟨by decide, by decide, by decide⟩, by show 5 ≤ sizeLine; decide, fun p3 n3 => ?_⟩
    have e3 := hB2.none_ne n3
    refine ⟨b, g, p3, _, rfl, hB2.new n3, upd_same, e3.1, e3.2, by decide, by decide, fun H3 v3 hB3 fr3 hv3 => ?_⟩
    have f3 : Frame b g H H3 := (f2.new n3).trans fr3
    obtain ⟨wide, rfl, hw⟩ : ∃ z : Int, v3 = V.int z ∧ 1 ≤ z ∧ z ≤ 10 ^ 20 := by
      simp only [List.mem_cons, List.not_mem_nil, or_false] at hv3
      rcases hv3 with h | h | h | h | h
      · exact ⟨4, h, by decide⟩
      · exact ⟨4, h, by decide⟩
      · exact ⟨3, h, by decide⟩
      · exact ⟨2, h, by decide⟩
      · exact ⟨10 ^ 20, h, by decide⟩
    refine ⟨_, rfl, _, _, rfl, rfl, ⟨by decide, by decide, by decide⟩, by show 5 ≤ sizeLine; decide, fun p4 n4 => ?_⟩
    have e4 := hB3.none_ne n4
    refine ⟨b, g, p4, _, rfl, hB3.new n4, upd_same, e4.1, e4.2, by decide, by decide, fun H4 v4 hB4 fr4 hv4 => ?_⟩
    have f4 : Frame b g H H4 := (f3.new n4).trans fr4
    obtain ⟨low, rfl, hlo⟩ : ∃ z : Int, v4 = V.int z ∧ 0 ≤ z ∧ z ≤ 10 ^ 19 := by
      simp only [List.mem_cons, List.not_mem_nil, or_false] at hv4
      rcases hv4 with h | h | h | h | h
      · exact ⟨0, h, by decide⟩
      · exact ⟨0, h, by decide⟩
      · exact ⟨0, h, by decide⟩
      · exact ⟨2, h, by decide⟩
      · exact ⟨10 ^ 19, h, by decide⟩
    -- rows = []
    refine ⟨Nat.zero_le _, fun R nR => ?_⟩
    have eR := hB4.none_ne nR
    have R0 : H R = none := by
      cases h : H R with
      | none => rfl
      | some o =>
        rw [f4 _ _ eR.1 eR.2 h] at nR
        cases nR
    refine ⟨_, rfl, _, rfl, by omega, by omega, ?_⟩
    refine for_range (lo := 0) (n := (1 + m).toNat) (fun i σ H' => ∃ xs, Slots b R (1 + m) wide low d σ ∧ Mid b g R d H i H' xs) ⟨[], ⟨_, _, _, _, _, _, rfl⟩, hB4.new nR, f4.new nR, upd_same, eR.1, eR.2, (fun x hx => nomatch hx), (fun x hx => nomatch hx), rfl⟩ ?_ ?_
    · rintro i σ H' hi ⟨xs, ⟨v6, v7, v8, v9, v10, v11, rfl⟩, mid⟩
      have hi40 : i ≤ 40 := by omega
      refine k01 b g R (1 + m) wide low d i H hi40 hd hw hlo _ _ H' xs ⟨_, _, _, _, _, _, rfl⟩ mid fun σ1 H1' x1 sl1 mid1 c1 => ?_
      refine k2 b g R (1 + m) wide low d i H hi40 _ _ _ xs x1 sl1 mid1 c1 fun σ2 H2' x2 sl2 mid2 c2 => ?_
      refine k3 b g R (1 + m) wide low d i H hi40 hd _ _ _ xs x2 sl2 mid2 c2 fun σ3 H3' x3 sl3 mid3 c3 => ?_
      refine k4 b g R (1 + m) wide low d i H hi40 hd _ _ _ xs x3 sl3 mid3 c3 fun σ4 H4' x4 sl4 mid4 c4 => ?_
      exact k5 b g R (1 + m) wide low d i H hi40 _ _ _ xs x4 sl4 mid4 c4 R0 fun σ5 H5' xs5 sl5 mid5 => ⟨xs5, sl5, mid5⟩
    · rintro σ H' ⟨xs, ⟨v6, v7, v8, v9, v10, v11, rfl⟩, mid⟩
      refine ⟨_, rfl, q H' R xs d mid.box mid.fr R0 mid.at_ mid.row hd (by have := mid.len; omega) (by have := mid.len; omega) fun r hr' n hn => ?_⟩
      have hb := mid.bd r hr' n hn
      have e0 : B0 = 200000000000000000000 := rfl
      have := mid.len
      omega
end
end K65

set_option Elab.async false
set_option linter.all false
set_option maxRecDepth 100000
set_option maxHeartbeats 4000000
/-! _law_covered and _law_due. -/
namespace K65
open PySem PySem.Spec PyProof.Rows L2 RZ
section
variable {P : Program} {w : World} {K : PySem.W.Frag} {mg : Str → Option Value} {base : Heap}
abbrev nCov : List Str := ["row", "rows", "other", "worse", "more", "one", "two"]
theorem scCov : FnScope nCov ["row", "rows"] (defScope sCov) := ⟨rfl, rfl, rfl, by decide +kernel, rfl, by decide +kernel, by decide +kernel⟩
def spCov (K : PySem.W.Frag) : Sp := fun vs H Q _ => ∃ (x : V) (a : Addr) (xs : List V) (r : Row) (d : Nat), vs = [x, .ref a] ∧ IsRow H x r ∧ r.length = d ∧ SqL K H a xs ∧ AllRow H d xs ∧ ∀ H', Same H H' → Q (.bl ((dat H xs).any (cov1 r))) H'
/-- the counts of a loop over the pairs -/
structure Cnt (L : List (Int × Int)) (worse more : Int) : Prop where
  w0 : 0 ≤ worse
  m0 : 0 ≤ more
  w : (L.all fun p => decide (p.1 ≤ p.2)) = decide (worse = 0)
  m : (L.any fun p => decide (p.1 < p.2)) = decide (0 < more)
theorem Cnt.next {L : List (Int × Int)} {worse more x y : Int} (c : Cnt L worse more) : Cnt (L ++ [(x, y)]) (worse + if decide (y < x) = true then 1 else 0) (more + if decide (x < y) = true then 1 else 0) := by
  obtain ⟨w0, m0, hw, hm⟩ := c
  refine ⟨by split <;> omega, by split <;> omega, ?_, ?_⟩
  · rw [List.all_append, hw]
    by_cases h : y < x
    · rw [if_pos (decide_eq_true h)]
      have h2 : ¬ x ≤ y := by omega
      have h3 : ¬ worse + 1 = 0 := by omega
      simp [h2, h3]
    · rw [if_neg (by simp only [decide_eq_true_eq]; exact h)]
      have h2 : x ≤ y := by omega
      simp [h2]
  · rw [List.any_append, hm]
    by_cases h : x < y
    · rw [if_pos (decide_eq_true h)]
      have h3 : 0 < more + 1 := by omega
      simp [h, h3]
    · rw [if_neg (by simp only [decide_eq_true_eq]; exact h)]
      simp [h]
theorem ok_cov {f : Addr} {fd : FuncData} (F : Fun K "_law_covered" "_law_covered" sCov f fd) (mZip : mg "zip" = none) : FnOk P w K mg base CX0 1 f fd ["row", "rows"] (spCov K) := by
  refine F.ok scCov (fun vs H Q E h => ?_) (fun cdv A outer s H vs Q E hr h => ?_)
  · obtain ⟨x, a, xs, r, d, rfl, _⟩ := h
    rfl
  · obtain ⟨x, a, xs, r, d, rfl, hx, hd, hS, hX, q⟩ := h
    obtain ⟨t, rfl, et⟩ := id hx
    refine ⟨_, pss_cons (ps_for PassesOwn.never rfl (pi_list (pv 1)) (pg_name (i := 2) scCov.nd rfl (.inl rfl))
        (pss_cons (ps_set (i := 3) scCov.nd rfl (.inl rfl) pe_int) (pss_cons (ps_set (i := 4) scCov.nd rfl (.inl rfl) pe_int)
        (pss_cons (ps_for PassesOwn.never rfl (pi_zipA (by rfl) mZip (pa_cons (pv 0) (pa_cons (pv 2) pa_nil))) (pg_tup rfl (pgs_cons (pg_name (i := 5) scCov.nd rfl (.inl rfl)) (pgs_cons (pg_name (i := 6) scCov.nd rfl (.inl rfl)) pgs_nil)))
          (pss_cons (ps_aug (i := 3) scCov.nd rfl (.inl rfl) (pe_ifExp (pt_cmpR op_gt (pv 5) (pv 6) (nomark _)) pe_int pe_int) ip_add)
          (pss_one (ps_aug (i := 4) scCov.nd rfl (.inl rfl) (pe_ifExp (pt_cmpR op_lt (pv 5) (pv 6) (nomark _)) pe_int pe_int) ip_add))))
        (pss_one (ps_if (PW.pt (pw_and (pt_cmpR op_eq (pv 3) pe_int (nomark _)) (pw_and1 (pt_cmpR op_gt (pv 4) pe_int (nomark _))))) (pss_one (ps_ret pe_bl)) pss_nil))))))
      (pss_one (ps_ret pe_bl)), ?_⟩
    refine ⟨_, rfl, a, rfl, ⟨_, hS⟩, for_list (K := K) (a := a) (xs := xs) (fun i σ H' => ∃ v2 v3 v4 v5 v6, σ = [some (.ref t), some (.ref a), v2, v3, v4, v5, v6] ∧ Same H H' ∧ ((dat H xs).take i).any (cov1 r) = false)
      ⟨none, none, none, none, none, rfl, Same.refl H, rfl⟩ (fun i σ H' _ ⟨_, _, _, _, _, _, s1, _⟩ => s1.seq hS) ?_ ?_⟩
    · rintro i y σ H1 hy ⟨v2, v3, v4, v5, v6, rfl, s1, no⟩
      have my := List.mem_of_getElem? hy
      have hy1 := (hX.is my).same s1
      obtain ⟨u, rfl, eu⟩ := id hy1
      have ly := hX.len my
      refine ⟨_, rfl, _, rfl, t, u, r.map V.int, (rowOf H (.ref u)).map V.int, rfl, .inr ⟨.inl (.inl (s1 _ _ et)), .inl (.inl eu), ?_⟩⟩
      refine for_zipT (K := K) (a := t) (b := u) (xs := r.map V.int) (ys := (rowOf H (.ref u)).map V.int) (by rw [List.length_map, List.length_map, hd, ly])
        (fun j σ H' => ∃ (worse more : Int) (v5 v6 : Option V), σ = [some (.ref t), some (.ref a), some (.ref u), some (.int worse), some (.int more), v5, v6] ∧ Same H1 H' ∧ Cnt ((r.zip (rowOf H (.ref u))).take j) worse more)
        ⟨0, 0, v5, v6, rfl, Same.refl H1, ⟨by decide, by decide, rfl, rfl⟩⟩ (fun j σ H' ⟨_, _, _, _, _, s2, _⟩ => ⟨.inl (.inl (s2 _ _ (s1 _ _ et))), .inl (.inl (s2 _ _ eu))⟩) ?_ ?_
      · rintro j p1 p2 T σ H' h1 h2 ⟨worse, more, w5, w6, rfl, s2, c⟩ hT
        obtain ⟨m, hm, rfl⟩ := Option.map_eq_some_iff.mp (List.getElem?_map ▸ h1)
        obtain ⟨n, hn, rfl⟩ := Option.map_eq_some_iff.mp (List.getElem?_map ▸ h2)
        refine ⟨T, _, rfl, .inl (.inl upd_same), rfl, _, _, rfl, _, _, rfl, rfl, ?_⟩
        have c2 := c.next (x := m) (y := n)
        have ez : ((r.zip (rowOf H (.ref u))).take (j + 1)) = ((r.zip (rowOf H (.ref u))).take j) ++ [(m, n)] := by
          have e : (r.zip (rowOf H (.ref u)))[j]? = some (m, n) := by
            rw [List.getElem?_zip_eq_some]
            exact ⟨hm, hn⟩
          rw [List.take_add_one, e]
          rfl
        rw [← ez] at c2
        have fin : ∀ (a1 a2 : Int), a1 = worse + (if decide (n < m) = true then 1 else 0) → a2 = more + (if decide (m < n) = true then 1 else 0) →
            ∃ (worse more : Int) (v5 v6 : Option V), [some (V.ref t), some (.ref a), some (.ref u), some (.int a1), some (.int a2), some (.int m), some (.int n)] = [some (.ref t), some (.ref a), some (.ref u), some (.int worse), some (.int more), v5, v6] ∧ Same H1 (upd H' T (.tup [V.int m, V.int n])) ∧ Cnt ((r.zip (rowOf H (.ref u))).take (j + 1)) worse more :=
          fun a1 a2 e1 e2 => ⟨a1, a2, _, _, rfl, sm_new s2 hT, by rw [e1, e2]; exact c2⟩
        refine ⟨_, rfl, _, rfl, _, rfl, m, n, rfl, rfl, _, rfl, ?_⟩
        refine ite2 (fun g1 => ?_) (fun g1 => ?_)
        · refine ⟨_, _, rfl, rfl, _, rfl, _, rfl, _, rfl, m, n, rfl, rfl, _, rfl, ?_⟩
          refine ite2 (fun g2 => ?_) (fun g2 => ?_)
          · exact ⟨_, _, rfl, rfl, fin _ _ (by rw [if_pos g1]) (by rw [if_pos g2])⟩
          · exact ⟨_, _, rfl, rfl, fin _ _ (by rw [if_pos g1]) (by rw [if_neg g2])⟩
        · refine ⟨_, _, rfl, rfl, _, rfl, _, rfl, _, rfl, m, n, rfl, rfl, _, rfl, ?_⟩
          refine ite2 (fun g2 => ?_) (fun g2 => ?_)
          · exact ⟨_, _, rfl, rfl, fin _ _ (by rw [if_neg g1]) (by rw [if_pos g2])⟩
          · exact ⟨_, _, rfl, rfl, fin _ _ (by rw [if_neg g1]) (by rw [if_neg g2])⟩
      · rintro σ H' ⟨worse, more, w5, w6, rfl, s2, c⟩
        rw [List.take_of_length_le (by rw [List.length_zip, List.length_map]; omega)] at c
        have ec : cov1 r (rowOf H (.ref u)) = (decide (worse = 0) && decide (0 < more)) := by
          unfold cov1 leB
          rw [c.w, c.m]
        have e1 : ((dat H xs).take (i + 1)).any (cov1 r) = (decide (worse = 0) && decide (0 < more)) := by
          rw [List.take_add_one, getElem?_dat hy, List.any_append, no, Bool.false_or]
          show ([rowOf H (.ref u)].any (cov1 r)) = _
          rw [List.any_cons, List.any_nil, Bool.or_false, ec]
        have more_ : ∀ σ' : L2.St, (∃ v2 v3 v4 v5 v6, σ' = [some (V.ref t), some (V.ref a), v2, v3, v4, v5, v6]) → (decide (worse = 0) && decide (0 < more)) = false → ∃ v2 v3 v4 v5 v6, σ' = [some (V.ref t), some (V.ref a), v2, v3, v4, v5, v6] ∧ Same H H' ∧ ((dat H xs).take (i + 1)).any (cov1 r) = false :=
          fun σ' ⟨a2, a3, a4, a5, a6, e⟩ z => ⟨a2, a3, a4, a5, a6, e, s1.trans s2, by rw [e1, z]⟩
        refine ⟨_, rfl, rfl, _, rfl, ?_⟩
        by_cases g1 : worse = 0
        · subst g1
          refine iteT ?_
          refine ⟨_, rfl, _, _, rfl, rfl, _, rfl, ?_⟩
          by_cases g2 : (0 : Int) < more
          · rw [decide_eq_true g2]
            refine iteT ?_
            rw [decide_eq_true g2] at e1
            have : (dat H xs).any (cov1 r) = true := by
              obtain ⟨z, hz, e2⟩ := List.any_eq_true.mp e1
              exact List.any_eq_true.mpr ⟨z, List.mem_of_mem_take hz, e2⟩
            rw [this] at q
            exact q H' (s1.trans s2)
          · rw [decide_eq_false g2]
            refine iteF ?_
            exact more_ _ ⟨_, _, _, _, _, rfl⟩ (by rw [decide_eq_false g2]; rfl)
        · have g1' : ¬ (V.int worse = V.int 0) := fun z => g1 (by injection z)
          rw [decide_eq_false g1']
          refine iteF ?_
          refine iteF ?_
          exact more_ _ ⟨_, _, _, _, _, rfl⟩ (by rw [decide_eq_false g1]; rfl)
    · rintro σ H' ⟨v2, v3, v4, v5, v6, rfl, s1, no⟩
      rw [List.take_of_length_le (by rw [List.length_map]; exact Nat.le_refl _)] at no
      rw [no] at q
      exact q H' s1

theorem hu65 {k : Nat} {A : Around} (hr : Room k A) : A.units + 65 < cLine := by have := hr.un; omega
theorem scDue : FnScope ["rows", "told", "row"] ["rows"] (defScope sDue) := ⟨rfl, rfl, rfl, by decide +kernel, rfl, by decide +kernel, by decide +kernel⟩
def spDue (K : PySem.W.Frag) : Sp := fun vs H Q _ => ∃ (a : Addr) (xs : List V) (d : Nat), vs = [.ref a] ∧ SqL K H a xs ∧ AllRow H d xs ∧ xs.length ≤ 1000 ∧
  ∀ (H' : Hp) (p : Addr) (ys : List V), Same H H' → H p = none → H' p = some (.lst ys) → AllRow H' d ys → ys.length ≤ xs.length → IsMax (dat H xs) (dat H' ys) → Q (.ref p) H'
theorem ok_due {f fC : Addr} {fd fdC : FuncData} (F : Fun K "_law_due" "_law_due" sDue f fd) (FC : Fun K "_law_covered" "_law_covered" sCov fC fdC) (bC : Binds K fdC ["row", "rows"] []) (gC : mg "_law_covered" = some (.ref fC)) (T : Txt mg) :
    FnOk P w K mg base CX0 2 f fd ["rows"] (spDue K) := by
  have GC : FnOk P w K mg base CX0 1 fC fdC ["row", "rows"] (spCov K) := ok_cov FC T.zip
  refine F.ok scDue (fun vs H Q E h => ?_) (fun cdv A outer s H vs Q E hr h => ?_)
  · obtain ⟨a, xs, d, rfl, _⟩ := h
    rfl
  · obtain ⟨a, xs, d, rfl, hS, hX, hl, q⟩ := h
    refine ⟨_, pss_cons (ps_set (i := 1) scDue.nd rfl (.inl rfl) (pe_lst pa_nil))
      (pss_cons (ps_for PassesOwn.never rfl (pi_list (pe_callB (cr_sortRow hr.units) (by rfl) T.sorted (by decide +kernel) (pa_cons (pv 0) pa_nil))) (pg_name (i := 2) scDue.nd rfl (.inl rfl))
        (pss_one (ps_if (PW.pt (pw_and (pt_cmpR (op_notInD (hu65 hr)) (pv 2) (pv 1) (by rfl)) (pw_and1 (pt_not (pt_val (pe_call GC hr (by rfl) gC FC.kp bC .nil pass0 (pa_cons (pv 2) (pa_cons (pv 0) pa_nil))))))))
          (pss_one (ps_expr (pe_bm PySem.F.plainAttrs_list PySem.F.slot_list_append PySem.F.type_list_append mt_append (pv 1) (pa_cons (pv 2) pa_nil)))) pss_nil)))
      (pss_one (ps_ret (pv 1)))), ?_⟩
    -- told = []
    refine ⟨Nat.zero_le _, fun g g0 => ?_⟩
    have s1 : Same H (upd H g (.lst [])) := same_new g0
    have hX1 := hX.keep (Same.tk s1)
    have d1 := dat_keep (Same.tk s1) hX
    generalize hH1 : upd H g (.lst []) = H1 at s1 hX1 d1 ⊢
    have eg1 : H1 g = some (.lst []) := by rw [← hH1]; exact upd_same
    -- for row in sorted(rows)
    refine ⟨.ref a, rfl, a, xs, d, rfl, s1.seq hS, hX1, fun ys L hp ha L1 => ?_⟩
    have L0 : H L = none := Same.free s1 L1
    have nLg : L ≠ g := fun z => by rw [z, eg1] at L1; cases L1
    have hY1 : AllRow H1 d ys := hX1.perm hp
    have ly : ys.length = xs.length := hp.length_eq
    refine ⟨L, rfl, ⟨ys, .inl (.inl upd_same)⟩, ?_⟩
    refine for_list (K := K) (a := L) (xs := ys) (fun i σ H' => ∃ v2 zs, σ = [some (.ref a), some (.ref g), v2] ∧ Same H H' ∧ TKeep H1 H' ∧ H' L = some (.lst ys) ∧ H' g = some (.lst zs) ∧ AllRow H' d zs ∧ dat H' zs = du (fun r => (dat H xs).any (cov1 r)) ((dat H1 ys).take i).reverse ∧ zs.length ≤ i)
      ⟨none, [], rfl, sm_new s1 L1, TKeep.new L1, upd_same, by rw [upd_ne nLg.symm]; exact eg1, (fun _ h => nomatch h), rfl, Nat.le_refl _⟩ (fun i σ H' _ ⟨_, _, _, _, _, h, _⟩ => .inl (.inl h)) ?_ ?_
    · rintro i x σ H' hx ⟨v2, zs, rfl, s2, t2, eL, eg, hz, dz, lz⟩
      have mx := List.mem_of_getElem? hx
      have rx : IsRow H' x (rowOf H1 x) := (hY1.is mx).keep t2
      have lx := hY1.len mx
      have hi := (List.getElem?_eq_some_iff.mp hx).1
      have step : du (fun r => (dat H xs).any (cov1 r)) ((dat H1 ys).take (i + 1)).reverse = if rowOf H1 x ∈ dat H' zs then dat H' zs else if (dat H xs).any (cov1 (rowOf H1 x)) then dat H' zs else dat H' zs ++ [rowOf H1 x] := by
        rw [take_succ_rev (getElem?_dat hx), dz]
        rfl
      refine ⟨_, rfl, _, rfl, rowD (rowOf H1 x), (dat H' zs).map rowD, rx.dp, .lst (.inl (.inl eg)) (dpAll_rows hz), rowD_shaped _, rowDs_shaped _, _, rfl, ?_⟩
      rw [any_eqv]
      by_cases hin : rowOf H1 x ∈ dat H' zs
      · rw [decide_eq_true hin]
        refine iteF ?_
        refine iteF ?_
        rw [if_pos hin] at step
        exact ⟨_, zs, rfl, s2, t2, eL, eg, hz, step.symm, by omega⟩
      · rw [decide_eq_false hin]
        refine iteT ?_
        rw [if_neg hin] at step
        have d2 : dat H' xs = dat H xs := dat_keep (Same.tk s2) hX
        refine ⟨_, rfl, _, rfl, x, a, xs, rowOf H1 x, d, rfl, rx, lx, s2.seq hS, hX.keep (Same.tk s2), fun H3 s3 => ?_⟩
        rw [d2]
        have hz3 : AllRow H3 d zs := hz.keep (Same.tk s3)
        have d3 : dat H3 zs = dat H' zs := dat_keep (Same.tk s3) hz
        refine ⟨_, rfl, ?_⟩
        cases hc : (dat H xs).any (cov1 (rowOf H1 x)) with
        | true =>
          rw [hc, if_pos rfl] at step
          refine iteF ?_
          exact ⟨_, zs, rfl, s2.trans s3, t2.trans (Same.tk s3), s3 _ _ eL, s3 _ _ eg, hz3, by rw [d3, step], by omega⟩
        | false =>
          rw [hc, if_neg Bool.false_ne_true] at step
          refine iteT ?_
          have eg3 := s3 _ _ eg
          refine ⟨_, rfl, .inl ⟨rfl, _, .inl (.inl eg3)⟩, _, rfl, g, _, _, rfl, rfl, eg3, small1000 (by omega), ?_⟩
          have t6 : TKeep H3 (upd H3 g (.lst (zs ++ [x]))) := TKeep.mut eg3 (fun _ z => by cases z)
          have r6 : IsRow (upd H3 g (.lst (zs ++ [x]))) x (rowOf H1 x) := (rx.same s3).keep t6
          refine ⟨_, zs ++ [x], rfl, sm_free (s2.trans s3) g0, (t2.trans (Same.tk s3)).trans t6, by rw [upd_ne nLg]; exact s3 _ _ eL, upd_same, ?_, ?_, ?_⟩
          · refine (hz3.keep t6).append fun y hy => ?_
            rw [List.mem_singleton.mp hy]
            exact ⟨_, r6, lx⟩
          · have e6 := dat_keep t6 hz3
            unfold dat at e6 d3 step ⊢
            rw [List.map_append, List.map_cons, List.map_nil, rowOf_eq r6, e6, d3, step]
          · rw [List.length_append, List.length_singleton]
            omega
    · rintro σ H' ⟨v2, zs, rfl, s2, t2, eL, eg, hz, dz, lz⟩
      rw [List.take_of_length_le (by rw [List.length_map]; exact Nat.le_refl _)] at dz
      refine ⟨_, rfl, q H' g zs s2 g0 eg hz (by omega) ?_⟩
      rw [dz]
      refine due_isMax (d := d) (dat_len hX) ?_ ha
      rw [← d1]
      exact hp.map _
end
end K65

set_option Elab.async false
set_option linter.all false
set_option maxRecDepth 100000
set_option maxHeartbeats 4000000
/-! The law itself. -/
namespace K65
open PySem PySem.Spec PyProof.Rows L2 RZ
/-- rows at R, due at U -/
structure Std (R U : Addr) (d : Nat) (D Du : List Row) (xs us : List V) (H : Hp) : Prop where
  atR : H R = some (.lst xs)
  atU : H U = some (.lst us)
  rx : AllRow H d xs
  ru : AllRow H d us
  ex : dat H xs = D
  eu : dat H us = Du
theorem Std.keep {R U : Addr} {d : Nat} {D Du : List Row} {xs us : List V} {H H' : Hp} (s : Std R U d D Du xs us H) (k : TKeep H H') (hR : ∀ o, H R = some o → H' R = some o) (hU : ∀ o, H U = some o → H' U = some o) : Std R U d D Du xs us H' :=
  ⟨hR _ s.atR, hU _ s.atU, s.rx.keep k, s.ru.keep k, (dat_keep k s.rx).trans s.ex, (dat_keep k s.ru).trans s.eu⟩
theorem Std.same {R U : Addr} {d : Nat} {D Du : List Row} {xs us : List V} {H H' : Hp} (s : Std R U d D Du xs us H) (k : Same H H') : Std R U d D Du xs us H' := s.keep (Same.tk k) (fun o e => k _ o e) (fun o e => k _ o e)
theorem Std.new {R U p : Addr} {d : Nat} {D Du : List Row} {xs us : List V} {H : Hp} {o : HO} (s : Std R U d D Du xs us H) (n : H p = none) : Std R U d D Du xs us (upd H p o) := s.same (same_new n)
structure TxtL (mg : Str → Option Value) : Prop where
  g : Txt mg
  b : TxtB mg
  list : mg "list" = none
  isinstance : mg "isinstance" = none
  repr : mg "repr" = none
abbrev nLaw : List Str := ["script", "box", "rows", "due", "start", "handed", "told", "row"]
theorem scLaw : FnScope nLaw ["script"] (defScope sLaw) := ⟨rfl, rfl, rfl, by decide +kernel, rfl, by decide +kernel, by decide +kernel⟩
theorem cutV_to (xs : List V) (k : Nat) (h : k ≤ xs.length) : cutV xs none (some (k : Int)) = xs.take k := by
  unfold cutV
  rw [HT.sIx_none, HT.sIx_nat, List.drop_zero, Nat.sub_zero, Nat.min_eq_left h]
theorem cutV_from (xs : List V) (k : Nat) (h : k ≤ xs.length) : cutV xs (some (k : Int)) none = xs.drop k := by
  unfold cutV
  rw [HT.sIx_none, HT.sIx_nat, Nat.min_eq_left h]
  exact List.take_of_length_le (by rw [List.length_drop]; exact Nat.le_refl _)
section
variable {P : Program} {w : World} {K : PySem.W.Frag} {mg : Str → Option Value} {base : Heap}
structure Defs (K : PySem.W.Frag) (mg : Str → Option Value) (fL fG fB fT fP fD fC fU : Addr) (dL dG dB dT dP dD dC dU : FuncData) : Prop where
  FL : Fun K "lies_below" "lies_below" sLies fL dL
  bL : Binds K dL ["row", "other"] []
  gL : mg "lies_below" = some (.ref fL)
  FG : Fun K "greatest_rows" "greatest_rows" sGreat fG dG
  bG : Binds K dG ["rows"] []
  gG : mg "greatest_rows" = some (.ref fG)
  FB : Fun K "_law_box" "_law_box" sBox fB dB
  bB : Binds K dB ["script"] []
  gB : mg "_law_box" = some (.ref fB)
  FT : Fun K "_law_take" "_law_take" sTake fT dT
  bT : Binds K dT ["box", "many"] []
  gT : mg "_law_take" = some (.ref fT)
  FP : Fun K "_law_pick" "_law_pick" sPick fP dP
  bP : Binds K dP ["box", "rows"] []
  gP : mg "_law_pick" = some (.ref fP)
  FD : Fun K "_law_drawn" "_law_drawn" sDrawn fD dD
  bD : Binds K dD ["box"] []
  gD : mg "_law_drawn" = some (.ref fD)
  FC : Fun K "_law_covered" "_law_covered" sCov fC dC
  bC : Binds K dC ["row", "rows"] []
  gC : mg "_law_covered" = some (.ref fC)
  FU : Fun K "_law_due" "_law_due" sDue fU dU
  bU : Binds K dU ["rows"] []
  gU : mg "_law_due" = some (.ref fU)
theorem law_run {f a : Addr} {fd : FuncData} {fL fG fB fT fP fD fC fU : Addr} {dL dG dB dT dP dD dC dU : FuncData} {A : Around} {s : Shared} {H : Hp} {ns : List Int}
    (F : Fun K "law" "law" sLaw f fd) (bF : BindsTo s fd ⟨[.ref a], []⟩ [("script", .ref a)]) (Df : Defs K mg fL fG fB fT fP fD fC fU dL dG dB dT dP dD dC dU) (T : TxtL mg) (hg : A.guards = some []) (hr0 : Room 5 A) (e0 : Env0 P w K mg base A [] s H)
    (hS : SqL K H a (ns.map V.int)) (hl : ns.length ≤ 63) : codeAny (model P w) A (.call (.ref f) ⟨[.ref a], []⟩) (CR CX0 [] P w H s (fun v _ => v = .bl true) E0) s := by
  have GB := ok_box (P := P) (w := w) (base := base) Df.FB T.b
  have GT := ok_take (P := P) (w := w) (base := base) Df.FT T.b
  have GD := ok_drawn (P := P) (w := w) (base := base) Df.FD Df.FP Df.FT Df.bT Df.gT Df.bP Df.gP T.b
  have GU := ok_due (P := P) (w := w) (base := base) Df.FU Df.FC Df.bC Df.gC T.g
  have GC := ok_cov (P := P) (w := w) (base := base) Df.FC T.g.zip
  have GG := ok_great (P := P) (w := w) (base := base) Df.FG Df.FL Df.bL Df.gL T.g
  refine at_fn F scLaw (us := [.ref a]) (vs := [.ref a]) hr0 e0 bF (.cons rfl .nil) rfl fun cdv => ?_
  have hr : Room 4 (A.deeper (envOfC "law" (defScope sLaw) s.heap.objs.size f cdv)) := hr0.deeper _
  have hr3 := hr.mono (show 3 ≤ 4 by decide)
  have hr2 := hr.mono (show 2 ≤ 4 by decide)
  have hr1 := hr.mono (show 1 ≤ 4 by decide)
  have hgd : (A.deeper (envOfC "law" (defScope sLaw) s.heap.objs.size f cdv)).guards = some [] := hg
  refine ⟨_, pss_cons (ps_set (i := 1) scLaw.nd rfl (.inl rfl) (pe_call GB hr1 (by rfl) Df.gB Df.FB.kp Df.bB .nil pass0 (pa_cons (pv 0) pa_nil)))
    (pss_cons (ps_set (i := 2) scLaw.nd rfl (.inl rfl) (pe_call GD hr3 (by rfl) Df.gD Df.FD.kp Df.bD .nil pass0 (pa_cons (pv 1) pa_nil)))
    (pss_cons (ps_set (i := 3) scLaw.nd rfl (.inl rfl) (pe_call GU hr2 (by rfl) Df.gU Df.FU.kp Df.bU .nil pass0 (pa_cons (pv 2) pa_nil)))
    (pss_cons (ps_set (i := 4) scLaw.nd rfl (.inl rfl) (pe_call GT hr1 (by rfl) Df.gT Df.FT.kp Df.bT .nil pass0 (pa_cons (pv 1) (pa_cons (pe_op op_add (pe_callB call_len_seq (by rfl) T.b.len PySem.boot_len (pa_cons (pv 2) pa_nil)) pe_int) pa_nil))))
    (pss_cons (ps_set (i := 5) scLaw.nd rfl (.inl rfl) (pe_callTy call_list_of (by rfl) T.list (by decide +kernel) (pa_cons (pv 2) pa_nil)))
    (pss_cons (ps_set (i := 6) scLaw.nd rfl (.inl rfl) (pe_call GG hr2 (by rfl) Df.gG Df.FG.kp Df.bG .nil pass0 (pa_cons (pv 5) pa_nil)))
    (pss_cons (ps_if (PW.pt (pw_or (pt_not (pt_val (pe_callB call_isTy (by rfl) T.isinstance (by decide +kernel) (pa_cons (pv 6) (pa_cons (pe_bltn (v := .ty "list") (by rfl) T.list (by decide +kernel) rfl) pa_nil)))))
        (pw_or (pt_cmpR (op_neD hr.units) (pv 6) (pv 3) (nomark _)) (pw_or (pt_cmpR op_ne (pe_callB (call_reprD hgd hr.units) (by rfl) T.repr (by decide +kernel) (pa_cons (pv 6) pa_nil)) (pe_callB (call_reprD hgd hr.units) (by rfl) T.repr (by decide +kernel) (pa_cons (pv 3) pa_nil)) (nomark _))
          (pw_or1 (pt_cmpR (op_neD hr.units) (pv 5) (pv 2) (nomark _))))))) (pss_one (ps_ret pe_bl)) pss_nil)
    (pss_cons (ps_for PassesOwn.never rfl (pi_list (pv 2)) (pg_name (i := 7) scLaw.nd rfl (.inl rfl))
      (pss_one (ps_if (PW.pt (pw_and (pt_cmpR (op_notInD (hu65 hr)) (pv 7) (pv 6) (by rfl)) (pw_and1 (pt_not (pt_val (pe_call GC hr1 (by rfl) Df.gC Df.FC.kp Df.bC .nil pass0 (pa_cons (pv 7) (pa_cons (pv 6) pa_nil)))))))) (pss_one (ps_ret pe_bl)) pss_nil)))
    (pss_cons (ps_expr (pe_bm PySem.F.plainAttrs_list PySem.F.slot_list_append PySem.F.type_list_append mt_append (pv 6) (pa_cons (pe_tup (pa_cons pe_int pa_nil)) pa_nil)))
    (pss_cons (ps_expr (pe_bm PySem.F.plainAttrs_list PySem.F.slot_list_extend PySem.F.type_list_extend mt_extend (pv 6) (pa_cons (pe_callTy call_list_of (by rfl) T.list (by decide +kernel) (pa_cons (pv 2) pa_nil)) pa_nil)))
    (pss_cons (ps_if (PW.pt (pw_or (pt_cmpR (op_neD hr.units) (pe_call GG hr2 (by rfl) Df.gG Df.FG.kp Df.bG .nil pass0 (pa_cons (pe_tupleOf (by rfl) T.b.tuple (pv 2)) pa_nil)) (pv 3) (nomark _))
        (pw_or1 (pt_cmpR (op_neD hr.units) (pe_call GG hr2 (by rfl) Df.gG Df.FG.kp Df.bG .nil pass0 (pa_cons (pe_op op_cat (pe_slice sl_list (pv 2) (po_some (pv 4)) po_none) (pe_slice sl_list (pv 2) po_none (po_some (pv 4)))) pa_nil)) (pv 3) (nomark _))))) (pss_one (ps_ret pe_bl)) pss_nil)
    (pss_one (ps_ret (pe_and (pe_cmpR (op_eqD hr.units) (pe_call GG hr2 (by rfl) Df.gG Df.FG.kp Df.bG .nil pass0 (pa_cons (pe_callTy call_list_of (by rfl) T.list (by decide +kernel) (pa_cons (pv 3) pa_nil)) pa_nil)) (pv 3) (nomark _))
      (pe_and (pe_cmpR (op_eqD hr.units) (pe_call GG hr2 (by rfl) Df.gG Df.FG.kp Df.bG .nil pass0 (pa_cons (pe_op op_cat (pe_revL (pv 2)) (pv 3)) pa_nil)) (pv 3) (nomark _))
      (pe_one (pe_cmpR (op_eqD hr.units) (pe_call GG hr2 (by rfl) Df.gG Df.FG.kp Df.bG .nil pass0 (pa_cons (pe_lst pa_nil) pa_nil)) (pe_lst pa_nil) (nomark _))))))))))))))))), ?_⟩
  -- box, rows, due
  refine ⟨_, rfl, a, ns, rfl, hS, hl, fun H1 b g s1 b0 g0 hB1 => ?_⟩
  refine ⟨_, rfl, b, g, rfl, hB1, fun H2 R xs d hB2 fr2 R1 eR hX hd l1 l2 hsm => ?_⟩
  refine ⟨_, rfl, R, xs, d, rfl, .inl (.inl eR), hX, by omega, fun H3 U us s3 U2 eU hU lu mU => ?_⟩
  have hB3 := hB2.same s3
  have st3 : Std R U d (dat H2 xs) (dat H3 us) xs us H3 := ⟨s3 _ _ eR, eU, hX.keep (Same.tk s3), hU, dat_keep (Same.tk s3) hX, rfl⟩
  have lD := dat_len hX
  have lDu := dat_len hU
  have nDu : (dat H3 us).length = us.length := List.length_map _
  generalize dat H2 xs = D at st3 mU hsm lD
  generalize dat H3 us = Du at st3 mU lDu nDu
  -- start
  refine ⟨_, rfl, _, rfl, R, _, rfl, .inl (.inl (.inl st3.atR)), _, _, rfl, rfl, b, g, _, rfl, hB3, by omega, by omega, fun H4 v hB4 fr4 v0 v1 => ?_⟩
  have nR := hB1.none_ne R1
  have nU := hB2.none_ne U2
  have st4 := st3.keep (fr4.tk hB3) (fun o e => fr4 _ _ nR.1 nR.2 e) (fun o e => fr4 _ _ nU.1 nU.2 e)
  obtain ⟨j, rfl⟩ := Int.eq_ofNat_of_zero_le v0
  have hj : j ≤ xs.length := by omega
  -- handed, told
  refine ⟨_, rfl, R, xs, rfl, .inl (.inl (.inl st4.atR)), fun h h0 => ?_⟩
  have st5 := st4.new (o := .lst xs) h0
  refine ⟨_, rfl, h, xs, d, rfl, .inl (.inl (.inl upd_same)), st5.rx, by omega, by omega, fun H6 t ts s6 t0 et hT lt mT => ?_⟩
  have st6 := st5.same s6
  have nRt : R ≠ t := ne_of_none st5.atR t0
  have nUt : U ≠ t := ne_of_none st5.atU t0
  rw [st5.ex] at mT
  have eT : dat H6 ts = Du := mT.unique mU fun _ => Iff.rfl
  have eh : H6 h = some (.lst xs) := s6 _ _ upd_same
  have hDt : Dp K H6 (.ref t) (.list (Du.map rowD)) := by
    rw [← eT]
    exact .lst (.inl (.inl et)) (dpAll_rows hT)
  have due : ∀ {H' : Hp}, Std R U d D Du xs us H' → Dp K H' (.ref U) (.list (Du.map rowD)) := fun {H'} st => by
    rw [← st.eu]
    exact .lst (.inl (.inl st.atU)) (dpAll_rows st.ru)
  have hDr : ∀ p, H6 p = some (.lst xs) → Dp K H6 (.ref p) (.list (D.map rowD)) := fun p e => by
    rw [← st6.ex]
    exact .lst (.inl (.inl e)) (dpAll_rows st6.rx)
  obtain ⟨sh1, sh2⟩ := rows_show (L := Du) lDu hd (by omega) fun r hr' => hsm r (mU.sub hr')
  have dp60 : (PyData.list (Du.map rowD)).depth ≤ 60 := by
    have := rowDs_depth Du
    simp only [PyData.depth]
    omega
  have lay : (PyData.list (Du.map rowD)).canLay0 = true := by
    simp only [PyData.canLay0]
    exact rowDs_lay Du
  have eqq : ∀ L : List Row, PyData.eqv (.list (L.map rowD)) (.list (L.map rowD)) = true := fun L => by
    rw [rowDs_eqv]
    exact decide_eq_true rfl
  -- the first if
  refine ⟨_, rfl, _, "list", rfl, .lst et, _, rfl, ?_⟩
  refine iteF ?_
  refine ⟨_, rfl, _, rfl, _, _, hDt, due st6, rowDs_shaped _, rowDs_shaped _, _, rfl, ?_⟩
  rw [eqq]
  refine iteF ?_
  refine ⟨_, rfl, t, _, rfl, hDt, lay, sh1, dp60, sh2, _, rfl, U, _, rfl, due st6, lay, sh1, dp60, sh2, rfl, _, rfl, ?_⟩
  rw [decide_eq_true rfl]
  refine iteF ?_
  refine ⟨_, rfl, _, rfl, _, _, hDr h eh, hDr R st6.atR, rowDs_shaped _, rowDs_shaped _, _, rfl, ?_⟩
  rw [eqq]
  refine iteF ?_
  -- for row in rows
  refine ⟨_, rfl, R, rfl, ⟨_, .inl (.inl st6.atR)⟩, for_list (K := K) (a := R) (xs := xs) (fun i σ H' => ∃ v7, σ = [some (.ref a), some (.ref b), some (.ref R), some (.ref U), some (.int j), some (.ref h), some (.ref t), v7] ∧ Same H6 H')
    ⟨none, rfl, Same.refl _⟩ (fun i σ H' _ ⟨_, _, s7⟩ => .inl (.inl (s7 _ _ st6.atR))) ?_ ?_⟩
  · rintro i x σ H7 hx ⟨v7, rfl, s7⟩
    have mx := List.mem_of_getElem? hx
    have rx : IsRow H7 x (rowOf H6 x) := (st6.rx.is mx).same s7
    have hT7 := hT.keep (Same.tk s7)
    have e7 : dat H7 ts = Du := (dat_keep (Same.tk s7) hT).trans eT
    have hDt7 : DpAll K H7 ts (Du.map rowD) := by
      rw [← e7]
      exact dpAll_rows hT7
    have inD : rowOf H6 x ∈ D := by
      rw [← st6.ex]
      exact List.mem_map.mpr ⟨x, mx, rfl⟩
    refine ⟨_, rfl, _, rfl, _, _, rx.dp, .lst (.inl (.inl (s7 _ _ et))) hDt7, rowD_shaped _, rowDs_shaped _, _, rfl, ?_⟩
    rw [any_eqv]
    by_cases hin : rowOf H6 x ∈ Du
    · rw [decide_eq_true hin]
      refine iteF ?_
      refine iteF ?_
      exact ⟨_, rfl, s7⟩
    · rw [decide_eq_false hin]
      refine iteT ?_
      refine ⟨_, rfl, _, rfl, x, t, ts, _, d, rfl, rx, st6.rx.len mx, .inl (.inl (s7 _ _ et)), hT7, fun H8 s8 => ?_⟩
      rw [e7]
      have hc : Du.any (cov1 (rowOf H6 x)) = true := by
        rcases cover_of lD mU inD with m | ⟨o, ho, e⟩
        · exact absurd m hin
        · refine List.any_eq_true.mpr ⟨o, ho, ?_⟩
          rw [cov1_eq (by rw [st6.rx.len mx, lDu o ho])]
          exact e
      rw [hc]
      refine ⟨_, rfl, ?_⟩
      refine iteF ?_
      exact ⟨_, rfl, s7.trans s8⟩
  · rintro σ H7 ⟨v7, rfl, s7⟩
    have st7 := st6.same s7
    have et7 := s7 _ _ et
    -- told.append((7,))
    refine ⟨_, rfl, .inl ⟨rfl, _, .inl (.inl et7)⟩, (by show 1 ≤ sizeLine; decide), fun p p0 => ?_⟩
    have st8 := st7.new (o := .tup [V.int 7]) p0
    have ntp : t ≠ p := ne_of_none et7 p0
    refine ⟨t, _, _, rfl, rfl, by rw [upd_ne ntp]; exact et7, small1000 (by omega), ?_⟩
    have e8 : (upd H7 p (.tup [V.int 7])) t = some (.lst ts) := by rw [upd_ne ntp]; exact et7
    have st9 := st8.keep (TKeep.mut (o := .lst (ts ++ [V.ref p])) e8 (fun _ z => by cases z)) (fun o e => by rw [upd_ne nRt]; exact e) (fun o e => by rw [upd_ne nUt]; exact e)
    generalize hH9 : upd (upd H7 p (.tup [V.int 7])) t (.lst (ts ++ [V.ref p])) = H9 at st9 ⊢
    have e9 : H9 t = some (.lst (ts ++ [V.ref p])) := by rw [← hH9]; exact upd_same
    -- told.extend(list(rows))
    refine ⟨_, rfl, .inl ⟨rfl, _, .inl (.inl e9)⟩, _, rfl, R, xs, rfl, .inl (.inl (.inl st9.atR)), fun l l0 => ?_⟩
    have ntl : t ≠ l := ne_of_none e9 l0
    have e10 : (upd H9 l (.lst xs)) t = some (.lst (ts ++ [V.ref p])) := by rw [upd_ne ntl]; exact e9
    refine ⟨t, l, _, _, rfl, rfl, e10, upd_same, ?_, ?_⟩
    · rw [List.length_append, List.length_singleton]
      exact Nat.le_of_lt (small1000 (by omega))
    have st10 := (st9.new (o := .lst xs) l0).keep (TKeep.mut (o := .lst ((ts ++ [V.ref p]) ++ xs)) e10 (fun _ z => by cases z)) (fun o e => by rw [upd_ne nRt]; exact e) (fun o e => by rw [upd_ne nUt]; exact e)
    generalize hH10 : upd (upd H9 l (.lst xs)) t (.lst ((ts ++ [V.ref p]) ++ xs)) = H10 at st10 ⊢
    -- what a further call gives
    have again : ∀ {Hc H' : Hp} {zs ys : List V} {q : Addr}, Std R U d D Du xs us Hc → (∀ r, r ∈ dat Hc zs ↔ r ∈ D) → Same Hc H' → H' q = some (.lst ys) → AllRow H' d ys → IsMax (dat Hc zs) (dat H' ys) → Dp K H' (.ref q) (.list (Du.map rowD)) :=
      fun {Hc H' zs ys q} st hm sc eq hy m => by
        rw [← m.unique mU hm]
        exact .lst (.inl (.inl eq)) (dpAll_rows hy)
    have inX : ∀ {Hc : Hp}, Std R U d D Du xs us Hc → ∀ r, r ∈ dat Hc xs ↔ r ∈ D := fun {Hc} st r => by rw [st.ex]
    -- greatest_rows(tuple(rows)) != due
    refine ⟨_, rfl, .inl ⟨R, xs, rfl, .inl (.inl st10.atR), fun q1 q0 => ?_⟩⟩
    have st11 := st10.new (o := .tup xs) q0
    refine ⟨q1, xs, d, rfl, .inr (.inl (.inl upd_same)), st11.rx, by omega, by omega, fun H12 p1 y1 s12 _ ep1 hy1 _ m1 => ?_⟩
    have st12 := st11.same s12
    refine ⟨_, rfl, _, _, again st11 (inX st11) s12 ep1 hy1 m1, due st12, rowDs_shaped _, rowDs_shaped _, _, rfl, ?_⟩
    rw [eqq]
    refine iteF ?_
    -- greatest_rows(rows[start:] + rows[:start]) != due
    refine ⟨_, rfl, _, rfl, _, rfl, ?_⟩
    dsimp only [tNoPart]
    refine ⟨R, xs, rfl, .inl (.inl st12.atR), fun c1 c10 => ?_⟩
    rw [cutV_from xs j hj]
    have st13 := st12.new (o := .lst (xs.drop j)) c10
    refine ⟨_, rfl, _, rfl, _, rfl, R, xs, rfl, .inl (.inl st13.atR), fun c2 c20 => ?_⟩
    rw [cutV_to xs j hj]
    have st14 := st13.new (o := .lst (xs.take j)) c20
    have nc : c1 ≠ c2 := ne_of_none upd_same c20
    refine ⟨c1, c2, _, _, rfl, rfl, by rw [upd_ne nc]; exact upd_same, upd_same, ?_, fun c3 c30 => ?_⟩
    · rw [List.length_drop, List.length_take]
      exact Nat.le_of_lt (small1000 (by omega))
    have st15 := st14.new (o := .lst (xs.drop j ++ xs.take j)) c30
    have sub15 : ∀ x ∈ xs.drop j ++ xs.take j, x ∈ xs := fun x hx => (List.mem_append.mp hx).elim List.mem_of_mem_drop List.mem_of_mem_take
    have sup15 : ∀ x ∈ xs, x ∈ xs.drop j ++ xs.take j := fun x hx => by
      rw [← List.take_append_drop j xs] at hx
      exact List.mem_append.mpr ((List.mem_append.mp hx).symm)
    refine ⟨c3, _, d, rfl, .inl (.inl (.inl upd_same)), fun x hx => st15.rx x (sub15 x hx), by omega, ?_, fun H16 p2 y2 s16 _ ep2 hy2 _ m2 => ?_⟩
    · rw [List.length_append, List.length_drop, List.length_take]
      omega
    have st16 := st15.same s16
    have in15 : ∀ r, r ∈ dat (upd (upd (upd H12 c1 (.lst (xs.drop j))) c2 (.lst (xs.take j))) c3 (.lst (xs.drop j ++ xs.take j))) (xs.drop j ++ xs.take j) ↔ r ∈ D := fun r => by
      rw [← inX st15 r]
      constructor
      · intro hr'
        obtain ⟨x, hx, e⟩ := List.mem_map.mp hr'
        exact List.mem_map.mpr ⟨x, sub15 x hx, e⟩
      · intro hr'
        obtain ⟨x, hx, e⟩ := List.mem_map.mp hr'
        exact List.mem_map.mpr ⟨x, sup15 x hx, e⟩
    refine ⟨_, rfl, _, _, again st15 in15 s16 ep2 hy2 m2, due st16, rowDs_shaped _, rowDs_shaped _, _, rfl, ?_⟩
    rw [eqq]
    refine iteF ?_
    -- return
    refine ⟨_, rfl, U, us, rfl, .inl (.inl (.inl st16.atU)), fun k1 k10 => ?_⟩
    have st17 := st16.new (o := .lst us) k10
    refine ⟨k1, us, d, rfl, .inl (.inl (.inl upd_same)), st17.ru, by omega, by omega, fun H18 p3 y3 s18 _ ep3 hy3 _ m3 => ?_⟩
    have st18 := st17.same s18
    have d3 : Dp K H18 (.ref p3) (.list (Du.map rowD)) := by
      rw [st17.eu] at m3
      rw [← m3.unique mU.self fun _ => Iff.rfl]
      exact .lst (.inl (.inl ep3)) (dpAll_rows hy3)
    refine ⟨_, rfl, _, _, d3, due st18, rowDs_shaped _, rowDs_shaped _, _, rfl, ?_⟩
    rw [eqq]
    refine iteT ?_
    refine ⟨_, rfl, R, xs, rfl, .inl (.inl st18.atR), fun k2 k20 => ?_⟩
    have st19 := st18.new (o := .lst xs.reverse) k20
    refine ⟨_, rfl, k2, U, _, _, rfl, rfl, upd_same, st19.atU, ?_, fun k3 k30 => ?_⟩
    · rw [List.length_reverse]
      exact Nat.le_of_lt (small1000 (by omega))
    have st20 := st19.new (o := .lst (xs.reverse ++ us)) k30
    refine ⟨k3, _, d, rfl, .inl (.inl (.inl upd_same)), fun x hx => (List.mem_append.mp hx).elim (fun z => st20.rx x (List.mem_reverse.mp z)) (st20.ru x), by omega, ?_, fun H21 p4 y4 s21 _ ep4 hy4 _ m4 => ?_⟩
    · rw [List.length_append, List.length_reverse]
      omega
    have st21 := st20.same s21
    have in20 : ∀ r, r ∈ dat (upd (upd H18 k2 (.lst xs.reverse)) k3 (.lst (xs.reverse ++ us))) (xs.reverse ++ us) ↔ r ∈ D := fun r => by
      unfold dat
      rw [List.map_append, List.map_reverse, List.mem_append, List.mem_reverse]
      have e1 := st20.ex
      have e2 := st20.eu
      unfold dat at e1 e2
      rw [e1, e2]
      exact ⟨fun z => z.elim id mU.sub, .inl⟩
    refine ⟨_, rfl, _, _, again st20 in20 s21 ep4 hy4 m4, due st21, rowDs_shaped _, rowDs_shaped _, _, rfl, ?_⟩
    rw [eqq]
    refine iteT ?_
    refine ⟨Nat.zero_le _, fun z1 z10 => ?_⟩
    refine ⟨z1, [], 0, rfl, .inl (.inl (.inl upd_same)), (fun x hx => nomatch hx), by omega, by decide, fun H22 p5 y5 s22 _ ep5 hy5 _ m5 => ?_⟩
    have e5 : dat H22 y5 = [] := m5.unique isMax_nil fun _ => Iff.rfl
    have y0 : y5 = [] := List.map_eq_nil_iff.mp e5
    refine ⟨Nat.zero_le _, fun z2 z20 => ?_⟩
    have np : p5 ≠ z2 := ne_of_none ep5 z20
    refine ⟨.list [], .list [], .lst (.inl (.inl (by rw [upd_ne np, ep5, y0]))) .nil, .lst (.inl (.inl upd_same)) .nil, rfl, rfl, ?_⟩
    rfl
end
end K65

set_option Elab.async false
set_option linter.all false
set_option maxRecDepth 100000
set_option maxHeartbeats 4000000
namespace K65
open PySem PySem.Spec PyProof.Rows L2
theorem all_mk {P : Program} {w : World} {K : PySem.W.Frag} {h : Heap} {mg : Str → Option Value} {fa : Addr} (X : K.In h) (G : h.Ns mainGlobals mg) (hfa : mg "law" = some (.ref fa))
    {fL : Addr} {odL anL : Option Addr} {slL : Array (Option Value)} {ocL kVL dcL pmL cdL ctL : Value} {fG : Addr} {odG anG : Option Addr} {slG : Array (Option Value)} {ocG kVG dcG pmG cdG ctG : Value} {fB : Addr} {odB anB : Option Addr} {slB : Array (Option Value)} {ocB kVB dcB pmB cdB ctB : Value} {fT : Addr} {odT anT : Option Addr} {slT : Array (Option Value)} {ocT kVT dcT pmT cdT ctT : Value} {fP : Addr} {odP anP : Option Addr} {slP : Array (Option Value)} {ocP kVP dcP pmP cdP ctP : Value} {fD : Addr} {odD anD : Option Addr} {slD : Array (Option Value)} {ocD kVD dcD pmD cdD ctD : Value} {fC : Addr} {odC anC : Option Addr} {slC : Array (Option Value)} {ocC kVC dcC pmC cdC ctC : Value} {fU : Addr} {odU anU : Option Addr} {slU : Array (Option Value)} {ocU kVU dcU pmU cdU ctU : Value} {fW : Addr} {odW anW : Option Addr} {slW : Array (Option Value)} {ocW kVW dcW pmW cdW ctW : Value}
    (aL : PySem.W.nsIn K mainGlobals "lies_below" = some (some (.ref fL))) (lL : K.lookup fL = some ⟨ocL, odL, .func (PySem.W.fnOf "lies_below" "lies_below" (defArgs sLies) (defBody sLies) (defScope sLies) .none kVL dcL pmL anL cdL ctL), slL⟩) (cL : PySem.W.codeIn K cdL "lies_below" = true) (kL : PySem.W.keepIn K (.ref fL) = true)
    (aG : PySem.W.nsIn K mainGlobals "greatest_rows" = some (some (.ref fG))) (lG : K.lookup fG = some ⟨ocG, odG, .func (PySem.W.fnOf "greatest_rows" "greatest_rows" (defArgs sGreat) (defBody sGreat) (defScope sGreat) .none kVG dcG pmG anG cdG ctG), slG⟩) (cG : PySem.W.codeIn K cdG "greatest_rows" = true) (kG : PySem.W.keepIn K (.ref fG) = true)
    (aB : PySem.W.nsIn K mainGlobals "_law_box" = some (some (.ref fB))) (lB : K.lookup fB = some ⟨ocB, odB, .func (PySem.W.fnOf "_law_box" "_law_box" (defArgs sBox) (defBody sBox) (defScope sBox) .none kVB dcB pmB anB cdB ctB), slB⟩) (cB : PySem.W.codeIn K cdB "_law_box" = true) (kB : PySem.W.keepIn K (.ref fB) = true)
    (aT : PySem.W.nsIn K mainGlobals "_law_take" = some (some (.ref fT))) (lT : K.lookup fT = some ⟨ocT, odT, .func (PySem.W.fnOf "_law_take" "_law_take" (defArgs sTake) (defBody sTake) (defScope sTake) .none kVT dcT pmT anT cdT ctT), slT⟩) (cT : PySem.W.codeIn K cdT "_law_take" = true) (kT : PySem.W.keepIn K (.ref fT) = true)
    (aP : PySem.W.nsIn K mainGlobals "_law_pick" = some (some (.ref fP))) (lP : K.lookup fP = some ⟨ocP, odP, .func (PySem.W.fnOf "_law_pick" "_law_pick" (defArgs sPick) (defBody sPick) (defScope sPick) .none kVP dcP pmP anP cdP ctP), slP⟩) (cP : PySem.W.codeIn K cdP "_law_pick" = true) (kP : PySem.W.keepIn K (.ref fP) = true)
    (aD : PySem.W.nsIn K mainGlobals "_law_drawn" = some (some (.ref fD))) (lD : K.lookup fD = some ⟨ocD, odD, .func (PySem.W.fnOf "_law_drawn" "_law_drawn" (defArgs sDrawn) (defBody sDrawn) (defScope sDrawn) .none kVD dcD pmD anD cdD ctD), slD⟩) (cD : PySem.W.codeIn K cdD "_law_drawn" = true) (kD : PySem.W.keepIn K (.ref fD) = true)
    (aC : PySem.W.nsIn K mainGlobals "_law_covered" = some (some (.ref fC))) (lC : K.lookup fC = some ⟨ocC, odC, .func (PySem.W.fnOf "_law_covered" "_law_covered" (defArgs sCov) (defBody sCov) (defScope sCov) .none kVC dcC pmC anC cdC ctC), slC⟩) (cC : PySem.W.codeIn K cdC "_law_covered" = true) (kC : PySem.W.keepIn K (.ref fC) = true)
    (aU : PySem.W.nsIn K mainGlobals "_law_due" = some (some (.ref fU))) (lU : K.lookup fU = some ⟨ocU, odU, .func (PySem.W.fnOf "_law_due" "_law_due" (defArgs sDue) (defBody sDue) (defScope sDue) .none kVU dcU pmU anU cdU ctU), slU⟩) (cU : PySem.W.codeIn K cdU "_law_due" = true) (kU : PySem.W.keepIn K (.ref fU) = true)
    (aW : PySem.W.nsIn K mainGlobals "law" = some (some (.ref fW))) (lW : K.lookup fW = some ⟨ocW, odW, .func (PySem.W.fnOf "law" "law" (defArgs sLaw) (defBody sLaw) (defScope sLaw) .none kVW dcW pmW anW cdW ctW), slW⟩) (cW : PySem.W.codeIn K cdW "law" = true) (kW : PySem.W.keepIn K (.ref fW) = true)
    (z0 : PySem.W.nsIn K mainGlobals "all" = some none) (z1 : PySem.W.nsIn K mainGlobals "zip" = some none) (z2 : PySem.W.nsIn K mainGlobals "any" = some none) (z3 : PySem.W.nsIn K mainGlobals "sorted" = some none) (z4 : PySem.W.nsIn K mainGlobals "tuple" = some none) (z5 : PySem.W.nsIn K mainGlobals "int" = some none) (z6 : PySem.W.nsIn K mainGlobals "len" = some none) (z7 : PySem.W.nsIn K mainGlobals "range" = some none) (z8 : PySem.W.nsIn K mainGlobals "list" = some none) (z9 : PySem.W.nsIn K mainGlobals "isinstance" = some none) (z10 : PySem.W.nsIn K mainGlobals "repr" = some none) :
    ∀ (a : Addr) (ns : List Int) (s : Shared) (H : Hp) (base : Heap), ns.length ≤ 63 → SqL K H a (ns.map V.int) → Env0 P w K mg base callerA [] s H → codeAny (model P w) callerA (.call (.ref fa) ⟨[.ref a], []⟩) (CR CX0 [] P w H s (fun v _ => v = .bl true) E0) s := by
  have e := hfa.symm.trans (PySem.W.mg_of X G aW)
  cases e
  have FL := fun_mk (st := sLies) lL cL kL
  have bL := FL.binds (ps := ["row", "other"]) fun _ _ _ _ _ _ us hl => match us, hl with | [_, _], _ => rfl
  have FG := fun_mk (st := sGreat) lG cG kG
  have bG := FG.binds (ps := ["rows"]) fun _ _ _ _ _ _ us hl => match us, hl with | [_], _ => rfl
  have FB := fun_mk (st := sBox) lB cB kB
  have bB := FB.binds (ps := ["script"]) fun _ _ _ _ _ _ us hl => match us, hl with | [_], _ => rfl
  have FT := fun_mk (st := sTake) lT cT kT
  have bT := FT.binds (ps := ["box", "many"]) fun _ _ _ _ _ _ us hl => match us, hl with | [_, _], _ => rfl
  have FP := fun_mk (st := sPick) lP cP kP
  have bP := FP.binds (ps := ["box", "rows"]) fun _ _ _ _ _ _ us hl => match us, hl with | [_, _], _ => rfl
  have FD := fun_mk (st := sDrawn) lD cD kD
  have bD := FD.binds (ps := ["box"]) fun _ _ _ _ _ _ us hl => match us, hl with | [_], _ => rfl
  have FC := fun_mk (st := sCov) lC cC kC
  have bC := FC.binds (ps := ["row", "rows"]) fun _ _ _ _ _ _ us hl => match us, hl with | [_, _], _ => rfl
  have FU := fun_mk (st := sDue) lU cU kU
  have bU := FU.binds (ps := ["rows"]) fun _ _ _ _ _ _ us hl => match us, hl with | [_], _ => rfl
  have FW := fun_mk (st := sLaw) lW cW kW
  intro a ns s H base hl hS e0
  refine law_run FW (.of_eq rfl) ⟨FL, bL, PySem.W.mg_of X G aL, FG, bG, PySem.W.mg_of X G aG, FB, bB, PySem.W.mg_of X G aB, FT, bT, PySem.W.mg_of X G aT, FP, bP, PySem.W.mg_of X G aP, FD, bD, PySem.W.mg_of X G aD, FC, bC, PySem.W.mg_of X G aC, FU, bU, PySem.W.mg_of X G aU⟩ ⟨⟨PySem.W.mg_none_of X G z0, PySem.W.mg_none_of X G z1, PySem.W.mg_none_of X G z2, PySem.W.mg_none_of X G z3, PySem.W.mg_none_of X G z4⟩, ⟨PySem.W.mg_none_of X G z5, PySem.W.mg_none_of X G z6, PySem.W.mg_none_of X G z7, PySem.W.mg_none_of X G z4⟩, PySem.W.mg_none_of X G z8, PySem.W.mg_none_of X G z9, PySem.W.mg_none_of X G z10⟩ rfl ⟨rfl, by decide, by decide⟩ e0 hS hl
end K65

open PySem PySem.W PyProof.Rows in
set_option maxRecDepth 100000 in
set_option maxHeartbeats 0 in
theorem PySem.Challenge.cw_oneweight_k65_greatest_rows_of_any_list_holds : PySem.Challenge.rw_oneweight_k65_greatest_rows_of_any_list.Holds := by
  w_on; o_law; k_head; (case hw => w_witness2)
  k_fill
  refine K65.walk_g (l := PySem.Challenge.rw_oneweight_k65_greatest_rows_of_any_list) (n := 63) rfl (by decide) rfl (fun w h Y => PySem.W.kIn_of Y) ?F
  case F =>
    intro w mg fa a ns s H base KX G hmg hl hb hS e0
    refine' K65.all_mk KX G hmg ?aL ?lL ?cL ?kL ?aG ?lG ?cG ?kG ?aB ?lB ?cB ?kB ?aT ?lT ?cT ?kT ?aP ?lP ?cP ?kP ?aD ?lD ?cD ?kD ?aC ?lC ?cC ?kC ?aU ?lU ?cU ?kU ?aW ?lW ?cW ?kW ?z0 ?z1 ?z2 ?z3 ?z4 ?z5 ?z6 ?z7 ?z8 ?z9 ?z10 a ns s H base hl hS e0
    (case aL => k_is)
    (case lL => k_is)
    (case cL => k_is)
    (case kL => k_is)
    (case aG => k_is)
    (case lG => k_is)
    (case cG => k_is)
    (case kG => k_is)
    (case aB => k_is)
    (case lB => k_is)
    (case cB => k_is)
    (case kB => k_is)
    (case aT => k_is)
    (case lT => k_is)
    (case cT => k_is)
    (case kT => k_is)
    (case aP => k_is)
    (case lP => k_is)
    (case cP => k_is)
    (case kP => k_is)
    (case aD => k_is)
    (case lD => k_is)
    (case cD => k_is)
    (case kD => k_is)
    (case aC => k_is)
    (case lC => k_is)
    (case cC => k_is)
    (case kC => k_is)
    (case aU => k_is)
    (case lU => k_is)
    (case cU => k_is)
    (case kU => k_is)
    (case aW => k_is)
    (case lW => k_is)
    (case cW => k_is)
    (case kW => k_is)
    (case z0 => k_is)
    (case z1 => k_is)
    (case z2 => k_is)
    (case z3 => k_is)
    (case z4 => k_is)
    (case z5 => k_is)
    (case z6 => k_is)
    (case z7 => k_is)
    (case z8 => k_is)
    (case z9 => k_is)
    (case z10 => k_is)
#print axioms PySem.Challenge.cw_oneweight_k65_greatest_rows_of_any_list_holds
