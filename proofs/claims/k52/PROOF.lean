import PyProof.Rows.All
import Wide.All
import OpenK.AllK
import Wide.FinOn
import HandS.ForMost
import HandS.ForExc
import HandS.EndBits
import HandS.Wide
import HandS.IsInst
import HandS.Zip
import HandS.Conv
import HandS.Style
import HandS.Walk
import HandS.Strs
import HandS.SetFor
import HandS.More
import HandS.Defaults
import PySem.Challenge.RW_slotfall_k52_whole_trees_from_logs
import KE.GoesMore
import KE.KRevSl
/-! SFm1 -/
section
set_option Elab.async false
set_option maxHeartbeats 4000000
/-! Mathematics of the logs, part 1: forests (first child, next sibling), the log for a limit, the order in it. -/
namespace SF

/-- a forest: its first tree's label, that tree's children, the other trees -/
inductive F where
  | nil
  | cons (v : Nat) (k r : F)
  deriving DecidableEq

def F.tops : F → List Nat
  | .nil => []
  | .cons v _ r => v :: r.tops
/-- preorder -/
def F.all : F → List Nat
  | .nil => []
  | .cons v k r => v :: (k.all ++ r.all)
def F.size : F → Nat
  | .nil => 0
  | .cons _ k r => k.size + r.size + 1
theorem F.all_length : ∀ f : F, f.all.length = f.size
  | .nil => rfl
  | .cons v k r => by
    simp only [F.all, F.size, List.length_cons, List.length_append, F.all_length k, F.all_length r]
theorem F.tops_all : ∀ (f : F) (x : Nat), x ∈ f.tops → x ∈ f.all
  | .nil, x, h => by simp [F.tops] at h
  | .cons v k r, x, h => by
    simp only [F.tops, List.mem_cons] at h
    simp only [F.all, List.mem_cons, List.mem_append]
    rcases h with h | h
    · exact .inl h
    · exact .inr (.inr (F.tops_all r x h))

/-- the nodes of a forest at relative depth d that are destroyed at once; those that come later from the shelf -/
def nr (l : Nat) : Nat → F → List Nat
  | _, .nil => []
  | d, .cons v k r => if d < l then v :: (nr l (d + 1) k ++ nr l d r) else []
def fr (l : Nat) : Nat → F → List Nat
  | _, .nil => []
  | d, .cons v k r => fr l d r ++ (if d < l then fr l (d + 1) k else v :: (nr l 1 k ++ fr l 1 k))
def pr (l d : Nat) (f : F) : List Nat := nr l d f ++ fr l d f
/-- the log of the tree with root v and the children k -/
def lg (l : Nat) (v : Nat) (k : F) : List Nat := v :: (nr l 1 k ++ fr l 1 k)

theorem nr_far {l d : Nat} (h : ¬ d < l) (f : F) : nr l d f = [] := by
  cases f with
  | nil => rfl
  | cons v k r => simp only [nr, if_neg h]

theorem perm_pr (l : Nat) : ∀ (f : F) (d : Nat), (pr l d f).Perm f.all
  | .nil, d => by simp [pr, nr, fr, F.all]
  | .cons v k r, d => by
    have hr := perm_pr l r d
    unfold pr at hr ⊢
    simp only [nr, fr, F.all]
    by_cases h : d < l
    · have hk := perm_pr l k (d + 1)
      unfold pr at hk
      simp only [if_pos h, List.cons_append]
      refine List.Perm.cons _ ?_
      have e1 : (nr l (d + 1) k ++ nr l d r ++ (fr l d r ++ fr l (d + 1) k)).Perm ((nr l (d + 1) k ++ fr l (d + 1) k) ++ (nr l d r ++ fr l d r)) := by
        simp only [List.append_assoc]
        refine List.Perm.append_left _ ?_
        rw [← List.append_assoc (nr l d r)]
        exact List.perm_append_comm
      exact e1.trans (hk.append hr)
    · have hk := perm_pr l k 1
      unfold pr at hk
      simp only [if_neg h, List.nil_append]
      rw [nr_far h, List.nil_append] at hr
      refine List.perm_append_comm.trans ?_
      simp only [List.cons_append]
      exact List.Perm.cons _ (hk.append hr)
theorem perm_lg (l v : Nat) (k : F) : (lg l v k).Perm (v :: k.all) := List.Perm.cons _ (perm_pr l k 1)

/-- the other trees' part stands in the whole -/
theorem pr_rest (l d v : Nat) (k r : F) : (pr l d r).Sublist (pr l d (.cons v k r)) := by
  unfold pr
  simp only [nr, fr]
  by_cases h : d < l
  · simp only [if_pos h]
    refine List.Sublist.append ?_ ?_
    · exact ((List.sublist_append_right _ _)).cons _
    · exact List.sublist_append_left _ _
  · rw [nr_far h]
    simp only [if_neg h, List.nil_append]
    exact List.sublist_append_left _ _
/-- the relative depth of the children -/
def dn (l d : Nat) : Nat := if d < l then d + 1 else 1
theorem pr_kids (l d v : Nat) (k r : F) : (v :: pr l (dn l d) k).Sublist (pr l d (.cons v k r)) := by
  unfold pr dn
  simp only [nr, fr]
  by_cases h : d < l
  · simp only [if_pos h, List.cons_append]
    refine List.Sublist.cons_cons _ ?_
    rw [List.append_assoc]
    refine List.Sublist.append (List.Sublist.refl _) ?_
    rw [← List.append_assoc]
    exact List.sublist_append_right _ _
  · simp only [if_neg h, List.nil_append]
    exact List.sublist_append_right _ _
theorem tops_nr {l d : Nat} (h : d < l) : ∀ (f : F) (x : Nat), x ∈ f.tops → x ∈ nr l d f
  | .nil, x, hx => by simp [F.tops] at hx
  | .cons v k r, x, hx => by
    simp only [F.tops, List.mem_cons] at hx
    simp only [nr, if_pos h, List.mem_cons, List.mem_append]
    rcases hx with e | e
    · exact .inl e
    · exact .inr (.inr (tops_nr h r x e))
/-- two siblings that are near come in the order of the slots -/
theorem pr_sib {l d v w : Nat} {k r : F} (h : d < l) (hw : w ∈ r.tops) : ([v, w] : List Nat).Sublist (pr l d (.cons v k r)) := by
  unfold pr
  simp only [nr, if_pos h, List.cons_append]
  refine List.Sublist.cons_cons _ ?_
  refine List.singleton_sublist.mpr ?_
  simp only [List.mem_append]
  exact .inl (.inr (tops_nr h r w hw))

/-- the relative depth of the absolute depth D, from 1 to l -/
def rel (l D : Nat) : Nat := (D - 1) % l + 1
theorem rel_one {l : Nat} : rel l 1 = 1 := by simp [rel]
theorem rel_lt {l D : Nat} (hl : 0 < l) (hD : 0 < D) : rel l D < l ↔ ¬ l ∣ D := by
  unfold rel
  have h1 := Nat.mod_lt (D - 1) hl
  have h2 := Nat.div_add_mod (D - 1) l
  generalize hq : (D - 1) / l = q at h2
  generalize hm : (D - 1) % l = m at h1 h2 ⊢
  constructor
  · rintro h ⟨c, hc⟩
    have e : D = l * q + m + 1 := by omega
    rw [hc] at e
    have e2 : l * c = l * q + (m + 1) := by omega
    have h4 : (l * c) % l = (l * q + (m + 1)) % l := by rw [e2]
    rw [Nat.mul_mod_right, Nat.mul_add_mod, Nat.mod_eq_of_lt h] at h4
    omega
  · intro h
    refine Nat.lt_of_le_of_ne (by omega) fun e => h ⟨q + 1, ?_⟩
    rw [Nat.mul_add]
    omega
theorem rel_succ {l D : Nat} (hl : 0 < l) (hD : 0 < D) : rel l (D + 1) = dn l (rel l D) := by
  unfold dn
  have h1 := Nat.mod_lt (D - 1) hl
  have h2 := Nat.div_add_mod (D - 1) l
  generalize hq : (D - 1) / l = q at h2
  unfold rel
  generalize hm : (D - 1) % l = m at h1 h2 ⊢
  have e : D + 1 - 1 = l * q + (m + 1) := by omega
  rw [e, Nat.mul_add_mod]
  by_cases h : m + 1 < l
  · rw [if_pos h, Nat.mod_eq_of_lt h]
  · rw [if_neg h]
    have : m + 1 = l := by omega
    rw [this, Nat.mod_self]

/-! ### the log for limit 1 -/
def rp : F → List Nat
  | .nil => []
  | .cons v k r => rp r ++ v :: rp k
theorem fr_one : ∀ f : F, fr 1 1 f = rp f
  | .nil => rfl
  | .cons v k r => by
    simp only [fr, rp, fr_one k, fr_one r, nr_far (Nat.lt_irrefl 1), List.nil_append, if_neg (Nat.lt_irrefl 1)]
theorem lg_one (v : Nat) (k : F) : lg 1 v k = v :: rp k := by
  unfold lg
  rw [nr_far (Nat.lt_irrefl 1), fr_one, List.nil_append]
theorem rp_perm (f : F) : (rp f).Perm f.all := by
  have h := perm_pr 1 f 1
  unfold pr at h
  rw [nr_far (Nat.lt_irrefl 1), fr_one, List.nil_append] at h
  exact h

/-! ### positions -/
theorem idx_lt {l : List Nat} {a b : Nat} (hs : ([a, b] : List Nat).Sublist l) (hn : l.Nodup) : l.idxOf a < l.idxOf b := by
  induction l with
  | nil => cases hs
  | cons x r ih =>
    have hx := List.nodup_cons.mp hn
    cases hs with
    | cons _ h =>
      have ha : a ∈ r := h.subset (by simp)
      have hb : b ∈ r := h.subset (by simp)
      have na : (x == a) = false := beq_eq_false_iff_ne.mpr fun e => hx.1 (e ▸ ha)
      have nb : (x == b) = false := beq_eq_false_iff_ne.mpr fun e => hx.1 (e ▸ hb)
      have := ih h hx.2
      simp only [List.idxOf_cons, na, nb, cond_false]
      omega
    | cons_cons _ h =>
      have hb : b ∈ r := h.subset (by simp)
      have nb : (a == b) = false := beq_eq_false_iff_ne.mpr fun e => hx.1 (e ▸ hb)
      simp only [List.idxOf_cons, beq_self_eq_true, nb, cond_false, cond_true]
      omega
theorem idx_not {l : List Nat} {a b : Nat} (hs : ([a, b] : List Nat).Sublist l) (hn : l.Nodup) : ¬ l.idxOf b < l.idxOf a := by
  have := idx_lt hs hn
  omega
/-- some of the logs has x before c -/
def bfOf (logs : List (List Nat)) (x c : Nat) : Bool := logs.any fun l => decide (l.idxOf x < l.idxOf c)

/-! ### the forced tree -/
abbrev G := Nat → List Nat
/-- a child is put ahead of the others -/
def put (g : G) (p x : Nat) : G := fun i => if i = p then x :: g p else g i
/-- the last of x and the list -/
def lastOf (x : Nat) (l : List Nat) : Nat := l.getLast?.getD x
def step (bf : Nat → Nat → Bool) (x0 : Nat) (s : List Nat × G) (x : Nat) : List Nat × G :=
  ((s.1.takeWhile fun c => !bf x c) ++ [x], put s.2 (lastOf x0 (s.1.takeWhile fun c => !bf x c)) x)
/-- s.1: the path without the root x0 -/
def run (bf : Nat → Nat → Bool) (x0 : Nat) (xs : List Nat) (s : List Nat × G) : List Nat × G := xs.foldl (step bf x0) s
def forced (bf : Nat → Nat → Bool) (x0 : Nat) (xs : List Nat) : G := (run bf x0 xs ([], fun _ => [])).2

/-- the children's lists that a forest below p adds -/
def addF : F → Nat → G → G
  | .nil, _, g => g
  | .cons v k r, p, g => addF k v (put (addF r p g) p v)
def Good (bf : Nat → Nat → Bool) : List Nat → F → Prop
  | _, .nil => True
  | A, .cons v k r => (∀ a ∈ A, bf v a = false) ∧ (∀ w ∈ r.tops, bf v w = true) ∧ Good bf (A ++ [v]) k ∧ Good bf A r
theorem tw_all {p : Nat → Bool} {A B : List Nat} (hA : ∀ a ∈ A, p a = true) (hB : B = [] ∨ ∃ c r, B = c :: r ∧ p c = false) : (A ++ B).takeWhile p = A := by
  induction A with
  | nil =>
    rcases hB with e | ⟨c, r, e, h⟩
    · rw [e]; rfl
    · rw [e]; simp [h]
  | cons a A ih =>
    have ha := hA a (by simp)
    simp only [List.cons_append, List.takeWhile_cons, ha, if_true]
    rw [ih fun b hb => hA b (by simp [hb])]
theorem lastOf_snoc (x0 : Nat) (A : List Nat) (v : Nat) : lastOf x0 (A ++ [v]) = v := by
  simp [lastOf]
/-- the turns over a forest's nodes -/
theorem run_forest (bf : Nat → Nat → Bool) (x0 : Nat) : ∀ (f : F) (A B : List Nat) (g : G), Good bf A f → (B = [] ∨ ∃ c r, B = c :: r ∧ ∀ x ∈ f.tops, bf x c = true) →
    ∃ B', run bf x0 (rp f) (A ++ B, g) = (A ++ B', addF f (lastOf x0 A) g) ∧ (f = .nil → B' = B) ∧ ∀ v k r, f = .cons v k r → ∃ r', B' = v :: r'
  | .nil, A, B, g, _, _ => ⟨B, rfl, fun _ => rfl, fun _ _ _ e => by cases e⟩
  | .cons v k r, A, B, g, hg, hB => by
    obtain ⟨h1, h2, h3, h4⟩ := hg
    have hB1 : B = [] ∨ ∃ c s, B = c :: s ∧ ∀ x ∈ r.tops, bf x c = true := by
      rcases hB with e | ⟨c, s, e, h⟩
      · exact .inl e
      · exact .inr ⟨c, s, e, fun x hx => h x (by simp [F.tops, hx])⟩
    obtain ⟨B1, e1, n1, c1⟩ := run_forest bf x0 r A B g h4 hB1
    have stop : B1 = [] ∨ ∃ c s, B1 = c :: s ∧ (!bf v c) = false := by
      cases hr : r with
      | nil =>
        have e := n1 hr
        rcases hB with e' | ⟨c, s, e', h⟩
        · exact .inl (e.trans e')
        · exact .inr ⟨c, s, e.trans e', by rw [h v (by simp [F.tops])]; rfl⟩
      | cons w kk rr =>
        obtain ⟨s, es⟩ := c1 w kk rr hr
        exact .inr ⟨w, s, es, by rw [h2 w (by rw [hr]; simp [F.tops])]; rfl⟩
    have tw : (A ++ B1).takeWhile (fun c => !bf v c) = A := tw_all (fun a ha => by rw [h1 a ha]; rfl) stop
    have e2 : step bf x0 (A ++ B1, addF r (lastOf x0 A) g) v = (A ++ [v] ++ [], put (addF r (lastOf x0 A) g) (lastOf x0 A) v) := by
      unfold step
      simp only [tw, List.append_nil]
    obtain ⟨B3, e3, n3, c3⟩ := run_forest bf x0 k (A ++ [v]) [] (put (addF r (lastOf x0 A) g) (lastOf x0 A) v) h3 (.inl rfl)
    refine ⟨v :: B3, ?_, fun e => (by cases e), fun v' k' r' e => ?_⟩
    · show run bf x0 (rp r ++ v :: rp k) (A ++ B, g) = _
      unfold run at e1 e3 ⊢
      rw [List.foldl_append, e1, List.foldl_cons, e2, e3, lastOf_snoc]
      simp [addF]
    · cases e
      exact ⟨B3, rfl⟩
/-- each node's children in a forest are its row -/
def Has (g : G) : F → Prop
  | .nil => True
  | .cons v k r => g v = k.tops ∧ Has g k ∧ Has g r
theorem Has.congr {g g' : G} : ∀ {f : F}, (∀ x ∈ f.all, g x = g' x) → Has g f → Has g' f
  | .nil, _, _ => trivial
  | .cons v k r, h, ⟨h1, h2, h3⟩ => ⟨by rw [← h v (by simp [F.all])]; exact h1, Has.congr (fun x hx => h x (by simp [F.all, hx])) h2, Has.congr (fun x hx => h x (by simp [F.all, hx])) h3⟩
theorem addF_out : ∀ (f : F) (p : Nat) (g : G) (x : Nat), x ≠ p → x ∉ f.all → addF f p g x = g x
  | .nil, _, _, _, _, _ => rfl
  | .cons v k r, p, g, x, hp, hx => by
    simp only [F.all, List.mem_cons, List.mem_append, not_or] at hx
    show addF k v (put (addF r p g) p v) x = g x
    rw [addF_out k v _ x hx.1 hx.2.1]
    unfold put
    rw [if_neg hp, addF_out r p g x hp hx.2.2]
theorem addF_at : ∀ (f : F) (p : Nat) (g : G), p ∉ f.all → f.all.Nodup → addF f p g p = f.tops ++ g p
  | .nil, _, _, _, _ => rfl
  | .cons v k r, p, g, hp, hn => by
    simp only [F.all, List.mem_cons, List.mem_append, not_or] at hp
    simp only [F.all, List.nodup_cons, List.mem_append, not_or, List.nodup_append] at hn
    show addF k v (put (addF r p g) p v) p = v :: r.tops ++ g p
    rw [addF_out k v _ p hp.1 hp.2.1]
    unfold put
    rw [if_pos rfl, addF_at r p g hp.2.2 hn.2.2.1]
    rfl
theorem addF_has : ∀ (f : F) (p : Nat) (g : G), p ∉ f.all → f.all.Nodup → (∀ x ∈ f.all, g x = []) → Has (addF f p g) f
  | .nil, _, _, _, _, _ => trivial
  | .cons v k r, p, g, hp, hn, h0 => by
    simp only [F.all, List.mem_cons, List.mem_append, not_or] at hp
    simp only [F.all, List.nodup_cons, List.mem_append, not_or, List.nodup_append] at hn
    obtain ⟨⟨nvk, nvr⟩, nk, nrr, dis⟩ := hn
    have rout : ∀ x, x ≠ p → x ∉ r.all → put (addF r p g) p v x = g x := fun x h1 h2 => by
      unfold put
      rw [if_neg h1, addF_out r p g x h1 h2]
    refine ⟨?_, ?_, ?_⟩
    · show addF k v (put (addF r p g) p v) v = k.tops
      rw [addF_at k v _ nvk nk, rout v (fun e => hp.1 e.symm) nvr, h0 v (by simp [F.all]), List.append_nil]
    · refine addF_has k v _ nvk nk fun x hx => ?_
      rw [rout x (fun e => hp.2.1 (e ▸ hx)) (fun h => dis x hx x h rfl)]
      exact h0 x (by simp [F.all, hx])
    · refine Has.congr (g := addF r p g) (fun x hx => ?_) (addF_has r p g hp.2.2 nrr fun x hx => h0 x (by simp [F.all, hx]))
      show _ = addF k v (put (addF r p g) p v) x
      rw [addF_out k v _ x (fun e => nvr (by rw [← e]; exact hx)) (fun h => dis x h x hx rfl)]
      unfold put
      rw [if_neg (fun e : x = p => hp.2.2 (by rw [← e]; exact hx))]
/-- the forced tree of a good relation is the tree -/
theorem forced_good {bf : Nat → Nat → Bool} {v : Nat} {k : F} (hg : Good bf [] k) (hn : (v :: k.all).Nodup) : Has (forced bf v (rp k)) (.cons v k .nil) := by
  obtain ⟨B', e, _⟩ := run_forest bf v k [] [] (fun _ => []) hg (.inl rfl)
  have hn' := List.nodup_cons.mp hn
  have e2 : forced bf v (rp k) = addF k v (fun _ => []) := by
    unfold forced
    rw [List.append_nil] at e
    rw [e]
    rfl
  rw [e2]
  exact ⟨by rw [addF_at k v _ hn'.1 hn'.2, List.append_nil], addF_has k v _ hn'.1 hn'.2 fun _ _ => rfl, trivial⟩

/-! ### the logs of a tree give a good relation -/
/-- the limits tell apart: for each depth from 1 to n - 2 some limit that does not divide it -/
def Tells (ls : List Nat) (n : Nat) : Prop := ∀ D, 1 ≤ D → D + 2 ≤ n → ∃ l ∈ ls, ¬ l ∣ D
theorem good_logs {ls : List Nat} {n v0 : Nat} {k0 : F} (ht : Tells ls n) (h0 : ∀ l ∈ ls, 0 < l) (hn : (v0 :: k0.all).Nodup) :
    ∀ (f : F) (D : Nat) (A : List Nat), 1 ≤ D → f.size + D ≤ n → (∀ l ∈ ls, (pr l (rel l D) f).Sublist (lg l v0 k0) ∧ ∀ a ∈ A, (a :: pr l (rel l D) f).Sublist (lg l v0 k0)) →
    Good (bfOf (ls.map fun l => lg l v0 k0)) A f
  | .nil, _, _, _, _, _ => trivial
  | .cons v k r, D, A, hD, hsz, hs => by
    have nd : ∀ l, (lg l v0 k0).Nodup := fun l => (perm_lg l v0 k0).nodup_iff.mpr hn
    have hv : ∀ l, v ∈ pr l (rel l D) (.cons v k r) := fun l => (perm_pr l _ _).mem_iff.mpr (by simp [F.all])
    simp only [F.size] at hsz
    refine ⟨fun a ha => ?_, fun w hw => ?_, ?_, ?_⟩
    · unfold bfOf
      rw [List.any_map, List.any_eq_false]
      intro l hl
      have q : ([a, v] : List Nat).Sublist (lg l v0 k0) := (List.Sublist.cons_cons a (List.singleton_sublist.mpr (hv l))).trans ((hs l hl).2 a ha)
      simp only [Function.comp, decide_eq_true_eq]
      exact idx_not q (nd l)
    · have h2 : 1 ≤ r.size := by
        cases r with
        | nil => simp [F.tops] at hw
        | cons _ _ _ => simp [F.size]
      obtain ⟨l, hl, hd⟩ := ht D hD (by omega)
      unfold bfOf
      rw [List.any_map, List.any_eq_true]
      refine ⟨l, hl, ?_⟩
      have q : ([v, w] : List Nat).Sublist (lg l v0 k0) := (pr_sib ((rel_lt (h0 l hl) hD).mpr hd) hw).trans (hs l hl).1
      simp only [Function.comp, decide_eq_true_eq]
      exact idx_lt q (nd l)
    · refine good_logs ht h0 hn k (D + 1) (A ++ [v]) (by omega) (by omega) fun l hl => ?_
      have e := rel_succ (h0 l hl) hD
      have q := pr_kids l (rel l D) v k r
      rw [← e] at q
      refine ⟨((List.sublist_cons_self _ _).trans q).trans (hs l hl).1, fun a ha => ?_⟩
      rcases List.mem_append.mp ha with h | h
      · exact (List.Sublist.cons_cons a ((List.sublist_cons_self _ _).trans q)).trans ((hs l hl).2 a h)
      · rw [List.mem_singleton.mp h]
        exact q.trans (hs l hl).1
    · refine good_logs ht h0 hn r D A hD (by omega) fun l hl => ?_
      have q := pr_rest l (rel l D) v k r
      exact ⟨q.trans (hs l hl).1, fun a ha => (List.Sublist.cons_cons a q).trans ((hs l hl).2 a ha)⟩
theorem good_tree {ls : List Nat} {n v : Nat} {k : F} (ht : Tells ls n) (h0 : ∀ l ∈ ls, 0 < l) (hn : (v :: k.all).Nodup) (hz : k.size + 1 ≤ n) : Good (bfOf (ls.map fun l => lg l v k)) [] k := by
  refine good_logs ht h0 hn k 1 [] (Nat.le_refl _) hz fun l hl => ⟨?_, fun a ha => by simp at ha⟩
  rw [rel_one]
  exact List.sublist_cons_self _ _
/-- THE THEOREM: the forced tree of a tree's logs is the tree -/
theorem forced_tree {ls : List Nat} {n v : Nat} {k : F} (ht : Tells ls n) (h0 : ∀ l ∈ ls, 0 < l) (hn : (v :: k.all).Nodup) (hz : k.size + 1 ≤ n) :
    Has (forced (bfOf (ls.map fun l => lg l v k)) v (rp k)) (.cons v k .nil) := forced_good (good_tree ht h0 hn hz) hn
end SF
end

/-! SFm2 -/
section
set_option Elab.async false
set_option maxHeartbeats 4000000
/-! Mathematics, part 2: the forced tree is a tree whose log for limit 1 is the order; all trees with that log; trees as rows. -/
namespace SF

/-- the path to the node that came last in the log for limit 1 -/
def spine : F → List Nat
  | .nil => []
  | .cons v k _ => v :: spine k
/-- a new first child, below the j-th node of the spine -/
def insS : Nat → Nat → F → F
  | 0, x, f => .cons x .nil f
  | _ + 1, x, .nil => .cons x .nil .nil
  | j + 1, x, .cons v k r => .cons v (insS j x k) r
theorem rp_insS : ∀ (j x : Nat) (f : F), rp (insS j x f) = rp f ++ [x]
  | 0, x, f => by cases f <;> simp [insS, rp]
  | _ + 1, x, .nil => by simp [insS, rp]
  | j + 1, x, .cons v k r => by simp [insS, rp, rp_insS j x k]
theorem spine_insS : ∀ (j x : Nat) (f : F), j ≤ (spine f).length → spine (insS j x f) = (spine f).take j ++ [x]
  | 0, x, f, _ => by cases f <;> simp [insS, spine]
  | _ + 1, x, .nil, h => by simp [spine] at h
  | j + 1, x, .cons v k r, h => by
    simp only [spine, List.length_cons] at h
    simp [insS, spine, spine_insS j x k (by omega)]
theorem spine_all : ∀ (f : F) (x : Nat), x ∈ spine f → x ∈ f.all
  | .nil, x, h => by simp [spine] at h
  | .cons v k r, x, h => by
    simp only [spine, List.mem_cons] at h
    simp only [F.all, List.mem_cons, List.mem_append]
    rcases h with h | h
    · exact .inl h
    · exact .inr (.inl (spine_all k x h))
theorem spine_len : ∀ f : F, (spine f).length ≤ f.size
  | .nil => Nat.le_refl _
  | .cons v k r => by
    have := spine_len k
    simp only [spine, F.size, List.length_cons]
    omega
theorem lastOf_cons (p v : Nat) (l : List Nat) : lastOf p (v :: l) = lastOf v l := by
  unfold lastOf
  cases l with
  | nil => rfl
  | cons a r => rw [List.getLast?_cons_cons, List.getLast?_eq_some_getLast (by simp)]; rfl
theorem lastOf_mem (p : Nat) (l : List Nat) : lastOf p l = p ∨ lastOf p l ∈ l := by
  unfold lastOf
  cases l with
  | nil => exact .inl rfl
  | cons a r =>
    rw [List.getLast?_eq_some_getLast (by simp)]
    exact .inr (List.getLast_mem _)
theorem put_ne {g : G} {p x i : Nat} (h : i ≠ p) : put g p x i = g i := by unfold put; rw [if_neg h]
theorem put_at {g : G} {p x : Nat} : put g p x p = x :: g p := by unfold put; rw [if_pos rfl]
theorem has_insS (x : Nat) : ∀ (j : Nat) (f : F) (p : Nat) (g : G), j ≤ (spine f).length → g p = f.tops → Has g f → (p :: f.all).Nodup → x ∉ p :: f.all → g x = [] →
    put g (lastOf p ((spine f).take j)) x p = (insS j x f).tops ∧ Has (put g (lastOf p ((spine f).take j)) x) (insS j x f)
  | 0, f, p, g, _, h1, h2, hn, hx, h0 => by
    have hp := List.nodup_cons.mp hn
    have hxp : x ≠ p := fun e => hx (by simp [e])
    have e : lastOf p ((spine f).take 0) = p := rfl
    have ei : insS 0 x f = .cons x .nil f := by cases f <;> rfl
    rw [e, ei]
    refine ⟨by rw [put_at, h1]; rfl, by rw [put_ne hxp, h0]; rfl, trivial, h2.congr fun y hy => (put_ne fun q => hp.1 (by rw [← q]; exact hy)).symm⟩
  | j + 1, .nil, p, g, hj, _, _, _, _, _ => by simp [spine] at hj
  | j + 1, .cons v k r, p, g, hj, h1, ⟨h2, h3, h4⟩, hn, hx, h0 => by
    simp only [spine, List.length_cons] at hj
    simp only [F.all, List.nodup_cons, List.mem_cons, List.mem_append, not_or, List.nodup_append] at hn hx
    obtain ⟨⟨npv, npk, npr⟩, ⟨nvk, nvr⟩, nk, nrr, dis⟩ := hn
    obtain ⟨hxp, hxv, hxk, hxr⟩ := hx
    have e : lastOf p ((spine (.cons v k r)).take (j + 1)) = lastOf v ((spine k).take j) := by
      simp only [spine, List.take_succ_cons, lastOf_cons]
    rw [e]
    have ih := has_insS x j k v g (by omega) h2 h3 (List.nodup_cons.mpr ⟨nvk, nk⟩) (by simp [hxv, hxk]) h0
    have hq : ∀ y, y ≠ v → y ∉ k.all → y ≠ lastOf v ((spine k).take j) := fun y a b q => by
      rcases lastOf_mem v ((spine k).take j) with z | z
      · exact a (q.trans z)
      · exact b (by rw [q]; exact spine_all k _ (List.mem_of_mem_take z))
    refine ⟨?_, ih.1, ih.2, h4.congr fun y hy => (put_ne (hq y (fun q => nvr (by rw [← q]; exact hy)) fun q => dis y q y hy rfl)).symm⟩
    rw [put_ne (hq p npv npk), h1]
    rfl
theorem all_insS (x : Nat) : ∀ (j : Nat) (f : F), (insS j x f).all.Perm (x :: f.all)
  | 0, f => by cases f <;> simp [insS, F.all]
  | _ + 1, .nil => by simp [insS, F.all]
  | j + 1, .cons v k r => by
    simp only [insS, F.all]
    refine (List.Perm.cons v ((all_insS x j k).append_right r.all)).trans ?_
    exact List.Perm.swap ..
theorem size_insS (x : Nat) : ∀ (j : Nat) (f : F), (insS j x f).size = f.size + 1
  | 0, f => by cases f <;> simp [insS, F.size]
  | _ + 1, .nil => by simp [insS, F.size]
  | j + 1, .cons v k r => by
    simp only [insS, F.size, size_insS x j k]
    omega
theorem insS_inj (x : Nat) : ∀ (j j' : Nat) (k k' : F), x ∉ k.all → x ∉ k'.all → j ≤ (spine k).length → j' ≤ (spine k').length → insS j x k = insS j' x k' → j = j' ∧ k = k'
  | 0, 0, k, k', _, _, _, _, e => by
    have e1 : ∀ f, insS 0 x f = .cons x .nil f := fun f => by cases f <;> rfl
    rw [e1, e1] at e
    injection e with _ _ e
    exact ⟨rfl, e⟩
  | 0, j' + 1, k, .nil, _, _, _, h, _ => by simp [spine] at h
  | 0, j' + 1, k, .cons v kk r, _, hx, _, _, e => by
    have e1 : ∀ f, insS 0 x f = .cons x .nil f := fun f => by cases f <;> rfl
    rw [e1] at e
    injection e with e _ _
    exact absurd (by rw [e]; simp [F.all]) hx
  | j + 1, 0, .nil, k', _, _, h, _, _ => by simp [spine] at h
  | j + 1, 0, .cons v kk r, k', hx, _, _, _, e => by
    have e1 : ∀ f, insS 0 x f = .cons x .nil f := fun f => by cases f <;> rfl
    rw [e1] at e
    injection e with e _ _
    exact absurd (by rw [← e]; simp [F.all]) hx
  | j + 1, j' + 1, .nil, k', _, _, h, _, _ => by simp [spine] at h
  | j + 1, j' + 1, .cons v kk r, .nil, _, _, _, h, _ => by simp [spine] at h
  | j + 1, j' + 1, .cons v kk r, .cons v' kk' r', h1, h2, h3, h4, e => by
    simp only [insS] at e
    injection e with e1 e2 e3
    simp only [F.all, List.mem_cons, List.mem_append, not_or] at h1 h2
    simp only [spine, List.length_cons] at h3 h4
    obtain ⟨a, b⟩ := insS_inj x j j' kk kk' h1.2.1 h2.2.1 (by omega) (by omega) e2
    exact ⟨by omega, by rw [e1, b, e3]⟩

/-- one turn of the listing of all trees -/
def grow (fs : List F) (x : Nat) : List F := fs.flatMap fun k => (List.range ((spine k).length + 1)).map fun j => insS j x k
def allK (xs : List Nat) : List F := xs.foldl grow [.nil]
theorem mem_grow {fs : List F} {x : Nat} {k : F} : k ∈ grow fs x ↔ ∃ k0 ∈ fs, ∃ j, j ≤ (spine k0).length ∧ k = insS j x k0 := by
  unfold grow
  simp only [List.mem_flatMap, List.mem_map, List.mem_range]
  constructor
  · rintro ⟨k0, h, j, hj, e⟩
    exact ⟨k0, h, j, by omega, e.symm⟩
  · rintro ⟨k0, h, j, hj, e⟩
    exact ⟨k0, h, j, by omega, e.symm⟩
theorem grow_rp {fs : List F} {x : Nat} {done : List Nat} (h : ∀ k ∈ fs, rp k = done) : ∀ k ∈ grow fs x, rp k = done ++ [x] := fun k hk => by
  obtain ⟨k0, h0, j, _, e⟩ := mem_grow.mp hk
  rw [e, rp_insS, h k0 h0]
theorem foldl_grow_rp : ∀ (xs : List Nat) (fs : List F) (done : List Nat), (∀ k ∈ fs, rp k = done) → ∀ k ∈ xs.foldl grow fs, rp k = done ++ xs
  | [], fs, done, h => by simpa using h
  | x :: xs, fs, done, h => by
    have := foldl_grow_rp xs (grow fs x) (done ++ [x]) (grow_rp h)
    simpa using this
theorem allK_rp (xs : List Nat) : ∀ k ∈ allK xs, rp k = xs := by
  have := foldl_grow_rp xs [.nil] [] (by simp [rp])
  simpa [allK] using this
theorem nodup_flatMap_of {α β : Type} (f : α → List β) : ∀ (l : List α), l.Nodup → (∀ a ∈ l, (f a).Nodup) → (∀ a ∈ l, ∀ b ∈ l, a ≠ b → ∀ x ∈ f a, x ∉ f b) → (l.flatMap f).Nodup
  | [], _, _, _ => by simp
  | a :: l, hn, h1, h2 => by
    rw [List.flatMap_cons, List.nodup_append]
    have hn' := List.nodup_cons.mp hn
    refine ⟨h1 a (by simp), nodup_flatMap_of f l hn'.2 (fun b hb => h1 b (by simp [hb])) (fun b hb c hc => h2 b (by simp [hb]) c (by simp [hc])), ?_⟩
    intro x hx y hy e
    subst e
    obtain ⟨b, hb, hxb⟩ := List.mem_flatMap.mp hy
    exact h2 a (by simp) b (by simp [hb]) (fun e => hn'.1 (by rw [e]; exact hb)) x hx hxb
theorem nodup_map_of {α β : Type} (f : α → β) : ∀ (l : List α), l.Nodup → (∀ a ∈ l, ∀ b ∈ l, f a = f b → a = b) → (l.map f).Nodup
  | [], _, _ => by simp
  | a :: l, hn, h => by
    have hn' := List.nodup_cons.mp hn
    rw [List.map_cons, List.nodup_cons]
    refine ⟨fun q => ?_, nodup_map_of f l hn'.2 fun b hb c hc => h b (by simp [hb]) c (by simp [hc])⟩
    obtain ⟨b, hb, e⟩ := List.mem_map.mp q
    exact hn'.1 (by rw [← h b (by simp [hb]) a (by simp) e]; exact hb)
theorem grow_nodup {fs : List F} {x : Nat} (hn : fs.Nodup) (hx : ∀ k ∈ fs, x ∉ k.all) : (grow fs x).Nodup := by
  refine nodup_flatMap_of _ _ hn (fun k hk => ?_) fun k hk k' hk' hne y hy hy' => ?_
  · refine nodup_map_of _ _ List.nodup_range fun j hj j' hj' e => ?_
    rw [List.mem_range] at hj hj'
    exact (insS_inj x j j' k k (hx k hk) (hx k hk) (by omega) (by omega) e).1
  · obtain ⟨j, hj, e⟩ := List.mem_map.mp hy
    obtain ⟨j', hj', e'⟩ := List.mem_map.mp hy'
    rw [List.mem_range] at hj hj'
    exact hne (insS_inj x j j' k k' (hx k hk) (hx k' hk') (by omega) (by omega) (e.trans e'.symm)).2
theorem foldl_grow_nodup : ∀ (xs : List Nat) (fs : List F) (done : List Nat), (done ++ xs).Nodup → (∀ k ∈ fs, rp k = done) → fs.Nodup → (xs.foldl grow fs).Nodup
  | [], fs, done, _, _, h => h
  | x :: xs, fs, done, hd, h1, h2 => by
    refine foldl_grow_nodup xs (grow fs x) (done ++ [x]) (by simpa using hd) (grow_rp h1) (grow_nodup h2 fun k hk hx => ?_)
    have hx' : x ∈ done := by
      rw [← h1 k hk]
      exact (rp_perm k).mem_iff.mpr hx
    have := (List.nodup_append.mp hd).2.2 x hx' x (by simp)
    exact this rfl
theorem allK_nodup {xs : List Nat} (h : xs.Nodup) : (allK xs).Nodup := foldl_grow_nodup xs [.nil] [] (by simpa using h) (by simp [rp]) (by simp)

/-- what the turns keep: the path is the spine, the rows are the forest's, and the forest is among those listed -/
structure RunOk (x0 : Nat) (done : List Nat) (s : List Nat × G) (k : F) : Prop where
  path : s.1 = spine k
  ord : rp k = done
  has : Has s.2 (.cons x0 k .nil)
  out : ∀ x, x ∉ x0 :: done → s.2 x = []
theorem RunOk.mem {x0 : Nat} {done : List Nat} {s : List Nat × G} {k : F} (h : RunOk x0 done s k) (x : Nat) : x ∈ k.all ↔ x ∈ done := by
  rw [← h.ord]
  exact (rp_perm k).mem_iff.symm
theorem RunOk.step {bf : Nat → Nat → Bool} {x0 x : Nat} {done : List Nat} {s : List Nat × G} {k : F} (h : RunOk x0 done s k) (hn : (x0 :: (done ++ [x])).Nodup) :
    ∃ j, j ≤ (spine k).length ∧ RunOk x0 (done ++ [x]) (step bf x0 s x) (insS j x k) := by
  have hpre := List.takeWhile_prefix (p := fun c => !bf x c) (l := spine k)
  have hpl := hpre.length_le
  have htk := List.prefix_iff_eq_take.mp hpre
  refine ⟨((spine k).takeWhile fun c => !bf x c).length, hpl, ?_, ?_, ?_, ?_⟩
  · unfold SF.step
    rw [spine_insS _ _ _ hpl, h.path, ← htk]
  · rw [rp_insS, h.ord]
  · have hd : (x0 :: done).Nodup ∧ x ∉ x0 :: done := by
      have e : x0 :: (done ++ [x]) = (x0 :: done) ++ [x] := rfl
      rw [e, List.nodup_append] at hn
      exact ⟨hn.1, fun q => hn.2.2 x q x (by simp) rfl⟩
    have hka : (x0 :: k.all).Nodup := by
      have q : (x0 :: rp k).Perm (x0 :: k.all) := (rp_perm k).cons x0
      rw [h.ord] at q
      exact q.nodup_iff.mp hd.1
    have hxk : x ∉ x0 :: k.all := fun q => hd.2 (by
      rw [List.mem_cons] at q ⊢
      exact q.imp id (h.mem x).mp)
    have q := has_insS x _ k x0 s.2 hpl h.has.1 h.has.2.1 hka hxk (h.out x hd.2)
    unfold SF.step
    rw [h.path]
    rw [← htk] at q
    exact ⟨q.1, q.2, trivial⟩
  · intro y hy
    simp only [List.mem_cons, List.mem_append, not_or] at hy
    unfold SF.step
    have hq : y ≠ lastOf x0 (s.1.takeWhile fun c => !bf x c) := fun e => by
      rcases lastOf_mem x0 (s.1.takeWhile fun c => !bf x c) with z | z
      · exact hy.1 (e.trans z)
      · rw [h.path] at z
        exact hy.2.1 ((h.mem y).mp (spine_all k y (by rw [e]; rw [h.path]; exact hpre.subset z)))
    show put s.2 _ x y = []
    rw [put_ne hq]
    exact h.out y (by simp [hy.1, hy.2.1])
theorem RunOk.run {bf : Nat → Nat → Bool} {x0 : Nat} : ∀ (xs done : List Nat) (s : List Nat × G) (k : F) (fs : List F), RunOk x0 done s k → (x0 :: (done ++ xs)).Nodup → k ∈ fs →
    ∃ k', RunOk x0 (done ++ xs) (run bf x0 xs s) k' ∧ k' ∈ xs.foldl grow fs
  | [], done, s, k, fs, h, _, hm => ⟨k, by simpa [SF.run] using h, hm⟩
  | x :: xs, done, s, k, fs, h, hn, hm => by
    have hn' : (x0 :: (done ++ [x])).Nodup := by
      refine hn.sublist ?_
      refine List.Sublist.cons_cons _ (List.Sublist.append (List.Sublist.refl _) ?_)
      exact List.Sublist.cons_cons _ (List.nil_sublist _)
    obtain ⟨j, hj, h1⟩ := h.step (bf := bf) hn'
    obtain ⟨k', h2, h3⟩ := RunOk.run xs (done ++ [x]) _ _ (grow fs x) h1 (by simpa using hn) (mem_grow.mpr ⟨k, hm, j, hj, rfl⟩)
    exact ⟨k', by simpa [SF.run] using h2, h3⟩
theorem runOk_start (x0 : Nat) : RunOk x0 [] ([], fun _ => []) .nil := ⟨rfl, rfl, ⟨rfl, trivial, trivial⟩, fun _ _ => rfl⟩
/-- THE FORCED TREE is a tree with the order as its log for limit 1, and it is listed -/
theorem forced_is (bf : Nat → Nat → Bool) {x0 : Nat} {xs : List Nat} (hn : (x0 :: xs).Nodup) : ∃ k, k ∈ allK xs ∧ rp k = xs ∧ Has (forced bf x0 xs) (.cons x0 k .nil) := by
  obtain ⟨k, h1, h2⟩ := RunOk.run (bf := bf) xs [] _ _ [.nil] (runOk_start x0) (by simpa using hn) (by simp)
  exact ⟨k, h2, by simpa using h1.ord, h1.has⟩

/-! ### trees as rows -/
theorem Has.at_ {g g' : G} : ∀ {f : F}, Has g f → Has g' f → ∀ x ∈ f.all, g x = g' x
  | .nil, _, _, x, hx => by simp [F.all] at hx
  | .cons v k r, ⟨a1, a2, a3⟩, ⟨b1, b2, b3⟩, x, hx => by
    simp only [F.all, List.mem_cons, List.mem_append] at hx
    rcases hx with e | h | h
    · rw [e, a1, b1]
    · exact Has.at_ a2 b2 x h
    · exact Has.at_ a3 b3 x h
theorem Has.uniq {g : G} : ∀ {f f' : F}, f.tops = f'.tops → Has g f → Has g f' → f = f'
  | .nil, .nil, _, _, _ => rfl
  | .nil, .cons _ _ _, e, _, _ => by simp [F.tops] at e
  | .cons _ _ _, .nil, e, _, _ => by simp [F.tops] at e
  | .cons v k r, .cons v' k' r', e, ⟨a1, a2, a3⟩, ⟨b1, b2, b3⟩ => by
    simp only [F.tops, List.cons.injEq] at e
    obtain ⟨e1, e2⟩ := e
    subst e1
    have ek := Has.uniq (a1.symm.trans b1) a2 b2
    have er := Has.uniq e2 a3 b3
    rw [ek, er]
abbrev Tree := List (List Nat)
def gt (t : Tree) : G := fun i => t.getD i []
/-- t are the rows of the tree with root v and children k -/
structure Rep (t : Tree) (v : Nat) (k : F) : Prop where
  has : Has (gt t) (.cons v k .nil)
  perm : (v :: k.all).Perm (List.range t.length)
def arr (n : Nat) (g : G) : Tree := (List.range n).map g
theorem arr_len (n : Nat) (g : G) : (arr n g).length = n := by simp [arr]
theorem gt_arr {n : Nat} {g : G} {i : Nat} (h : i < n) : gt (arr n g) i = g i := by
  unfold gt arr
  rw [List.getD_eq_getElem?_getD, List.getElem?_map, List.getElem?_range h]
  rfl
theorem Rep.nodup {t : Tree} {v : Nat} {k : F} (h : Rep t v k) : (v :: k.all).Nodup := h.perm.nodup_iff.mpr List.nodup_range
theorem Rep.mem {t : Tree} {v : Nat} {k : F} (h : Rep t v k) (x : Nat) : x ∈ v :: k.all ↔ x < t.length := by
  rw [h.perm.mem_iff, List.mem_range]
theorem Rep.size {t : Tree} {v : Nat} {k : F} (h : Rep t v k) : k.size + 1 = t.length := by
  have := h.perm.length_eq
  rw [List.length_range, List.length_cons, F.all_length] at this
  exact this
theorem rep_arr {n : Nat} {g : G} {v : Nat} {k : F} (h : Has g (.cons v k .nil)) (hp : (v :: k.all).Perm (List.range n)) : Rep (arr n g) v k := by
  refine ⟨h.congr fun x hx => (gt_arr ?_).symm, by rw [arr_len]; exact hp⟩
  have : x ∈ v :: k.all := by simpa [F.all] using hx
  rw [hp.mem_iff, List.mem_range] at this
  exact this
theorem Rep.ext {t t' : Tree} {v : Nat} {k : F} (h : Rep t v k) (h' : Rep t' v k) : t = t' := by
  have hl : t.length = t'.length := by rw [← h.size, ← h'.size]
  refine List.ext_getElem? fun i => ?_
  by_cases hi : i < t.length
  · have e := h.has.at_ h'.has i (by
      have := (h.mem i).mpr hi
      simpa [F.all] using this)
    unfold gt at e
    rw [List.getD_eq_getElem?_getD, List.getD_eq_getElem?_getD, List.getElem?_eq_getElem hi, List.getElem?_eq_getElem (by omega)] at e
    rw [List.getElem?_eq_getElem hi, List.getElem?_eq_getElem (by omega)]
    exact congrArg some e
  · rw [List.getElem?_eq_none (by omega), List.getElem?_eq_none (by omega)]
theorem Rep.uniq {t : Tree} {v : Nat} {k k' : F} (h : Rep t v k) (h' : Rep t v k') : k = k' :=
  Has.uniq (h.has.1.symm.trans h'.has.1) h.has.2.1 h'.has.2.1
theorem Rep.arr_eq {t : Tree} {v : Nat} {k : F} {g : G} (h : Rep t v k) (hg : Has g (.cons v k .nil)) : arr t.length g = t :=
  (rep_arr hg h.perm).ext h
/-- the rows of a tree -/
def gof (v : Nat) (k : F) : G := addF k v fun _ => []
theorem has_gof {v : Nat} {k : F} (hn : (v :: k.all).Nodup) : Has (gof v k) (.cons v k .nil) := by
  have hn' := List.nodup_cons.mp hn
  exact ⟨by unfold gof; rw [addF_at k v _ hn'.1 hn'.2, List.append_nil], addF_has k v _ hn'.1 hn'.2 fun _ _ => rfl, trivial⟩
end SF
end

/-! SFm3 -/
section
set_option Elab.async false
set_option maxHeartbeats 4000000
/-! Mathematics, part 3: pairs of limit and log, the forced tree of pairs, which listed trees have all logs. -/
namespace SF

abbrev Pairs := List (Nat × List Nat)
/-- the order: the log for limit 1, or the first one -/
def ordOf (ps : Pairs) : List Nat := ((ps.filter fun p => p.1 == 1).map (·.2) ++ (ps.map (·.2)).take 1).headD []
/-- the forced tree of pairs -/
def FT (ps : Pairs) : Tree := arr (ordOf ps).length (forced (bfOf (ps.map (·.2))) ((ordOf ps).headD 0) ((ordOf ps).drop 1))
/-- pairs that are logs of one size: permutations -/
structure Perms (ps : Pairs) (n : Nat) : Prop where
  ne : ps ≠ []
  pos : 1 ≤ n
  perm : ∀ p ∈ ps, p.2.Perm (List.range n)
theorem Perms.ord {ps : Pairs} {n : Nat} (h : Perms ps n) : ∃ p ∈ ps, ordOf ps = p.2 := by
  unfold ordOf
  cases e : ps.filter (fun p => p.1 == 1) with
  | nil =>
    cases ps with
    | nil => exact absurd rfl h.ne
    | cons p r => exact ⟨p, by simp, by simp⟩
  | cons p r =>
    have hp : p ∈ ps := (List.mem_filter.mp (by rw [e]; simp : p ∈ ps.filter fun p => p.1 == 1)).1
    exact ⟨p, hp, by simp⟩
theorem Perms.ordPerm {ps : Pairs} {n : Nat} (h : Perms ps n) : (ordOf ps).Perm (List.range n) := by
  obtain ⟨p, hp, e⟩ := h.ord
  rw [e]
  exact h.perm p hp
theorem Perms.ordLen {ps : Pairs} {n : Nat} (h : Perms ps n) : (ordOf ps).length = n := by
  have := h.ordPerm.length_eq
  simpa using this
theorem Perms.ordCons {ps : Pairs} {n : Nat} (h : Perms ps n) : ordOf ps = (ordOf ps).headD 0 :: (ordOf ps).drop 1 := by
  have hl := h.ordLen
  have hp := h.pos
  cases e : ordOf ps with
  | nil => rw [e] at hl; simp at hl; omega
  | cons x r => rfl
theorem ordOf_one {ps : Pairs} {p : Nat × List Nat} (hp : p ∈ ps) (h1 : p.1 = 1) : ∃ q ∈ ps, q.1 = 1 ∧ ordOf ps = q.2 := by
  unfold ordOf
  cases e : ps.filter (fun p => p.1 == 1) with
  | nil =>
    have : p ∈ ps.filter fun p => p.1 == 1 := List.mem_filter.mpr ⟨hp, by simp [h1]⟩
    rw [e] at this
    simp at this
  | cons q r =>
    have hq := List.mem_filter.mp (by rw [e]; simp : q ∈ ps.filter fun p => p.1 == 1)
    exact ⟨q, hq.1, by simpa using hq.2, by simp⟩
theorem ft_is {ps : Pairs} {n : Nat} (h : Perms ps n) : ∃ k, k ∈ allK ((ordOf ps).drop 1) ∧ rp k = (ordOf ps).drop 1 ∧ Rep (FT ps) ((ordOf ps).headD 0) k ∧ (FT ps).length = n := by
  have hc := h.ordCons
  have hp := h.ordPerm
  have hl := h.ordLen
  generalize ex : (ordOf ps).headD 0 = x at hc ⊢
  generalize exs : (ordOf ps).drop 1 = xs at hc ⊢
  have hn : (x :: xs).Nodup := by
    rw [← hc]
    exact hp.nodup_iff.mpr List.nodup_range
  obtain ⟨k, h1, h2, h3⟩ := forced_is (bfOf (ps.map (·.2))) hn
  refine ⟨k, h1, h2, ?_, by unfold FT; rw [arr_len, hl]⟩
  unfold FT
  rw [ex, exs, hl]
  refine rep_arr h3 ?_
  refine ((rp_perm k).symm.cons x).trans ?_
  rw [h2, ← hc]
  exact hp

/-! ### of a tree's own logs -/
def logsOf (ls : List Nat) (v : Nat) (k : F) : Pairs := ls.map fun l => (l, lg l v k)
/-- the limits determine the size -/
structure Det (ls : List Nat) (n : Nat) : Prop where
  ne : ls ≠ []
  pos : ∀ l ∈ ls, 0 < l
  tell : n < 3 ∨ (1 ∈ ls ∧ Tells ls n)
theorem Det.tells {ls : List Nat} {n : Nat} (h : Det ls n) : Tells ls n := by
  rcases h.tell with q | q
  · intro D h1 h2
    omega
  · exact q.2
theorem lg_small {l v : Nat} (hl : 0 < l) {k : F} (h : k.size ≤ 1) : lg l v k = v :: rp k := by
  cases k with
  | nil => rfl
  | cons w kk r =>
    simp only [F.size] at h
    have e1 : kk = .nil := by
      cases kk with
      | nil => rfl
      | cons _ _ _ => simp only [F.size] at h; omega
    have e2 : r = .nil := by
      cases r with
      | nil => rfl
      | cons _ _ _ => simp only [F.size] at h; omega
    subst e1 e2
    unfold lg
    simp only [nr, fr, rp]
    by_cases h1 : 1 < l
    · simp [h1]
    · simp [h1]
theorem ord_logs {ls : List Nat} {n v : Nat} {k : F} (hd : Det ls n) (hz : k.size + 1 = n) : ordOf (logsOf ls v k) = v :: rp k := by
  rcases hd.tell with h3 | ⟨h1, _⟩
  · have all : ∀ p ∈ logsOf ls v k, p.2 = v :: rp k := fun p hp => by
      obtain ⟨l, hl, e⟩ := List.mem_map.mp hp
      rw [← e]
      exact lg_small (hd.pos l hl) (by omega)
    unfold ordOf
    cases e : (logsOf ls v k).filter (fun p => p.1 == 1) with
    | nil =>
      cases e2 : logsOf ls v k with
      | nil =>
        unfold logsOf at e2
        rw [List.map_eq_nil_iff] at e2
        exact absurd e2 hd.ne
      | cons p r =>
        have := all p (by rw [e2]; simp)
        simpa using this
    | cons p r =>
      have hp := (List.mem_filter.mp (by rw [e]; simp : p ∈ (logsOf ls v k).filter fun p => p.1 == 1)).1
      have := all p hp
      simpa using this
  · obtain ⟨q, hq, hq1, e⟩ := ordOf_one (ps := logsOf ls v k) (p := (1, lg 1 v k)) (List.mem_map.mpr ⟨1, h1, rfl⟩) rfl
    obtain ⟨l, hl, e2⟩ := List.mem_map.mp hq
    rw [e, ← e2]
    rw [← e2] at hq1
    have hl1 : l = 1 := hq1
    rw [hl1, lg_one]
theorem logs_perms {ls : List Nat} {n v : Nat} {k : F} (hne : ls ≠ []) {t : Tree} (hr : Rep t v k) (hn : t.length = n) : Perms (logsOf ls v k) n := by
  refine ⟨fun e => hne (List.map_eq_nil_iff.mp e), by rw [← hn, ← hr.size]; omega, fun p hp => ?_⟩
  obtain ⟨l, _, e⟩ := List.mem_map.mp hp
  rw [← e, ← hn]
  exact (perm_lg l v k).trans hr.perm
/-- THE THEOREM: of the logs of a tree the forced tree is just that tree -/
theorem ft_own {ls : List Nat} {v : Nat} {k : F} {t : Tree} (hr : Rep t v k) (hd : Det ls t.length) : FT (logsOf ls v k) = t := by
  have e := ord_logs (v := v) hd hr.size
  unfold FT
  have e2 : (logsOf ls v k).map (·.2) = ls.map fun l => lg l v k := by
    unfold logsOf
    rw [List.map_map]
    rfl
  rw [e, e2]
  have hl : (v :: rp k).length = t.length := by
    have := (((rp_perm k).cons v).trans hr.perm).length_eq
    simpa using this
  rw [hl]
  exact hr.arr_eq (forced_tree hd.tells hd.pos hr.nodup (by rw [hr.size]; exact Nat.le_refl _))

/-! ### which trees have all logs -/
def hasAll (ps : Pairs) (v : Nat) (k : F) : Bool := ps.all fun p => lg p.1 v k == p.2
theorem hasAll_logs {ps : Pairs} {v : Nat} {k : F} (h : hasAll ps v k = true) : ps = logsOf (ps.map (·.1)) v k := by
  unfold hasAll at h
  rw [List.all_eq_true] at h
  unfold logsOf
  rw [List.map_map]
  have : ps.map ((fun l => (l, lg l v k)) ∘ fun p => p.1) = ps.map id := by
    refine List.map_congr_left fun p hp => ?_
    have e := h p hp
    simp only [beq_iff_eq] at e
    simp only [Function.comp, id, e]
  rw [this, List.map_id]
theorem rep_listed {ps : Pairs} {n : Nat} (h : Perms ps n) {k : F} (hk : rp k = (ordOf ps).drop 1) : Rep (arr n (gof ((ordOf ps).headD 0) k)) ((ordOf ps).headD 0) k := by
  have hp : ((ordOf ps).headD 0 :: k.all).Perm (List.range n) := by
    refine ((rp_perm k).symm.cons _).trans ?_
    rw [hk, ← h.ordCons]
    exact h.ordPerm
  exact rep_arr (has_gof (hp.nodup_iff.mpr List.nodup_range)) hp
theorem only_forced {ps : Pairs} {n : Nat} (h : Perms ps n) (hd : Det (ps.map (·.1)) n) {kF k : F} (hF : Rep (FT ps) ((ordOf ps).headD 0) kF) (hk : rp k = (ordOf ps).drop 1) (ha : hasAll ps ((ordOf ps).headD 0) k = true) : k = kF := by
  have hr := rep_listed h hk
  have e := hasAll_logs ha
  have q := ft_own hr (ls := ps.map (·.1)) (by rw [arr_len]; exact hd)
  rw [← e] at q
  rw [← q] at hr
  exact hr.uniq hF
theorem filter_one {α : Type} [DecidableEq α] {p : α → Bool} {x : α} : ∀ {l : List α}, l.Nodup → x ∈ l → (∀ y ∈ l, p y = true → y = x) → l.filter p = if p x = true then [x] else []
  | [], _, h, _ => by simp at h
  | a :: l, hn, hm, ho => by
    have hn' := List.nodup_cons.mp hn
    have none : ∀ l' : List α, (∀ y ∈ l', p y = true → y = x) → x ∉ l' → l'.filter p = [] := fun l' h1 h2 => by
      rw [List.filter_eq_nil_iff]
      intro y hy q
      exact h2 (by rw [← h1 y hy q]; exact hy)
    by_cases e : x = a
    · subst e
      rw [List.filter_cons, none l (fun y hy => ho y (by simp [hy])) hn'.1]
    · have hm' : x ∈ l := by
        rcases List.mem_cons.mp hm with q | q
        · exact absurd q e
        · exact q
      rw [List.filter_cons, filter_one hn'.2 hm' fun y hy => ho y (by simp [hy])]
      have : p a = false := by
        cases q : p a with
        | false => rfl
        | true => exact absurd (ho a (by simp) q).symm e
      rw [this]
      rfl
theorem having_is {ps : Pairs} {n : Nat} (h : Perms ps n) (hd : Det (ps.map (·.1)) n) {kF : F} (hF : Rep (FT ps) ((ordOf ps).headD 0) kF) (hm : kF ∈ allK ((ordOf ps).drop 1)) :
    (allK ((ordOf ps).drop 1)).filter (hasAll ps ((ordOf ps).headD 0)) = if hasAll ps ((ordOf ps).headD 0) kF = true then [kF] else [] := by
  have hn : ((ordOf ps).drop 1).Nodup := by
    have := h.ordPerm.nodup_iff.mpr List.nodup_range
    rw [h.ordCons] at this
    exact (List.nodup_cons.mp this).2
  exact filter_one (allK_nodup hn) hm fun k hk ha => only_forced h hd hF (allK_rp _ k hk) ha

/-! ### the least common multiple -/
def lcmL : List Nat → Nat → Nat
  | [], m => m
  | l :: ls, m => lcmL ls (m * l / Nat.gcd m l)
theorem lcmL_dvd : ∀ (ls : List Nat) (m : Nat), m ∣ lcmL ls m ∧ ∀ l ∈ ls, l ∣ lcmL ls m
  | [], m => ⟨Nat.dvd_refl m, fun l h => by simp at h⟩
  | l :: ls, m => by
    obtain ⟨h1, h2⟩ := lcmL_dvd ls (m * l / Nat.gcd m l)
    have e : m * l / Nat.gcd m l = Nat.lcm m l := rfl
    refine ⟨Nat.dvd_trans (by rw [e]; exact Nat.dvd_lcm_left m l) h1, fun x hx => ?_⟩
    rcases List.mem_cons.mp hx with q | q
    · rw [q]
      exact Nat.dvd_trans (by rw [e]; exact Nat.dvd_lcm_right m l) h1
    · exact h2 x q
theorem lcmL_pos : ∀ (ls : List Nat) (m : Nat), 0 < m → (∀ l ∈ ls, 0 < l) → 0 < lcmL ls m
  | [], m, h, _ => h
  | l :: ls, m, h, hl => lcmL_pos ls _ (Nat.lcm_pos h (hl l (by simp))) fun x hx => hl x (by simp [hx])
theorem lcm_big {ls : List Nat} {n : Nat} (h0 : ∀ l ∈ ls, 0 < l) (ht : Tells ls n) : n ≤ lcmL ls 1 + 1 := by
  refine Nat.le_of_not_lt fun q => ?_
  have hp := lcmL_pos ls 1 (by omega) h0
  obtain ⟨l, hl, hd⟩ := ht (lcmL ls 1) (by omega) (by omega)
  exact hd ((lcmL_dvd ls 1).2 l hl)
theorem lcmL_bound : ∀ (ls : List Nat) (m B : Nat), (∀ l ∈ ls, l < 2 ^ B) → lcmL ls m ≤ m * 2 ^ (B * ls.length)
  | [], m, B, _ => by simp [lcmL]
  | l :: ls, m, B, h => by
    have h1 := lcmL_bound ls (m * l / Nat.gcd m l) B fun x hx => h x (by simp [hx])
    have h2 : m * l / Nat.gcd m l ≤ m * 2 ^ B := Nat.le_trans (Nat.div_le_self _ _) (Nat.mul_le_mul_left m (Nat.le_of_lt (h l (by simp))))
    refine Nat.le_trans h1 ?_
    rw [List.length_cons, Nat.mul_add, Nat.mul_one, Nat.pow_add]
    refine Nat.le_trans (Nat.mul_le_mul_right _ h2) ?_
    rw [Nat.mul_assoc, Nat.mul_comm (2 ^ B)]
    exact Nat.le_refl _

/-! ### stacks: how both programs make the log -/
/-- the single trees of a forest -/
def F.trees : F → List (Nat × F)
  | .nil => []
  | .cons v k r => (v, k) :: r.trees
theorem F.trees_fst : ∀ f : F, f.trees.map (·.1) = f.tops
  | .nil => rfl
  | .cons v k r => by simp [F.trees, F.tops, F.trees_fst r]
def sizeW (W : List (Nat × F)) : Nat := (W.map fun p => p.2.size + 1).sum
theorem sizeW_trees : ∀ f : F, sizeW f.trees = f.size
  | .nil => rfl
  | .cons v k r => by
    have := sizeW_trees r
    unfold sizeW at this ⊢
    simp only [F.trees, F.size, List.map_cons, List.sum_cons, this]
    omega
theorem sizeW_append (a b : List (Nat × F)) : sizeW (a ++ b) = sizeW a + sizeW b := by simp [sizeW]
/-- entries that wait, the top first: label, children, depth -/
abbrev Wt := List (Nat × F × Nat)
def nrW (l : Nat) (W : Wt) : List Nat := W.flatMap fun e => if e.2.2 < l then e.1 :: nr l (e.2.2 + 1) e.2.1 else []
def frW (l : Nat) : Wt → List Nat
  | [] => []
  | e :: W => frW l W ++ (if e.2.2 < l then fr l (e.2.2 + 1) e.2.1 else lg l e.1 e.2.1)
def lgS (l : Nat) (S : List (Nat × F)) : List Nat := S.flatMap fun e => lg l e.1 e.2
def atD (d : Nat) (S : List (Nat × F)) : Wt := S.map fun e => (e.1, e.2, d)
theorem nrW_trees (l d : Nat) : ∀ (f : F) (W : Wt), nrW l (atD d f.trees ++ W) = nr l d f ++ nrW l W
  | .nil, W => rfl
  | .cons v k r, W => by
    have ih := nrW_trees l d r W
    unfold nrW at ih ⊢
    simp only [F.trees, atD, List.map_cons, List.cons_append, List.flatMap_cons, nr] at ih ⊢
    rw [ih]
    by_cases h : d < l
    · simp [h]
    · simp [h, nr_far h]
theorem frW_trees (l d : Nat) : ∀ (f : F) (W : Wt), frW l (atD d f.trees ++ W) = frW l W ++ fr l d f
  | .nil, W => by simp [F.trees, atD, fr]
  | .cons v k r, W => by
    have ih := frW_trees l d r W
    unfold atD at ih ⊢
    simp only [F.trees, List.map_cons, List.cons_append, frW, fr, ih, lg]
    rw [List.append_assoc]
/-- what goes to the shelf, in that order -/
def fa (l : Nat) : Nat → F → List (Nat × F)
  | _, .nil => []
  | d, .cons v k r => (if d < l then fa l (d + 1) k else [(v, k)]) ++ fa l d r
theorem lgS_fa (l : Nat) : ∀ (f : F) (d : Nat), lgS l (fa l d f).reverse = fr l d f
  | .nil, d => rfl
  | .cons v k r, d => by
    have i1 := lgS_fa l r d
    have i2 := lgS_fa l k (d + 1)
    unfold lgS at i1 i2 ⊢
    simp only [fa, fr]
    by_cases h : d < l
    · simp only [if_pos h, List.reverse_append, List.flatMap_append, i1, i2]
    · simp only [if_neg h, List.reverse_append, List.flatMap_append, i1]
      simp [lg]
theorem lgS_append (l : Nat) (a b : List (Nat × F)) : lgS l (a ++ b) = lgS l a ++ lgS l b := by simp [lgS]
theorem lgS_cons (l v : Nat) (k : F) (S : List (Nat × F)) : lgS l ((v, k) :: S) = lg l v k ++ lgS l S := by simp [lgS]
theorem sizeW_fa (l : Nat) : ∀ (f : F) (d : Nat), sizeW (fa l d f) ≤ f.size
  | .nil, d => Nat.le_refl _
  | .cons v k r, d => by
    have i1 := sizeW_fa l r d
    have i2 := sizeW_fa l k (d + 1)
    simp only [fa, F.size]
    rw [sizeW_append]
    by_cases h : d < l
    · simp only [if_pos h]
      omega
    · simp only [if_neg h]
      have : sizeW [(v, k)] = k.size + 1 := by simp [sizeW]
      omega

/-! ### where two logs differ first -/
def fdiff (a b : List Nat) : Nat := (List.zipWith (fun x y => decide (x = y)) a b).idxOf false
end SF
end

/-! SFm4 -/
section
set_option Elab.async false
set_option maxHeartbeats 4000000
/-! Mathematics, part 4: the root by the rows, the log of rows, valid pairs, what tree_from_logs answers. -/
namespace SF

/-- the rows of a forest's nodes, one behind the other, with its own tops: all its nodes -/
theorem rows_perm {g : G} : ∀ {f : F}, Has g f → (f.tops ++ f.all.flatMap g).Perm f.all
  | .nil, _ => by simp [F.tops, F.all]
  | .cons v k r, ⟨h1, h2, h3⟩ => by
    have ik := rows_perm h2
    have ir := rows_perm h3
    simp only [F.tops, F.all, List.flatMap_cons, List.flatMap_append, h1, List.cons_append]
    refine List.Perm.cons v ?_
    have e1 : (r.tops ++ (k.tops ++ (k.all.flatMap g ++ r.all.flatMap g))).Perm ((k.tops ++ k.all.flatMap g) ++ (r.tops ++ r.all.flatMap g)) := by
      rw [← List.append_assoc k.tops]
      rw [← List.append_assoc r.tops]
      refine (List.perm_append_comm.append_right _).trans ?_
      rw [List.append_assoc]
    exact e1.trans (ik.append ir)
theorem arr_gt (t : Tree) : arr t.length (gt t) = t := by
  refine List.ext_getElem? fun i => ?_
  unfold arr gt
  by_cases h : i < t.length
  · rw [List.getElem?_map, List.getElem?_range h, List.getElem?_eq_getElem h]
    simp [List.getD_eq_getElem?_getD, List.getElem?_eq_getElem h]
  · rw [List.getElem?_eq_none (by simpa using h), List.getElem?_eq_none (by omega)]
theorem flatten_eq (t : Tree) : t.flatten = (List.range t.length).flatMap (gt t) := by
  have e := arr_gt t
  unfold arr at e
  rw [List.flatMap_def, e]
theorem Rep.flat {t : Tree} {v : Nat} {k : F} (h : Rep t v k) : t.flatten.Perm k.all := by
  rw [flatten_eq]
  have h1 : ((List.range t.length).flatMap (gt t)).Perm ((v :: k.all).flatMap (gt t)) := (List.Perm.flatMap_right _ h.perm).symm
  refine h1.trans ?_
  rw [List.flatMap_cons, h.has.1]
  exact rows_perm h.has.2.1
theorem Rep.count {t : Tree} {v : Nat} {k : F} (h : Rep t v k) {i : Nat} (hi : i < t.length) : t.flatten.count i = if i = v then 0 else 1 := by
  rw [h.flat.count_eq]
  have hn := List.nodup_cons.mp h.nodup
  by_cases e : i = v
  · rw [if_pos e, e]
    exact List.count_eq_zero.mpr hn.1
  · rw [if_neg e]
    have hm : i ∈ k.all := by
      have := (h.mem i).mpr hi
      simpa [e] using this
    exact hn.2.count.trans (if_pos hm)
theorem Rep.root_lt {t : Tree} {v : Nat} {k : F} (h : Rep t v k) : v < t.length := (h.mem v).mp (by simp)
theorem Rep.root_eq {t : Tree} {v v' : Nat} {k k' : F} (h : Rep t v k) (h' : Rep t v' k') : v = v' := by
  have c := h.count h'.root_lt
  rw [h'.count h'.root_lt, if_pos rfl] at c
  by_cases e : v' = v
  · exact e.symm
  · rw [if_neg e] at c
    omega
theorem Rep.row_lt {t : Tree} {v : Nat} {k : F} (h : Rep t v k) : ∀ l ∈ t, ∀ x ∈ l, x < t.length := fun l hl x hx => by
  have hm : x ∈ k.all := h.flat.mem_iff.mp (List.mem_flatten.mpr ⟨l, hl, hx⟩)
  exact (h.mem x).mp (by simp [hm])
theorem Rep.row_len {t : Tree} {v : Nat} {k : F} (h : Rep t v k) : ∀ l ∈ t, l.length ≤ t.length := fun l hl => by
  have h1 : l.length ≤ t.flatten.length := by
    obtain ⟨a, b, e⟩ := List.append_of_mem hl
    rw [e]
    simp
    omega
  have h2 := h.flat.length_eq
  rw [F.all_length] at h2
  have := h.size
  omega

/-- the root and the children's forest of rows -/
noncomputable def kOf (t : Tree) : Nat × F := open Classical in if h : ∃ p : Nat × F, Rep t p.1 p.2 then Classical.choose h else (0, .nil)
theorem kOf_eq {t : Tree} {v : Nat} {k : F} (h : Rep t v k) : kOf t = (v, k) := by
  have ex : ∃ p : Nat × F, Rep t p.1 p.2 := ⟨(v, k), h⟩
  unfold kOf
  rw [dif_pos ex]
  have q := Classical.choose_spec ex
  generalize Classical.choose ex = p at q
  obtain ⟨v', k'⟩ := p
  have e1 := q.root_eq h
  subst e1
  have e2 : k' = k := q.uniq h
  rw [e2]
noncomputable def logT (l : Nat) (t : Tree) : List Nat := lg l (kOf t).1 (kOf t).2
theorem logT_eq {t : Tree} {v : Nat} {k : F} (h : Rep t v k) (l : Nat) : logT l t = lg l v k := by
  unfold logT
  rw [kOf_eq h]
theorem logT_perm {t : Tree} {v : Nat} {k : F} (h : Rep t v k) (l : Nat) : (logT l t).Perm (List.range t.length) := by
  rw [logT_eq h]
  exact (perm_lg l v k).trans h.perm

/-! ### valid pairs -/
structure Valid (ps : Pairs) (n : Nat) : Prop where
  perms : Perms ps n
  few : ps.length ≤ 20
  diff : (ps.map (·.1)).Nodup
  lim : ∀ p ∈ ps, 1 ≤ p.1 ∧ p.1 ≤ 10 ^ 30
  size : n ≤ 40
  det : Det (ps.map (·.1)) n
theorem Valid.rep {ps : Pairs} {n : Nat} (h : Valid ps n) : ∃ v k, Rep (FT ps) v k ∧ (FT ps).length = n :=
  let ⟨k, _, _, r, e⟩ := ft_is h.perms
  ⟨_, k, r, e⟩
/-- what tree_from_logs answers -/
inductive Res where
  | tree (t : Tree)
  | none (l pos : Nat)
noncomputable def resOf (ps : Pairs) : Res := match ps.find? (fun p => !decide (logT p.1 (FT ps) = p.2)) with
  | Option.none => .tree (FT ps)
  | some p => .none p.1 (fdiff (logT p.1 (FT ps)) p.2)
theorem res_own {ls : List Nat} {v : Nat} {k : F} {t : Tree} (hr : Rep t v k) (hd : Det ls t.length) : resOf (logsOf ls v k) = .tree t := by
  unfold resOf
  rw [ft_own hr hd]
  have : (logsOf ls v k).find? (fun p => !decide (logT p.1 t = p.2)) = Option.none := by
    rw [List.find?_eq_none]
    intro p hp
    obtain ⟨l, _, e⟩ := List.mem_map.mp hp
    rw [← e, logT_eq hr]
    simp
  rw [this]

/-! ### the lists of places -/
def spots (n : Nat) (l : List Nat) : List Nat := (List.range n).map fun i => l.idxOf i
theorem spots_len (n : Nat) (l : List Nat) : (spots n l).length = n := by simp [spots]
theorem spots_at {n i : Nat} {l : List Nat} (h : i < n) : (spots n l)[i]? = some (l.idxOf i) := by
  unfold spots
  rw [List.getElem?_map, List.getElem?_range h]
  rfl

theorem perm_lt {l : List Nat} {n x : Nat} (h : l.Perm (List.range n)) (hx : x ∈ l) : x < n := by
  rw [h.mem_iff, List.mem_range] at hx
  exact hx
theorem perm_len {l : List Nat} {n : Nat} (h : l.Perm (List.range n)) : l.length = n := by
  have := h.length_eq
  simpa using this
theorem perm_nodup {l : List Nat} {n : Nat} (h : l.Perm (List.range n)) : l.Nodup := h.nodup_iff.mpr List.nodup_range
theorem idx_before {α : Type} [BEq α] [LawfulBEq α] {a z : α} : ∀ (l : List α) {m : Nat}, m < l.idxOf a → l[m]? = some z → z ≠ a
  | [], _, _, h => by simp at h
  | x :: l, m, hm, h => by
    rw [List.idxOf_cons] at hm
    cases e : x == a with
    | true => rw [e] at hm; simp at hm
    | false =>
      rw [e] at hm
      simp only [cond_false] at hm
      cases m with
      | zero =>
        have : x = z := by simpa using h
        rw [← this]
        exact beq_eq_false_iff_ne.mp e
      | succ m => exact idx_before (m := m) l (by omega) (by simpa using h)
theorem fdiff_lt {a b : List Nat} (hl : a.length = b.length) (hne : a ≠ b) : fdiff a b < a.length ∧ (List.zipWith (fun x y => decide (x = y)) a b)[fdiff a b]? = some false ∧
    ∀ m, m < fdiff a b → ∀ z, (List.zipWith (fun x y => decide (x = y)) a b)[m]? = some z → z = true := by
  have hmem : false ∈ List.zipWith (fun x y => decide (x = y)) a b := by
    refine Classical.byContradiction fun q => hne ?_
    clear hne
    induction a generalizing b with
    | nil => cases b with
      | nil => rfl
      | cons _ _ => simp at hl
    | cons x a ih =>
      cases b with
      | nil => simp at hl
      | cons y b =>
        simp only [List.zipWith_cons_cons, List.mem_cons, not_or] at q
        have e1 : x = y := by
          have := q.1
          simpa using this
        rw [e1, ih (by simpa using hl) q.2]
  have h1 : fdiff a b < (List.zipWith (fun x y => decide (x = y)) a b).length := List.idxOf_lt_length_of_mem hmem
  refine ⟨by rw [List.length_zipWith] at h1; omega, ?_, fun m hm z hz => ?_⟩
  · rw [List.getElem?_eq_getElem h1]
    exact congrArg some (List.getElem_idxOf h1)
  · cases z with
    | true => rfl
    | false => exact absurd rfl (idx_before _ hm hz)
end SF
end

/-! SFm5 -/
section
set_option Elab.async false
set_option linter.all false
set_option maxHeartbeats 4000000
/-! Mathematics, part 5: a new leaf below a node, and new names for all nodes. -/
namespace SF

/-- a leaf among siblings -/
def insAt (x : Nat) : Nat → F → F
  | 0, f => .cons x .nil f
  | _ + 1, .nil => .cons x .nil .nil
  | p + 1, .cons v k r => .cons v k (insAt x p r)
theorem tops_insAt (x : Nat) : ∀ (p : Nat) (f : F), (insAt x p f).tops = f.tops.take p ++ [x] ++ f.tops.drop p
  | 0, f => by cases f <;> simp [insAt, F.tops]
  | _ + 1, .nil => by simp [insAt, F.tops]
  | p + 1, .cons v k r => by simp [insAt, F.tops, tops_insAt x p r]
theorem has_insAt {g : G} (x : Nat) (h0 : g x = []) : ∀ (p : Nat) (f : F), Has g f → Has g (insAt x p f)
  | 0, f, h => by
    have e : insAt x 0 f = .cons x .nil f := by cases f <;> rfl
    rw [e]
    exact ⟨h0, trivial, h⟩
  | _ + 1, .nil, _ => ⟨h0, trivial, trivial⟩
  | p + 1, .cons v k r, ⟨h1, h2, h3⟩ => ⟨h1, h2, has_insAt x h0 p r h3⟩
theorem all_insAt (x : Nat) : ∀ (p : Nat) (f : F), (insAt x p f).all.Perm (x :: f.all)
  | 0, f => by
    have e : insAt x 0 f = .cons x .nil f := by cases f <;> rfl
    rw [e]
    simp [F.all]
  | _ + 1, .nil => by simp [insAt, F.all]
  | p + 1, .cons v k r => by
    have ih := all_insAt x p r
    simp only [insAt, F.all]
    refine ((ih.append_left k.all).cons v).trans ?_
    refine (List.Perm.cons v List.perm_middle).trans ?_
    exact List.Perm.swap x v _
/-- a leaf below the node a -/
def insU (a x p : Nat) : F → F
  | .nil => .nil
  | .cons v k r => .cons v (if v = a then insAt x p k else insU a x p k) (insU a x p r)
/-- the rows then -/
def insG (g : G) (a x p : Nat) : G := fun i => if i = a then (g a).take p ++ [x] ++ (g a).drop p else g i
theorem insG_at {g : G} {a x p : Nat} : insG g a x p a = (g a).take p ++ [x] ++ (g a).drop p := by unfold insG; rw [if_pos rfl]
theorem insG_ne {g : G} {a x p i : Nat} (h : i ≠ a) : insG g a x p i = g i := by unfold insG; rw [if_neg h]
theorem tops_insU (a x p : Nat) : ∀ f : F, (insU a x p f).tops = f.tops
  | .nil => rfl
  | .cons v k r => by simp [insU, F.tops, tops_insU a x p r]
theorem has_insU {g : G} {a x p : Nat} (h0 : g x = []) (hxa : x ≠ a) : ∀ f : F, Has g f → f.all.Nodup → Has (insG g a x p) (insU a x p f)
  | .nil, _, _ => trivial
  | .cons v k r, ⟨h1, h2, h3⟩, hn => by
    simp only [F.all, List.nodup_cons, List.mem_append, not_or, List.nodup_append] at hn
    obtain ⟨⟨nvk, nvr⟩, nk, nr, dis⟩ := hn
    refine ⟨?_, ?_, has_insU h0 hxa r h3 nr⟩
    · by_cases e : v = a
      · subst e
        rw [if_pos rfl, insG_at, tops_insAt, h1]
      · rw [if_neg e, insG_ne e, tops_insU, h1]
    · by_cases e : v = a
      · subst e
        rw [if_pos rfl]
        refine has_insAt x (by rw [insG_ne hxa]; exact h0) p k ?_
        exact h2.congr fun y hy => (insG_ne fun q => nvk (by rw [← q]; exact hy)).symm
      · rw [if_neg e]
        exact has_insU h0 hxa k h2 nk
theorem insU_out (a x p : Nat) : ∀ f : F, a ∉ f.all → insU a x p f = f
  | .nil, _ => rfl
  | .cons v k r, h => by
    simp only [F.all, List.mem_cons, List.mem_append, not_or] at h
    have e : ¬ v = a := fun q => h.1 q.symm
    simp only [insU, if_neg e, insU_out a x p k h.2.1, insU_out a x p r h.2.2]
theorem all_insU (a x p : Nat) : ∀ f : F, f.all.Nodup → a ∈ f.all → (insU a x p f).all.Perm (x :: f.all)
  | .nil, _, h => by simp [F.all] at h
  | .cons v k r, hn, hm => by
    simp only [F.all, List.nodup_cons, List.mem_append, not_or, List.nodup_append] at hn
    obtain ⟨⟨nvk, nvr⟩, nk, nr, dis⟩ := hn
    simp only [F.all, List.mem_cons, List.mem_append] at hm
    simp only [insU, F.all]
    by_cases e : v = a
    · subst e
      rw [if_pos rfl, insU_out v x p r nvr]
      refine (((all_insAt x p k).append_right r.all).cons v).trans ?_
      exact List.Perm.swap x v _
    · rw [if_neg e]
      have e' : ¬ a = v := fun q => e q.symm
      rcases hm with q | q | q
      · exact absurd q e'
      · have har : a ∉ r.all := fun z => dis a q a z rfl
        rw [insU_out a x p r har]
        refine (((all_insU a x p k nk q).append_right r.all).cons v).trans ?_
        exact List.Perm.swap x v _
      · have hak : a ∉ k.all := fun z => dis a z a q rfl
        rw [insU_out a x p k hak]
        refine (((all_insU a x p r nr q).append_left k.all).cons v).trans ?_
        refine (List.Perm.cons v List.perm_middle).trans ?_
        exact List.Perm.swap x v _
/-- rows of a tree with the labels 0 .. m - 1, root 0 -/
structure Grown (g : G) (m : Nat) : Prop where
  ex : ∃ k, Has g (.cons 0 k .nil) ∧ (0 :: k.all).Perm (List.range m)
  out : ∀ j, m ≤ j → g j = []
theorem grown_one : Grown (fun _ => []) 1 := ⟨⟨.nil, ⟨rfl, trivial, trivial⟩, List.Perm.refl _⟩, fun _ _ => rfl⟩
theorem Grown.ins {g : G} {m a p : Nat} (h : Grown g m) (ha : a < m) : Grown (insG g a m p) (m + 1) := by
  obtain ⟨k, h1, h2⟩ := h.ex
  have hn : (F.cons 0 k .nil).all.Nodup := by
    have e : (F.cons 0 k .nil).all = 0 :: k.all := by simp [F.all]
    rw [e]
    exact h2.nodup_iff.mpr List.nodup_range
  have hm : a ∈ (F.cons 0 k .nil).all := by
    have e : (F.cons 0 k .nil).all = 0 :: k.all := by simp [F.all]
    rw [e, h2.mem_iff]
    exact List.mem_range.mpr ha
  have i1 := has_insU (p := p) (h.out m (Nat.le_refl _)) (Nat.ne_of_gt ha) _ h1 hn
  have i2 := all_insU a m p _ hn hm
  refine ⟨⟨if 0 = a then insAt m p k else insU a m p k, i1, ?_⟩, fun j hj => ?_⟩
  · have e : (F.cons 0 k .nil).all = 0 :: k.all := by simp [F.all]
    rw [e] at i2
    simp only [insU, F.all, List.append_nil] at i2
    refine i2.trans ?_
    rw [List.range_succ]
    refine (h2.cons m).trans ?_
    exact (List.perm_append_singleton m (List.range m)).symm
  · rw [insG_ne (by omega)]
    exact h.out j (by omega)
theorem Grown.row_lt {g : G} {m : Nat} (h : Grown g m) {j x : Nat} (hx : x ∈ g j) : x < m := by
  obtain ⟨k, h1, h2⟩ := h.ex
  by_cases hj : j < m
  · have hr := rep_arr h1 h2
    have e : (arr m g).getD j [] = g j := gt_arr hj
    have hm : g j ∈ arr m g := by
      unfold arr
      exact List.mem_map.mpr ⟨j, List.mem_range.mpr hj, rfl⟩
    have := hr.row_lt _ hm x hx
    rw [arr_len] at this
    exact this
  · rw [h.out j (by omega)] at hx
    cases hx
theorem Grown.len {g : G} {m : Nat} (h : Grown g m) (j : Nat) : (g j).length ≤ m := by
  obtain ⟨k, h1, h2⟩ := h.ex
  by_cases hj : j < m
  · have hr := rep_arr h1 h2
    have hm : g j ∈ arr m g := by
      unfold arr
      exact List.mem_map.mpr ⟨j, List.mem_range.mpr hj, rfl⟩
    have := hr.row_len _ hm
    rw [arr_len] at this
    exact this
  · rw [h.out j (by omega)]
    exact Nat.zero_le _

/-! ### new names -/
def F.ren (p : Nat → Nat) : F → F
  | .nil => .nil
  | .cons v k r => .cons (p v) (k.ren p) (r.ren p)
theorem tops_ren (p : Nat → Nat) : ∀ f : F, (f.ren p).tops = f.tops.map p
  | .nil => rfl
  | .cons v k r => by simp [F.ren, F.tops, tops_ren p r]
theorem all_ren (p : Nat → Nat) : ∀ f : F, (f.ren p).all = f.all.map p
  | .nil => rfl
  | .cons v k r => by simp [F.ren, F.all, all_ren p k, all_ren p r]
theorem has_ren {g g' : G} {p : Nat → Nat} : ∀ {f : F}, (∀ j ∈ f.all, g' (p j) = (g j).map p) → Has g f → Has g' (f.ren p)
  | .nil, _, _ => trivial
  | .cons v k r, h, ⟨h1, h2, h3⟩ => by
    simp only [F.all, List.mem_cons, List.mem_append] at h
    exact ⟨by rw [h v (.inl rfl), h1, tops_ren], has_ren (fun j hj => h j (.inr (.inl hj))) h2, has_ren (fun j hj => h j (.inr (.inr hj))) h3⟩
/-- the rows under the names: the row of y -/
def renG (g : G) (names : List Nat) : G := fun y => (g (names.idxOf y)).map fun j => names.getD j 0
theorem ren_rep {g : G} {n : Nat} {names : List Nat} (h : Grown g n) (hp : names.Perm (List.range n)) : ∃ r k, Rep (arr n (renG g names)) r k := by
  obtain ⟨k, h1, h2⟩ := h.ex
  have hl := perm_len hp
  have hnd := perm_nodup hp
  have hat : ∀ j, j < n → names.idxOf (names.getD j 0) = j := fun j hj => by
    have hj' : j < names.length := by omega
    have e : names.getD j 0 = names[j] := by rw [List.getD_eq_getElem?_getD, List.getElem?_eq_getElem hj']; rfl
    rw [e]
    exact List.Nodup.idxOf_getElem hnd j hj'
  refine ⟨names.getD 0 0, k.ren fun j => names.getD j 0, rep_arr (g := renG g names) ?_ ?_⟩
  · have := has_ren (p := fun j => names.getD j 0) (g' := renG g names) (f := .cons 0 k .nil) (fun j hj => ?_) h1
    · exact this
    · have e : (F.cons 0 k .nil).all = 0 :: k.all := by simp [F.all]
      rw [e, h2.mem_iff, List.mem_range] at hj
      show (g (names.idxOf (names.getD j 0))).map _ = _
      rw [hat j hj]
  · rw [all_ren]
    have e : names.getD 0 0 :: k.all.map (fun j => names.getD j 0) = (0 :: k.all).map fun j => names.getD j 0 := rfl
    rw [e]
    refine (h2.map _).trans ?_
    have e2 : (List.range n).map (fun j => names.getD j 0) = names := by
      refine List.ext_getElem? fun i => ?_
      rw [List.getElem?_map]
      by_cases hi : i < n
      · rw [List.getElem?_range hi, List.getElem?_eq_getElem (by omega : i < names.length)]
        show some (names.getD i 0) = _
        rw [List.getD_eq_getElem?_getD, List.getElem?_eq_getElem (by omega : i < names.length)]
        rfl
      · rw [List.getElem?_eq_none (by rw [List.length_range]; omega), List.getElem?_eq_none (by omega)]
        rfl
    rw [e2]
    exact hp
end SF
end

/-! SFw0 -/
section
set_option Elab.async false
set_option maxRecDepth 100000
set_option maxHeartbeats 4000000
namespace SF
open PySem PySem.Spec PyProof.Rows L2

/-! ### the text by places -/
def top (i : Nat) : Stmt := PySem.Challenge.pw_slotfall_k52_whole_trees_from_logs.main.body.getD i (.Pass ⟨0, 0, 0, 0⟩)

/-- a def of the text as it stands behind the top, by its name -/
structure Raw (K : PySem.W.Frag) (mg : Str → Option Value) (x : Str) (st : Stmt) : Prop where
  ex : ∃ f fd, Fun K x x st f fd ∧ mg x = some (.ref f)
/-- a def that keeps its promise -/
structure Def (P : Program) (w : World) (K : PySem.W.Frag) (mg : Str → Option Value) (base : Heap) (k : Nat) (x : Str) (ps : List Str) (sp : Sp) : Prop where
  ex : ∃ f fd, FnOk P w K mg base CX0 k f fd ps sp ∧ mg x = some (.ref f) ∧ PySem.W.keepIn K (.ref f) = true ∧ Binds K fd ps []
section
variable {P : Program} {w : World} {K : PySem.W.Frag} {mg : Str → Option Value} {base : Heap} {x : Str} {st : Stmt} {N ps : List Str} {k : Nat} {sp : Sp}
theorem Raw.made (R : Raw K mg x st) (S : FnScope N ps (defScope st)) (len : ∀ vs H Q E, sp vs H Q E → vs.length = ps.length)
    (hb : ∀ (kV doc pm : Value) (an : Option Addr) (cdv ct : Value) (us : List Value), us.length = ps.length → bindArgs (PySem.W.fnOf x x (defArgs st) (defBody st) (defScope st) .none kV doc pm an cdv ct) ⟨us, []⟩ = pure (ps.zip us))
    (body : ∀ (f : Addr) (cdv : Value) (A : Around) (outer : List Env) (s : Shared) (H : Hp) (vs : List V) (Q : VK) (E : XK), Room k (A.deeper (envOfC x (defScope st) s.heap.objs.size f cdv)) → sp vs H Q E →
      ∃ t, PSs (cxOf CX0 P w K mg base N x (defScope st) f cdv A outer s H E).nox (defBody st) t ∧ t { nx := fun _ H' => Q .non H', rt := Q } (start N vs) H) : Def P w K mg base (k + 1) x ps sp := by
  obtain ⟨f, fd, hf, hm⟩ := R.ex
  exact ⟨f, fd, hf.ok S len (body f), hm, hf.kp, hf.binds hb⟩
theorem Def.mono {j : Nat} (D : Def P w K mg base k x ps sp) (h : k ≤ j) : Def P w K mg base j x ps sp := by
  obtain ⟨f, fd, a, b⟩ := D.ex
  exact ⟨f, fd, a.mono h, b⟩
end
/-- f(e, ..) of such a def -/
theorem pe_fn {X : Cx} {k : Nat} {x : Str} {ps : List Str} {sp : Sp} {e : Expr} {es : List Expr} {t : TA} {p pos : Pos} (D : Def X.prog X.w X.K X.mg X.base k x ps sp) (hr : Room k X.A) (hg : Gl X x) (ha : PA X (e :: es) t)
    (hdb : (x == ("__debug__" : Str)) = false := by decide) (he : starEach (e :: es) X.env = (false, eval e X.env) :: starEach es X.env := by rfl) (hpl : (backTo pos (starEach es X.env)).any (·.1) = false := by rfl) :
    PE X (.Call (.Name x p) (e :: es) [] pos) (tCall sp [] E0 t) := by
  obtain ⟨f, fd, F, hm, kp, b⟩ := D.ex
  exact pe_call F hr hg hm kp b .nil pass0 ha hdb he hpl

/-- the built-in names that the module does not bind -/
structure Txt (mg : Str → Option Value) : Prop where
  len : mg "len" = none
  isinstance : mg "isinstance" = none
  int : mg "int" = none
  bool : mg "bool" = none
  list : mg "list" = none
  tuple : mg "tuple" = none
  all : mg "all" = none
  any : mg "any" = none
  range : mg "range" = none
  min : mg "min" = none
  max : mg "max" = none
  sum : mg "sum" = none
  set : mg "set" = none
  enumerate : mg "enumerate" = none
  zip : mg "zip" = none
  abs : mg "abs" = none
  repr : mg "repr" = none
  nodes : ∃ t, mg "MOST_NODES" = some (.int 40 t)
  logs : ∃ t, mg "MOST_LOGS" = some (.int 20 t)
  lim : ∃ t, mg "MOST_LIMIT" = some (.int (10 ^ 30) t)

section
variable {P : Program} {w : World} {K : PySem.W.Frag} {mg : Str → Option Value} {base : Heap}
/-! ### is_integer, is_between, is_limit -/
abbrev s_isint : Stmt := top 6
abbrev s_between : Stmt := top 7
abbrev s_islimit : Stmt := top 8
theorem sc_isint : FnScope ["value"] ["value"] (defScope s_isint) := ⟨rfl, rfl, rfl, by decide +kernel, rfl, by decide +kernel, by decide +kernel⟩
theorem sc_between : FnScope ["value", "least", "most"] ["value", "least", "most"] (defScope s_between) := ⟨rfl, rfl, rfl, by decide +kernel, rfl, by decide +kernel, by decide +kernel⟩
theorem sc_islimit : FnScope ["value"] ["value"] (defScope s_islimit) := ⟨rfl, rfl, rfl, by decide +kernel, rfl, by decide +kernel, by decide +kernel⟩
def sp_isint : Sp := fun vs H Q _ => ∃ i : Int, vs = [.int i] ∧ Q (.bl true) H
def sp_between : Sp := fun vs H Q _ => ∃ i a b : Int, vs = [.int i, .int a, .int b] ∧ Q (.bl (decide (a ≤ i ∧ i ≤ b))) H
def sp_islimit : Sp := fun vs H Q _ => ∃ i : Int, vs = [.int i] ∧ Q (.bl (decide (1 ≤ i ∧ i ≤ 10 ^ 30))) H

theorem d_isint (R : Raw K mg "is_integer" s_isint) (T : Txt mg) : Def P w K mg base 1 "is_integer" ["value"] sp_isint := by
  refine R.made sc_isint (fun vs H Q E h => ?_) (fun _ _ _ _ _ _ us hl => match us, hl with | [_], _ => rfl) fun f cdv A outer s H vs Q E hr h => ?_
  · obtain ⟨i, rfl, _⟩ := h
    rfl
  obtain ⟨i, rfl, q⟩ := h
  refine ⟨_, pss_one (ps_ret (pe_and (pe_callB call_isi (by rfl) T.isinstance (by decide +kernel) (pa_cons (pv 0) (pa_cons (pe_bltn (v := .ty "int") (by rfl) T.int (by decide +kernel) rfl) pa_nil)))
    (pe_one (pe_not (pe_callB call_isi (by rfl) T.isinstance (by decide +kernel) (pa_cons (pv 0) (pa_cons (pe_bltn (v := .ty "bool") (by rfl) T.bool (by decide +kernel) rfl) pa_nil))))))), ?_⟩
  refine ⟨_, rfl, .int i, .ty "int", _, _, true, rfl, .ty _, .base (.int i), kit_ty (by decide +kernel), true, rfl, ?_⟩
  refine iteT ?_
  exact ⟨_, rfl, .int i, .ty "bool", _, _, false, rfl, .ty _, .base (.int i), kit_ty (by decide +kernel), false, rfl, q⟩
theorem d_between (R : Raw K mg "is_between" s_between) (D : Def P w K mg base 1 "is_integer" ["value"] sp_isint) : Def P w K mg base 2 "is_between" ["value", "least", "most"] sp_between := by
  refine R.made sc_between (fun vs H Q E h => ?_) (fun _ _ _ _ _ _ us hl => match us, hl with | [_, _, _], _ => rfl) fun f cdv A outer s H vs Q E hr h => ?_
  · obtain ⟨i, a, b, rfl, _⟩ := h
    rfl
  obtain ⟨i, a, b, rfl, q⟩ := h
  refine ⟨_, pss_one (ps_ret (pe_and (pe_fn D hr (by rfl) (pa_cons (pv 0) pa_nil)) (pe_one (pe_chain op_le op_le (pv 1) (pv 0) (pv 2))))), ?_⟩
  refine ⟨_, rfl, i, rfl, true, rfl, iteT ?_⟩
  refine ⟨_, rfl, _, rfl, _, _, rfl, rfl, _, rfl, ?_⟩
  refine ite2 (fun c => ?_) (fun c => ?_)
  · have c' : a ≤ i := of_decide_eq_true c
    refine ⟨_, rfl, _, _, rfl, rfl, ?_⟩
    have e : (V.bl (decide (i ≤ b))) = V.bl (decide (a ≤ i ∧ i ≤ b)) := by simp [c']
    show Q (V.bl (decide (i ≤ b))) H
    rw [e]
    exact q
  · have c' : ¬ a ≤ i := of_decide_eq_false (Bool.eq_false_iff.mpr c)
    have e : (V.bl false) = V.bl (decide (a ≤ i ∧ i ≤ b)) := by simp [c']
    show Q (V.bl false) H
    rw [e]
    exact q
theorem d_islimit (R : Raw K mg "is_limit" s_islimit) (T : Txt mg) (D : Def P w K mg base 2 "is_between" ["value", "least", "most"] sp_between) : Def P w K mg base 3 "is_limit" ["value"] sp_islimit := by
  refine R.made sc_islimit (fun vs H Q E h => ?_) (fun _ _ _ _ _ _ us hl => match us, hl with | [_], _ => rfl) fun f cdv A outer s H vs Q E hr h => ?_
  · obtain ⟨i, rfl, _⟩ := h
    rfl
  obtain ⟨i, rfl, q⟩ := h
  obtain ⟨t, ht⟩ := T.lim
  refine ⟨_, pss_one (ps_ret (pe_fn D hr (by rfl) (pa_cons (pv 0) (pa_cons pe_int (pa_cons (pe_glob (v := .int (10 ^ 30)) (by rfl) ht ⟨t, rfl⟩) pa_nil))))), ?_⟩
  exact ⟨_, rfl, i, 1, 10 ^ 30, rfl, q⟩
end
end SF
end

/-! SFw1 -/
section
set_option Elab.async false
set_option maxRecDepth 100000
set_option maxHeartbeats 4000000
/-! Rules of my own over the layer. -/
namespace SF
open PySem PySem.Spec PyProof.Rows L2

section
variable {X : Cx}
/-! ### repr of data -/
def rRepr (K : PySem.W.Frag) : List V → Hp → VK → Prop := fun xs H Q =>
  ∃ (a : Addr) (d : PyData), xs = [.ref a] ∧ Dp K H (.ref a) d ∧ d.showable = true ∧ d.hasDict = false ∧ d.depth ≤ 50 ∧ d.shown.length ≤ sizeLine ∧ Q (.str d.shown) H
theorem call_repr (hg : X.A.guards = some []) (hu : X.A.units + 64 < cLine) : CallR X (.builtin "repr") (rRepr X.K) := by
  intro pins s σ H xs us Q I r h
  obtain ⟨a, d, rfl, hd, hs, hn, hp, hz, q⟩ := h
  rw [Vals.ref1 r]
  obtain ⟨as, rd⟩ := Dp.reads I d (.ref a) (.ref a) hd rfl
  refine repr_of_reads' rd hs (PyData.noDict_hsm hn) hg (by omega) (fun _ _ e => e) (fun h' u tk hk => ?_) hz
  exact ⟨.str d.shown, H, I.kept (t' := tk) hk, ⟨u, rfl⟩, q⟩

/-! ### xs.extend(a tuple) -/
theorem ext_tup (l : Addr) (items : Array Value) (n : Nat) (b : Addr) (items2 : Array Value) (n2 : Nat) (dd : Option Addr) (sl : Array (Option Value)) (hlong : ¬(!items.isEmpty && Builtin.List.listTooLong (items.size + items2.size)) = true)
    (h1 : items.size ≤ sizeLine) (h2 : items.size + items2.size ≤ sizeLine + 1) :
    Meets (Builtin.«list.extend» ⟨[.ref l, .ref b], []⟩) (fun _ R s => s.heap.get? l = some { cls := .type "list", dict := none, data := .seq items n, slots := #[] } ∧ s.heap.get? b = some { cls := .type "tuple", dict := dd, data := .seq items2 n2, slots := sl } ∧
      R (.ok (.ret Value.none)) { s with heap := s.heap.update l (Obj.mapSeq fun x => x ++ items2), toks := s.toks }) :=
  .of_wp fun prog w A R s h => by
    obtain ⟨hp, g, d, tk, os⟩ := s
    obtain ⟨hl, hb, h⟩ := h
    have f1 := AutoSeq1.idx_int
    have f2 := AutoSeq1.sub_tuple_tuple
    have f3 := AutoSeq1.sub_list_list
    have f4 := AutoSeq1.sub_tuple_list
    have f5 := AutoSeq1.sub_list_tuple
    have hz' : (items ++ items2).size ≤ sizeLine + 1 := by rw [Array.size_append]; exact h2
    wp_walk using (wpAny_updateSeq hl rfl (hz := h1) (_hz' := hz')), AutoSeq1.wpAny_loadPart' hl, AutoSeq1.wpAny_loadPart' hb
    exact ⟨_, rfl, h⟩
def rExtT (K : PySem.W.Frag) : V → List V → Hp → VK → Prop := fun x vs H Q =>
  ∃ l b xs zs, x = .ref l ∧ vs = [.ref b] ∧ H l = some (.lst xs) ∧ SqT K H b zs ∧ xs.length + zs.length ≤ sizeLine ∧ Q .non (upd H l (.lst (xs ++ zs)))
theorem mt_extT : MtM X "list.extend" (rExtT X.K) := by
  intro pins s σ H x vs v us Q I rx rv h
  obtain ⟨l, b, xs, zs, rfl, rfl, hH, hB, hz, q⟩ := h
  cases rx
  obtain ⟨u, rfl, ru⟩ := rv.one
  cases ru
  obtain ⟨z, its, n, r, hl, e⟩ := I.lstM hH
  obtain ⟨its2, r2, ⟨⟨oc, od, dt, sl⟩, ho, hc, n2, hd⟩, z2⟩ := I.tuple hB
  replace hc : oc = .type "tuple" := hc
  replace hd : dt = .seq its2.toArray n2 := hd
  subst hc hd
  have hl2 := r2.length
  have hsz : its.toArray.size + its2.toArray.size ≤ sizeLine := by rw [List.size_toArray, List.size_toArray]; omega
  have hlong : ¬ (!its.toArray.isEmpty && Builtin.List.listTooLong (its.toArray.size + its2.toArray.size)) = true := by
    rw [notLongL hsz, Bool.and_false]
    exact Bool.false_ne_true
  refine call_meets F.slot_list_extend ⟨_, e, rfl⟩ F.entry_list_extend (F.args_list_extend_2 _ _)
    (ext_tup l its.toArray n b its2.toArray n2 od sl hlong (by omega) (by omega)) ⟨e, ho, ?_⟩
  refine ⟨.non, _, I.lset (its' := its ++ its2) hH e (by simp) (r.append r2) ?_, rfl, q⟩
  rw [List.length_append]
  omega

/-! ### t[::-1] of a tuple -/
section
variable {prog : Program} {w : World} {A : Around} {E : Value → Shared → Prop} {s : Shared}
theorem applied_back {sl : Addr} {vk : Value} {n : Nat} {Q : Int × Int × Nat → Shared → Prop} (hs : s.heap.IsSliceOf sl .none .none vk) (pk : IsPart vk (some (-1)))
    (h : Q ((n : Int) - 1, -1, n) s) : wpAny (model prog w) A (Builtin.Slice.sliceApplied (.ref sl) (pure (n : Int))) Q E s := by
  obtain ⟨os, hos, hcs, hds⟩ := id hs
  unfold Builtin.Slice.sliceApplied Builtin.Slice.sliceFields
  refine wpAny_bind (wpAny_bind (wpAny_field hos hds (x := .none) rfl (wpAny_bind (wpAny_field hos hds (x := .none) rfl (wpAny_bind (wpAny_field hos hds (x := vk) rfl (wpAny_pure ?_)))))))
  refine wpAny_bind (HT.slicePart_ pk ?_)
  show wpAny _ _ (if ((-1 : Int) == 0) = true then _ else _) _ _ s
  rw [if_neg (by decide)]
  refine wpAny_bind (slicePart_none (wpAny_bind (slicePart_none (wpAny_bind (wpAny_pure ?_)))))
  show wpAny _ _ (pure ((n : Int) - 1, (-1 : Int), Builtin.Slice.slicePlaces ((n : Int) - 1) (-1) (-1))) _ _ s
  have e : Builtin.Slice.slicePlaces ((n : Int) - 1) (-1) (-1) = n := by
    unfold Builtin.Slice.slicePlaces
    rw [if_neg (by decide)]
    by_cases h0 : n = 0
    · subst h0
      decide
    · rw [if_pos (by omega)]
      simp
  rw [e]
  exact wpAny_pure h
theorem fm_congr {α β : Type} {f g : α → Option β} : ∀ l : List α, (∀ m ∈ l, f m = g m) → l.filterMap f = l.filterMap g
  | [], _ => rfl
  | a :: l, h => by
    rw [List.filterMap_cons, List.filterMap_cons, h a (by simp), fm_congr l fun m hm => h m (by simp [hm])]
theorem pick_back (xs : Array Value) : ((List.range xs.size).filterMap fun (m : Nat) => xs[(((xs.size : Int) - 1) + (m : Int) * (-1)).toNat]?).toArray = xs.toList.reverse.toArray := by
  have e : (List.range xs.size).filterMap (fun (m : Nat) => xs[(((xs.size : Int) - 1) + (m : Int) * (-1)).toNat]?) = (List.range xs.size).filterMap ((xs[·]?) ∘ fun k => xs.size - 1 - k) := by
    refine fm_congr _ fun m hm => ?_
    rw [List.mem_range] at hm
    have : (((xs.size : Int) - 1) + (m : Int) * (-1)).toNat = xs.size - 1 - m := by omega
    rw [this]
    rfl
  rw [e, ← List.filterMap_map, PySem.W.krv_range, List.filterMap_reverse, PySem.W.krv_all]
theorem item_back {t sl : Addr} {items : Array Value} {vk : Value} {Q : Value → Shared → Prop} (ht : IsTup s.heap t items) (hs : s.heap.IsSliceOf sl .none .none vk) (pk : IsPart vk (some (-1)))
    (h : Q (.ref s.heap.objs.size) { s with heap := s.heap.push { cls := .type "tuple", data := .seq items.toList.reverse.toArray } }) (hsz : items.size ≤ sizeLine) :
    wpAny (model prog w) A (getItem (.ref t) (.ref sl)) Q E s := by
  have hok : sizeOk (.seq items.toList.reverse.toArray) := by
    show items.toList.reverse.toArray.size ≤ sizeLine
    simpa using hsz
  obtain ⟨os, hos, hcs, hds⟩ := id hs
  have hTs : s.TypeIs (.ref sl) "slice" := ⟨os, hos, hcs⟩
  unfold getItem
  refine wpAny_holding ?_
  refine wpAny_bind (wpAny_sequenceKey ht.typeIs (by decide) ?_)
  refine wpAny_bind (wpAny_callSpecial?_slot (name := Str.ofString "__getitem__") ht.typeIs PyProof.Rows.slot_tuple_getitem
    (wpAny_call_entry PyProof.Rows.slot_tuple_getitem ht.typeIs entry_tuple_getitem ?_ (args_tuple_getitem _ _)))
  show wpAny _ _ (Builtin.Tuple.tupleItemsOf (.ref t) >>= _) _ _ s
  refine wpAny_bind (tupleItemsOf_ ht ?_)
  refine wpAny_bind (wpAny_typeOf hTs ?_)
  rw [if_pos (by decide)]
  refine wpAny_bind (applied_back hs pk ?_)
  have hno : ¬ (((((items.size : Int) - 1) == 0) && ((-1 : Int) == 1) && (items.size == items.size)) = true) := by simp
  show wpAny _ _ (if ((((items.size : Int) - 1) == 0) && ((-1 : Int) == 1) && (items.size == items.size)) = true then _ else _) _ _ s
  rw [if_neg hno, pick_back]
  first
    | exact wpAny_bind (m := Builtin.Tuple.tupleExact _) (wpAny_newObj_type (wpAny_pure ⟨_, rfl, wpAny_pure h⟩) hok)
    | exact wpAny_bind (m := Builtin.Tuple.tupleExact _) (wpAny_newObj_type (wpAny_bind (wpAny_pure (wpAny_pure ⟨_, rfl, wpAny_pure h⟩))) hok)
    | exact wpAny_bind (wpAny_bind (m := Builtin.Tuple.tupleExact _) (wpAny_newObj_type (wpAny_pure (wpAny_pure ⟨_, rfl, wpAny_pure h⟩)) hok))
    | exact wpAny_bind (wpAny_bind (m := Builtin.Tuple.tupleExact _) (wpAny_newObj_type (wpAny_pure ⟨_, rfl, wpAny_pure h⟩) hok))
end
def tRevT (K : PySem.W.Frag) (te : TE) : TE := fun σ H Q => te σ H fun x H1 => ∃ a xs, x = .ref a ∧ SqT K H1 a xs ∧ ∀ p, H1 p = none → Q (.ref p) (upd H1 p (.tup xs.reverse))
theorem pe_revT {e : Expr} {te : TE} {k : Nat} {p1 p2 p3 pos : Pos} (he : PE X e te) : PE X (.Subscript e (.Slice none none (some (.UnaryOp .USub (.Constant (.int 1) k p1) p2)) p3) pos) (tRevT X.K te) := by
  refine ⟨fun pins s σ H Q I h => ?_⟩
  refine Subscript_ (thn (he.run pins s σ H _ I h) fun v s1 ⟨x, H1, I1, r1, a, xs, ex, hx, q⟩ => ?_)
  subst ex
  cases r1
  have minus : PO X (some (.UnaryOp .USub (.Constant (.int 1) k p1) p2)) (tPart (tUn (rU fun i => .int (-i)) (tC (.int 1)))) := po_some (pe_un un_neg pe_int)
  refine wpAny_Slice (thn (po_none.run pins s1 σ H1 (fun o H2 => o = none ∧ H2 = H1) I1 ⟨rfl, rfl⟩) fun vl s2 ⟨l, H2, I2, pl, el, e2⟩ => ?_)
  subst el e2
  refine thn (po_none.run pins s2 σ H2 (fun o H3 => o = none ∧ H3 = H2) I2 ⟨rfl, rfl⟩) fun vu s3 ⟨u, H3, I3, pu, eu, e3⟩ => ?_
  subst eu e3
  refine thn (minus.run pins s3 σ H3 (fun o H4 => o = some (-1) ∧ H4 = H3) I3 ⟨1, rfl, -1, rfl, rfl, rfl⟩) fun vs s4 ⟨o, H4, I4, ps, eo, e4⟩ => ?_
  subst eo e4
  cases pl
  cases pu
  have I5 : Inv X pins σ H4 { s4 with heap := s4.heap.push { cls := .type "slice", data := .fields #[.none, .none, vs] } } := I4.kept (t' := s4.toks) fun b ob q => Heap.get?_push_of_some _ q
  obtain ⟨its, r, ht, hz⟩ := I5.tuple hx
  have hlen := r.length
  show wpAny (model X.prog X.w) X.A (subscriptTail e (.Slice none none (some (.UnaryOp .USub (.Constant (.int 1) k p1) p2)) p3) (.ref a) (.ref s4.heap.objs.size)) (EP X pins σ Q) X.xe { s4 with heap := s4.heap.push { cls := .type "slice", data := .fields #[.none, .none, vs] } }
  refine tail_any (ops := [.ref a, .ref s4.heap.objs.size]) ht.typeIs (PyProof.Rows.slot_tuple_getitem.lookup) ?_ (by with_unfolding_all rfl)
  refine item_back ht (Heap.IsSliceOf.new _ .none .none vs) ps ?_ (by rw [List.size_toArray]; omega)
  refine ⟨.ref _, _, I5.laid (t' := s4.toks) (o := .tup xs.reverse) (fun b ob q => Heap.get?_push_of_some _ q) (Nat.le_refl _) ?_, rfl, q _ (I5.hok.fresh (Nat.le_refl _))⟩
  exact ⟨by rw [List.length_reverse]; exact hz, _, r.reverse, IsTup.new _ _⟩
end
end SF
end

/-! SFw2 -/
section
set_option Elab.async false
set_option maxRecDepth 100000
set_option maxHeartbeats 4000000
/-! More rules: enumerate of a tuple, xs[i] += e, len(set(tuple)), sum of lists, calls with keywords alone, a list or a tuple walked. -/
namespace SF
open PySem PySem.Spec PyProof.Rows L2

/-! ### enumerate(a tuple) -/
theorem meets_enumT (t : Addr) (items : Array Value) (n : Nat) (dct : Option Addr) (sl : Array (Option Value)) :
    Meets (Builtin.«enumerate.__new__» ⟨[.type "enumerate", .ref t], []⟩) (fun _ R s => s.heap.get? t = some { cls := .type "tuple", dict := dct, data := .seq items n, slots := sl } ∧
      R (.ok (.ret (.ref (s.heap.push { cls := .type "tuple_iterator", data := .fields #[.ref t, .int 0 0] }).objs.size)))
        { s with heap := (s.heap.push { cls := .type "tuple_iterator", data := .fields #[.ref t, .int 0 0] }).push { cls := .type "enumerate", data := .fields #[.none, .bool false, .ref s.heap.objs.size, rawInt 0, .none, .none] } }) :=
  .of_wp fun prog w A R s h => by
    obtain ⟨hp, g, d, tk, os⟩ := s
    obtain ⟨hl, h⟩ := h
    have hsub := sub_enumerate
    have hT : Heap.IsTuple (Shared.heap ⟨hp, g, d, tk, os⟩) t items := ⟨_, hl, rfl, n, rfl⟩
    wp_walk using AutoSeq1.wpAny_loadPart' hl
    refine wpAny_stack_any fun st => wpAny_pure ?_
    split
    · rename_i c _ _ _ _ _
      cases (c == Value.type "enumerate")
      · wp_walk using AutoSeq1.wpAny_loadPart' hl, wpAny_pyIter_tuple hT
        exact ⟨_, rfl, h⟩
      · wp_walk using AutoSeq1.wpAny_loadPart' hl, wpAny_pyIter_tuple hT
        exact ⟨_, rfl, h⟩
    · wp_walk using AutoSeq1.wpAny_loadPart' hl, wpAny_pyIter_tuple hT
      exact ⟨_, rfl, h⟩
theorem call_enumT {prog : Program} {w : World} {A : Around} {E : Value → Shared → Prop} {s : Shared} {t : Addr} {items : Array Value} {Q : Value → Shared → Prop} (hL : s.heap.IsTuple t items)
    (h : ∀ h', IsEnum h' (s.heap.objs.size + 1) s.heap.objs.size 0 .none → h'.IsTupleIter s.heap.objs.size t 0 → h'.objs.size = s.heap.objs.size + 2 →
      (∀ b o, s.heap.get? b = some o → h'.get? b = some o) → Q (.ref (s.heap.objs.size + 1)) { s with heap := h' }) :
    wpAny (model prog w) A (call (.type "enumerate") [.ref t]) Q E s := by
  obtain ⟨⟨c, dct, dt, sl⟩, hl, hc, n, hd⟩ := hL
  replace hc : c = .type "tuple" := hc
  replace hd : dt = .seq items n := hd
  subst hc hd
  refine callType_new F.called_enumerate (by decide) (F.typeCall_enumerate_1 _) (F.newCall_enumerate_1 _) (fun obj => F.args_object_init_2 obj _) F.entry_enumerate_new
    (meets_enumT t items n dct sl) ⟨hl, ?_⟩
  have hz : (s.heap.push { cls := .type "tuple_iterator", data := .fields #[.ref t, .int 0 0] }).objs.size = s.heap.objs.size + 1 := Heap.size_push ..
  show _ ∧ _
  rw [hz]
  have he : IsEnum ((s.heap.push { cls := .type "tuple_iterator", data := .fields #[.ref t, .int 0 0] }).push
      { cls := .type "enumerate", data := .fields #[.none, .bool false, .ref s.heap.objs.size, rawInt 0, .none, .none] }) (s.heap.objs.size + 1) s.heap.objs.size 0 .none := by
    have q := Heap.get?_push_size (s.heap.push { cls := .type "tuple_iterator", data := .fields #[.ref t, .int 0 0] })
      (o := { cls := .type "enumerate", data := .fields #[.none, .bool false, .ref s.heap.objs.size, rawInt 0, .none, .none] }) rfl
    rw [hz] at q
    exact q
  exact ⟨⟨_, he, rfl⟩, h _ he ⟨_, Heap.get?_push_of_some _ (Heap.get?_push_size _ rfl), rfl, rfl⟩ (by rw [Heap.size_push, hz]) fun b o x => Heap.get?_push_of_some _ (Heap.get?_push_of_some _ x)⟩
/-- the tuple at a, each item in a new pair with its place -/
def IteT (K : PySem.W.Frag) (a : Addr) : It :=
  ⟨fun i H => ∃ (xs : List V) (x : V), SqT K H a xs ∧ xs[i]? = some x, fun i H v H' => ∃ T x, v = .ref T ∧ H T = none ∧ H' = upd H T (.tup [.int (i : Nat), x]) ∧ ∀ xs, SqT K H a xs → xs[i]? = some x, fun i H => ∃ xs : List V, SqT K H a xs ∧ xs.length = i⟩
theorem turn_enumT {P : Program} {w : World} {K : PySem.W.Frag} {elts : List Expr} {kk : Nat} {tpos : Pos} (a e it : Addr) (hae : a ≠ e) (hai : a ≠ it) :
    Turn P w K (.Tuple elts kk tpos) (IteT K a) [e, it] e (fun i h => (∃ old, IsEnum h e it ((i : Nat) : Int) old) ∧ h.IsTupleIter it a i ∧ e ≠ it) where
  mem := by simp
  obj := fun i h st b hb => by
    obtain ⟨⟨old, he⟩, ⟨o, ho, hc, hd⟩, _⟩ := st
    have e' : b = e ∨ b = it := by simpa using hb
    rcases e' with z | z
    · rw [z]; exact ⟨_, he, fun v q => nomatch q⟩
    · rw [z]; exact ⟨o, ho, fun v q => by rw [hd] at q; cases q⟩
  keep := fun i h h' st k => let ⟨⟨old, he⟩, hi, hne⟩ := st; ⟨⟨old, k e (by simp) _ he⟩, hi.at fun o q => k it (by simp) o q, hne⟩
  item := by
    intro X hP hw hK hc i pins s σ H E I hf st hg
    subst hP hw hK
    obtain ⟨⟨old, he⟩, hit, hne⟩ := st
    obtain ⟨xs, x, hq, hx⟩ := hg
    obtain ⟨its, rv, p, hz⟩ := I.tuple hq
    obtain ⟨u, hu, ru⟩ := rv.get hx
    have hel : e < s.heap.objs.size := Heap.lt_size he
    have hil : it < s.heap.objs.size := by obtain ⟨_, q, _⟩ := hit; exact Heap.lt_size q
    have D : Draws X.prog X.w X.A.in1 it [it, a] its.toArray.size (fun i v => its.toArray[i]? = some v) (fun i h => h.IsTupleIter it a i ∧ h.IsTuple a its.toArray) :=
      Draws.tuple (show X.A.in1.handled = none from I.ok.hd hc) it a hai its.toArray
    have hlt : i < its.toArray.size := by
      have := (List.getElem?_eq_some_iff.mp hu).1
      simpa using this
    refine wpAny_pyNext_enum_itemD D he ⟨hit, p⟩ hlt hne (by simp [hne, Ne.symm hae]) fun y h' tk hy ho hst hT hsz hk => ?_
    have ey : y = u := by
      have : its[i]? = some y := by simpa using hy
      rw [hu] at this
      exact (Option.some.inj this).symm
    subst ey
    refine ⟨_, rfl, wpAny_letOwnedTupleGo_enum (s := { s with heap := h', toks := tk + 1 }) ho fun h'' he' sb => ?_⟩
    have hT2 : h''.get? s.heap.objs.size = some { cls := .type "tuple", data := .seq #[.int i tk, y] } := (sb.2 _ (Nat.ne_of_gt hel)).trans hT
    have new : ObjOk X.prog X.w (upd H s.heap.objs.size (.tup [.int (i : Nat), x])) h'' s.heap.objs.size (.tup [.int (i : Nat), x]) :=
      ⟨by show 2 ≤ sizeLine; decide, [.int i tk, y], .cons ⟨_, rfl⟩ (.cons ru .nil), ⟨_, hT2, rfl, _, rfl⟩⟩
    have I1 : Inv X pins σ (upd H s.heap.objs.size (.tup [.int (i : Nat), x])) { s with heap := h'', toks := tk + 1 } :=
      I.turnedNew (ch := [e, it]) (fun b ob hb q => (sb.2 b (fun z => hb (by simp [z]))).trans (hk b ob (fun z => hb (by simp [z])) (fun z => hb (by simp [z])) q)) hf (Nat.le_refl _) new
    refine ⟨.ref s.heap.objs.size, _, I1, rfl, ⟨_, x, rfl, I.hok.fresh (Nat.le_refl _), rfl, fun ys hy => by rw [I.tuple_inj hy hq]; exact hx⟩, ⟨⟨y, ?_⟩, hst.1.at fun o q => (sb.2 it (Ne.symm hne)).trans q, hne⟩, fun b hb => ?_⟩
    · have e1 : ((i + 1 : Nat) : Int) = (i : Int) + 1 := by omega
      rw [e1]
      exact he'
    · have hb' : b < s.heap.objs.size := by
        have e' : b = e ∨ b = it := by simpa using hb
        rcases e' with z | z
        · rw [z]; exact hel
        · rw [z]; exact hil
      rw [upd_ne (Nat.ne_of_lt hb')]
      exact (hf b hb).1
  done := by
    intro X hP hw hK hc i pins s σ H E I hf st hg
    subst hP hw hK
    obtain ⟨⟨old, he⟩, hit, hne⟩ := st
    obtain ⟨xs, hq, hx⟩ := hg
    obtain ⟨its, rv, p, hz⟩ := I.tuple hq
    obtain ⟨f0, f1, f2, f3, f4, f5⟩ := hf it (by simp)
    have hl := rv.length
    have D : Draws X.prog X.w X.A.in1 it [it, a] its.toArray.size (fun i v => its.toArray[i]? = some v) (fun i h => h.IsTupleIter it a i ∧ h.IsTuple a its.toArray) :=
      Draws.tuple (show X.A.in1.handled = none from I.ok.hd hc) it a hai its.toArray
    have ei : its.toArray.size = i := by rw [List.size_toArray, ← hl, hx]
    exact wpAny_pyNext_enum_endD D he (show Heap.IsTupleIter s.heap it a its.toArray.size ∧ _ from ⟨by rw [ei]; exact hit, p⟩) fun h' eb => ⟨rfl, I.turned (t' := s.toks) (fun b o hb q => eb b o hb q) f0 f1 f3 f4 f5⟩
  self := fun A i s Q E st h => let ⟨⟨_, he⟩, _⟩ := st; wpAny_pyIter_enum he h
/-- enumerate of a list or a tuple -/
def iEnumS (K : PySem.W.Frag) (ta : TA) : TI := fun σ H R => ta σ H fun vs H1 => ∃ a xs, vs = [.ref a] ∧ ((SqL K H1 a xs ∧ R (Ite K a) H1) ∨ (SqT K H1 a xs ∧ R (IteT K a) H1))
theorem pi_enumS {X : Cx} {e : Expr} {ta : TA} {p pos tpos : Pos} {elts : List Expr} {kk : Nat} (hg : Gl X "enumerate") (hm : X.mg "enumerate" = none) (ha : PA X [e] ta) (hs : starEach [e] X.env = [(false, eval e X.env)] := by rfl) :
    PI X (.Tuple elts kk tpos) (.Call (.Name "enumerate" p) [e] [] pos) (iEnumS X.K ta) := by
  refine ⟨fun pins s σ H R I h => ?_⟩
  refine Call_ (ld_blt I hg hm boot_enumerate (PyProof.Rows.callWith_type1 (thn (ha.run pos pins s σ H _ I h) fun us s1 ⟨vs, H1, I1, r1, q1⟩ => ?_) hs rfl))
  obtain ⟨a, xs, ex, hq⟩ := q1
  subst ex
  cases r1 with
  | cons r rr =>
    cases rr
    cases r
    have fp : ∀ b, b = s1.heap.objs.size + 1 ∨ b = s1.heap.objs.size → FpOk X pins H1 b := fun b e' => by
      have hle : s1.heap.objs.size ≤ b := by
        rcases e' with z | z
        · rw [z]; exact Nat.le_add_right _ _
        · rw [z]; exact Nat.le_refl _
      exact I1.fpOk hle (I1.hok.fresh hle)
    rcases hq with ⟨hq, q⟩ | ⟨hq, q⟩
    · obtain ⟨its, rv, p', hz⟩ := I1.list hq
      refine call_enumerate_list p'.isList fun h' he hit hsz hk => wpAny_pyIter_enum he ?_
      have I2 : Inv X pins σ H1 { s1 with heap := h' } := I1.kept (t' := s1.toks) hk
      exact ⟨s1.heap.objs.size + 1, [s1.heap.objs.size + 1, s1.heap.objs.size], _, _, H1, rfl, I2, turn_enum a (s1.heap.objs.size + 1) s1.heap.objs.size, ⟨⟨.none, he⟩, hit, Nat.succ_ne_self _⟩, fun b hb => fp b (by simpa using hb), q⟩
    · obtain ⟨its, rv, p', hz⟩ := I1.tuple hq
      have hlt : a < s1.heap.objs.size := p'.lt
      refine call_enumT p' fun h' he hit hsz hk => wpAny_pyIter_enum he ?_
      have I2 : Inv X pins σ H1 { s1 with heap := h' } := I1.kept (t' := s1.toks) hk
      exact ⟨s1.heap.objs.size + 1, [s1.heap.objs.size + 1, s1.heap.objs.size], _, _, H1, rfl, I2, turn_enumT a (s1.heap.objs.size + 1) s1.heap.objs.size (Nat.ne_of_lt (Nat.lt_succ_of_lt hlt)) (Nat.ne_of_lt hlt), ⟨⟨.none, he⟩, hit, Nat.succ_ne_self _⟩, fun b hb => fp b (by simpa using hb), q⟩
theorem walk_enumT {K : PySem.W.Frag} {a : Addr} {xs : List V} : Walk (IteT K a) xs.length (fun H => SqT K H a xs) (YPair (fun i => some (.int (i : Nat))) (fun i => xs[i]?)) :=
  ⟨fun i H hi h => ⟨xs, xs[i], h, List.getElem?_eq_getElem hi⟩, fun H h => ⟨xs, h, rfl⟩, fun i H v H' _ h ⟨T, x, e1, e2, e3, e4⟩ => ⟨T, _, x, e1, e2, e3, rfl, e4 xs h⟩⟩

/-! ### a list or a tuple, walked -/
def Sq (H : Hp) (a : Addr) (xs : List V) : Prop := H a = some (.lst xs) ∨ H a = some (.tup xs)
def iSq (K : PySem.W.Frag) (tl : TE) : TI := fun σ H R => tl σ H fun x H1 => ∃ a xs, x = .ref a ∧ ((H1 a = some (.lst xs) ∧ R (Itl K a) H1) ∨ (H1 a = some (.tup xs) ∧ R (Itt K a) H1))
theorem pi_sq {X : Cx} {tg l : Expr} {tl : TE} (hl : PE X l tl) : PI X tg l (iSq X.K tl) := by
  refine ⟨fun pins s σ H R I h => ?_⟩
  refine thn (hl.run pins s σ H _ I h) fun v s1 ⟨x, H1, I1, r1, a, xs, e, q1⟩ => ?_
  subst e
  cases r1
  rcases q1 with ⟨hq, q⟩ | ⟨hq, q⟩
  · obtain ⟨its, rv, p, hz⟩ := I1.list (SqL.of hq)
    refine wpAny_pyIter_list p.isList ?_
    refine ⟨s1.heap.objs.size, [s1.heap.objs.size], _, _, H1, rfl, I1.kept (t' := s1.toks) fun b o e => Heap.get?_push_of_some _ e, turn_list a _, ⟨_, Heap.get?_push_size _ rfl, rfl, rfl⟩, fun b hb => ?_, q⟩
    have e : b = s1.heap.objs.size := by simpa using hb
    rw [e]
    exact I1.fpOk (Nat.le_refl _) (I1.hok.fresh (Nat.le_refl _))
  · obtain ⟨its, rv, p, hz⟩ := I1.tuple (SqT.of hq)
    refine wpAny_pyIter_tuple (show s1.heap.IsTuple a its.toArray from p) ?_
    refine ⟨s1.heap.objs.size, [s1.heap.objs.size], _, _, H1, rfl, I1.kept (t' := s1.toks) fun b o e => Heap.get?_push_of_some _ e, turn_tuple a _, ⟨_, Heap.get?_push_size _ rfl, rfl, rfl⟩, fun b hb => ?_, q⟩
    have e : b = s1.heap.objs.size := by simpa using hb
    rw [e]
    exact I1.fpOk (Nat.le_refl _) (I1.hok.fresh (Nat.le_refl _))

/-! ### xs[i] += e -/
section
variable {X : Cx}
def gL : V → V → Hp → VK → Prop := fun o i H Q => ∃ p xs k j v, o = .ref p ∧ i = .int k ∧ H p = some (.lst xs) ∧ k = ((j : Nat) : Int) ∧ xs[j]? = some v ∧ Q v H
theorem get_list : PGet X gL := by
  intro pins s σ H o i ov iv Q I ro ri h
  obtain ⟨p, xs, k, j, v, rfl, rfl, hp, rfl, hv, q⟩ := h
  cases ro
  obtain ⟨t, rfl⟩ := ri
  obtain ⟨its, r, pl, hz⟩ := I.list (SqL.of hp)
  obtain ⟨w, ew, rw'⟩ := r.get hv
  have hj := (List.getElem?_eq_some_iff.mp hv).1
  have hl := r.length
  have hn := line63
  exact wpAny_getItem_list (k := (j : Int)) pl.isList (by omega) (by omega) (by rw [Int.toNat_natCast]; simpa using ew) ⟨v, H, I, rw', q⟩
/-! ### len(set(a tuple of different ints)) -/
def tLenSetT (K : PySem.W.Frag) (ta : TE) : TE := fun σ H Q => ta σ H fun x H1 => ∃ (l : Addr) (ns : List Int), x = .ref l ∧ SqT K H1 l (ns.map V.int) ∧ ns.Nodup ∧ ns.length ≤ 1000 ∧ Q (.int (ns.length : Nat)) H1
theorem pe_lenSetT {a : Expr} {ta : TE} {p p2 q pos : Pos} (hg : Gl X "len") (hm : X.mg "len" = none) (hg2 : Gl X "set") (hm2 : X.mg "set" = none) (ha : PE X a ta) (hc : X.calm = true := by rfl)
    (na : starEach [a] X.env = (false, eval a X.env) :: starEach [] X.env := by rfl) : PE X (.Call (.Name "len" p) [.Call (.Name "set" p2) [a] [] q] [] pos) (tLenSetT X.K ta) := by
  refine ⟨fun pins s σ H Q I h => ?_⟩
  refine Call_ (ld_blt I hg hm boot_len ?_)
  refine PyProof.Rows.callWith_builtin1 (PyProof.Rows.args_cons ?_ rfl) rfl rfl
  refine Call_ (ld_blt I hg2 hm2 boot_set ?_)
  refine PyProof.Rows.callWith_type1 (PyProof.Rows.args_cons (thn (ha.run pins s σ H _ I h) fun v s1 ⟨x, H1, I1, r1, q1⟩ => PyProof.Rows.args_nil ?_) na) na rfl
  obtain ⟨l, ns, rfl, hq, hnd, hl, q1⟩ := q1
  cases r1
  obtain ⟨its, r, pl, hz⟩ := I1.tuple hq
  refine call_set_tupI ns (I1.ok.hd hc) pl (by simpa using intsAre_of r) (by unfold scanBound; omega) fun h' tk c hS hc' hk => ?_
  refine PyProof.Rows.args_nil ?_
  obtain ⟨o, es, ep, t, ho, hex, hd, _, nd, mem, _, hf, hn, _, _⟩ := hS
  have hcn : es.size = ns.length := by
    have pm : (es.toList.map keyOf).Perm ns := (List.perm_ext_iff_of_nodup nd hnd).mpr fun k => by rw [← mem k, decide_eq_true_iff]
    have := pm.length_eq
    rw [List.length_map, Array.length_toList] at this
    exact this
  have I2 : Inv X pins σ H1 { s1 with heap := h', toks := tk } := I1.kept hk
  exact call_len_set ho hex hd hf (by omega) ⟨.int ns.length, H1, I2.tok _, ⟨_, by rw [hcn]⟩, q1⟩
end
end SF
end

/-! SFw3 -/
section
set_option Elab.async false
set_option maxRecDepth 100000
set_option maxHeartbeats 4000000
/-! sum(a list of lists, []); calls of defs with keyword-only parameters. -/
namespace SF
open PySem PySem.Spec PyProof.Rows L2

section
variable {prog : Program} {w : World} {A : Around}
/-- a list object -/
abbrev lob (vs : List Value) (m : Nat) : Obj := { cls := .type "list", dict := none, data := .seq vs.toArray m, slots := #[] }
def catTo (rows : Nat → List Value) : Nat → List Value
  | 0 => []
  | i + 1 => catTo rows i ++ rows i
theorem catTo_le {rows : Nat → List Value} {n : Nat} : ∀ {i : Nat}, i ≤ n → (catTo rows i).length ≤ (catTo rows n).length := by
  induction n with
  | zero => intro i h; have : i = 0 := by omega
            subst this; exact Nat.le_refl _
  | succ n ih =>
    intro i h
    by_cases e : i = n + 1
    · rw [e]; exact Nat.le_refl _
    · refine Nat.le_trans (ih (by omega)) ?_
      simp [catTo]
theorem sum_loop_lists {R : Result → Shared → Prop} {I : Addr} {fp wr : List Addr} {n : Nat} {P : Nat → Value → Prop} {St : Nat → Heap → Prop} (W : Walks prog w A.in1 I fp wr n P St) (h0 : Heap) (rows : Nat → List Value)
    (hrow : ∀ i v, i < n → P i v → ∃ a m, v = .ref a ∧ h0.get? a = some (lob (rows i) m)) (hsz : (catTo rows n).length ≤ sizeLine) (S : Addr) (hfp : ∀ b ∈ fp, b < S) (hS0 : h0.get? S = none) (hw0 : ∀ b ∈ wr, h0.get? b = none) :
    ∀ (k i : Nat) (s : Shared) (T : Addr) (c m : Nat), n - i = k → i ≤ n → St i s.heap → (∀ b o, h0.get? b = some o → s.heap.get? b = some o) → s.heap.get? S = some { cls := .type "list", dict := none, data := .seq #[.ref T] c, slots := #[] } →
    T ≠ S → T ∉ fp → s.heap.get? T = some (lob (catTo rows i) m) → (i = 0 ∨ S < T) →
    (∀ h' tk T' m', (∀ b o, h0.get? b = some o → h'.get? b = some o) → h'.get? T' = some (lob (catTo rows n) m') → (n = 0 ∨ S < T') → R (.ok (.ret (.ref T'))) { s with heap := h', toks := tk }) →
    codeAny (model prog w) A (.builtin "sum.loop" ⟨[.ref I, .ref S, rawInt 2, rawInt 0], []⟩) R s := by
  have hSf : S ∉ fp := fun q => Nat.lt_irrefl _ (hfp S q)
  have hSw : S ∉ wr := fun h => hSf (W.sub _ h)
  intro k
  induction k with
  | zero =>
    intro i s T c m hk hi hst hb hS hTS hTf hT hnew hR
    have hin : i = n := by omega
    subst hin
    refine codeAny_builtin F.entry_sum_loop ?_
    rw [Around.under_plainId F.plain_sum_loop _]
    show wpAny _ A.in1 (seqItems? (.ref S) >>= _) _ _ s
    refine wpAny_bind (wpAny_seqItems hS rfl ?_)
    show wpAny _ A.in1 (tryCatch (pyNext (.ref I)) _ >>= _) _ _ s
    refine wpAny_bind (wpAny_tryCatch (W.done s _ _ hst fun h' tk hk' => ?_))
    have hTw : T ∉ wr := fun h => hTf (W.sub _ h)
    exact wpAny_pure (hR h' tk T m (fun b o e => hk' b o (fun q => by rw [hw0 b q] at e; cases e) (hb b o e)) (hk' T _ hTw hT) hnew)
  | succ k ih =>
    intro i s T c m hk hi hst hb hS hTS hTf hT hnew hR
    have hlt : i < n := by omega
    refine codeAny_builtin F.entry_sum_loop ?_
    rw [Around.under_plainId F.plain_sum_loop _]
    show wpAny _ A.in1 (seqItems? (.ref S) >>= _) _ _ s
    refine wpAny_bind (wpAny_seqItems hS rfl ?_)
    show wpAny _ A.in1 (tryCatch (pyNext (.ref I)) _ >>= _) _ _ s
    refine wpAny_bind (wpAny_tryCatch (W.item i s _ _ hlt hst fun v h' tk hP hst' hk' => ?_))
    obtain ⟨a, ma, rfl, ha⟩ := hrow i v hlt hP
    have hTw : T ∉ wr := fun h => hTf (W.sub _ h)
    have hS' := hk' S _ hSw hS
    have hT' := hk' T _ hTw hT
    have hb' : ∀ b o, h0.get? b = some o → h'.get? b = some o := fun b o e => hk' b o (fun q => by rw [hw0 b q] at e; cases e) (hb b o e)
    have hlen : (catTo rows (i + 1)).length ≤ sizeLine := Nat.le_trans (catTo_le (by omega)) hsz
    have hl2 : (catTo rows i).length + (rows i).length ≤ sizeLine := by
      simpa [catTo] using hlen
    show wpAny _ A.in1 ((holding [Value.ref a] (binaryOp .Add (.ref T) (.ref a))).attempt >>= _) _ _ _
    refine wpAny_bind (wpAny_attempt (wpAny_holding (PySem.P.add_list (s := { s with heap := h', toks := tk }) hT' (hb' _ _ ha) ?_ (by rw [List.size_toArray, List.size_toArray]; exact hl2))))
    have eap : (catTo rows i).toArray ++ (rows i).toArray = (catTo rows (i + 1)).toArray := by simp [catTo]
    rw [eap]
    -- the heap with the new list at its end
    generalize hh2 : h'.push { cls := .type "list", data := .seq (catTo rows (i + 1)).toArray } = h2
    have kp2 : ∀ b o, h'.get? b = some o → h2.get? b = some o := fun b o e => by rw [← hh2]; exact Heap.get?_push_of_some _ e
    have new2 : h2.get? h'.objs.size = some (lob (catTo rows (i + 1)) 0) := by rw [← hh2]; exact Heap.get?_push_size _ rfl
    have hSlt : S < h'.objs.size := Heap.lt_size hS'
    show wpAny _ A.in1 (updateSeq S (fun _ => #[.ref h'.objs.size]) >>= _) _ _ { s with heap := h2, toks := tk }
    refine wpAny_bind ?_
    refine wpAny_updateSeq (kp2 _ _ hS') rfl ?_
    have hS2 := Heap.get?_update_self (Obj.mapSeq fun _ => #[Value.ref h'.objs.size]) (kp2 _ _ hS') rfl
    refine wpAny_bind (wpAny_letGo ?_)
    refine wpAny_bind ?_
    have oth : ∀ b o, b ≠ S → h2.get? b = some o → ((h2.update S (Obj.mapSeq fun _ => #[Value.ref h'.objs.size])).update S (Obj.mapSeq fun _ => #[Value.ref h'.objs.size])).get? b = some o := fun b o hb e =>
      (Heap.get?_update_other _ _ (Ne.symm hb)).trans ((Heap.get?_update_other _ _ (Ne.symm hb)).trans e)
    have hfn : h'.objs.size ∉ fp := fun q => absurd (Nat.lt_trans (hfp _ q) hSlt) (Nat.lt_irrefl _)
    refine wpAny_updateSeq hS2 rfl (wpAny_pure ⟨plainId_quiet F.plain_sum_loop _, ih (i + 1) _ h'.objs.size _ 0 (by omega) hlt (W.frame _ _ _ hst' fun b hb o e => ?_) (fun b o e => ?_) (Heap.get?_update_self _ hS2 rfl) (Nat.ne_of_gt hSlt) hfn ?_ (.inr hSlt) fun h'' tk'' T'' m'' hk'' hT'' hn'' => ?_⟩)
    · exact oth b o (fun q => hSf (by rw [← q]; exact hb)) (kp2 b o e)
    · exact oth b o (fun q => by rw [q, hS0] at e; cases e) (kp2 b o (hb' b o e))
    · exact oth _ _ (Nat.ne_of_gt hSlt) new2
    · exact hR h'' tk'' T'' m'' hk'' hT'' hn''
theorem args_sum2 (a b : Value) : argsOk "sum" ⟨[a, b], []⟩ := by unfold argsOk; kernel_rfl
theorem sub_l_str : isSubtype (.type "list") (.type "str") = pure false := by rw [isSubtype_type]; kernel_rfl
theorem sub_l_bytes : isSubtype (.type "list") (.type "bytes") = pure false := by rw [isSubtype_type]; kernel_rfl
theorem sub_l_bytearray : isSubtype (.type "list") (.type "bytearray") = pure false := by rw [isSubtype_type]; kernel_rfl
theorem call_sum_lists {E : Value → Shared → Prop} {s : Shared} {L Z : Addr} {items : Array Value} {mz n : Nat} {Q : Value → Shared → Prop} (hh : A.handled = none) (hl : s.heap.IsList L items) (hz : s.heap.get? Z = some (lob [] mz)) (hne : Z ≠ L)
    (rows : Nat → List Value) (hn : items.size = n) (hrow : ∀ i, i < n → ∃ a m, items[i]? = some (.ref a) ∧ s.heap.get? a = some (lob (rows i) m)) (hsz : (catTo rows n).length ≤ sizeLine)
    (hQ : ∀ h' tk T m, (∀ b o, s.heap.get? b = some o → h'.get? b = some o) → h'.get? T = some (lob (catTo rows n) m) → (n = 0 ∨ s.heap.objs.size ≤ T) → Q (.ref T) { s with heap := h', toks := tk }) :
    wpAny (model prog w) A (call (.builtin "sum") [.ref L, .ref Z]) Q E s := by
  refine call_function_tree F.kind_sum F.plain_sum F.entry_sum (args_sum2 _ _) ?_
  unfold Builtin.«sum»
  simp only [List.length_cons, List.length_nil]
  rw [if_neg (by decide)]
  refine wpAny_bind (wpAny_of_eq (show Builtin.Builtins.bindParams "sum" ["start"] 0 { pos := [Value.ref Z] } = pure [some (.ref Z)] from rfl) ?_)
  have hL : L < s.heap.objs.size := by
    obtain ⟨o, ho, _⟩ := id hl
    exact Heap.lt_size ho
  refine wpAny_bind (wpAny_pyIter_list hl ?_)
  have hZlt : Z < s.heap.objs.size := Heap.lt_size hz
  generalize hh2 : s.heap.push { cls := .type "list_iterator", data := .fields #[.ref L, .int 0 0] } = h2
  have kp : ∀ b o, s.heap.get? b = some o → h2.get? b = some o := fun b o e => by rw [← hh2]; exact Heap.get?_push_of_some _ e
  have hsz2 : h2.objs.size = s.heap.objs.size + 1 := by rw [← hh2]; exact Heap.size_push ..
  have hs2 : s.heap.objs.size < h2.objs.size := by rw [hsz2]; exact Nat.lt_succ_self _
  have hit : h2.IsListIter s.heap.objs.size L 0 := by rw [← hh2]; exact ⟨_, Heap.get?_push_size _ rfl, rfl, rfl⟩
  have hTy : ({ s with heap := h2 } : Shared).TypeIs (.ref Z) "list" := ⟨_, kp _ _ hz, rfl⟩
  refine wpAny_bind (wpAny_pure ?_)
  simp only [List.forIn_cons, List.forIn_nil]
  refine wpAny_bind (wpAny_bind (wpAny_bind (wpAny_isInstance (T := "list") (b := false) hTy sub_l_str ?_)))
  simp only [Bool.false_eq_true, if_false]
  refine wpAny_pure (wpAny_bind (wpAny_bind (wpAny_isInstance (T := "list") (b := false) hTy sub_l_bytes ?_)))
  simp only [Bool.false_eq_true, if_false]
  refine wpAny_pure (wpAny_bind (wpAny_bind (wpAny_isInstance (T := "list") (b := false) hTy sub_l_bytearray ?_)))
  simp only [Bool.false_eq_true, if_false]
  refine wpAny_pure (wpAny_pure ?_)
  refine wpAny_bind (wpAny_newObj_type ?_)
  have none_of : ∀ b, s.heap.objs.size ≤ b → s.heap.get? b = none := fun b hb => Heap.get?_none_of_le hb
  have W : Walks prog w A.in1 s.heap.objs.size [s.heap.objs.size, L] [s.heap.objs.size] items.size (fun i v => items[i]? = some v) (fun i h => h.IsListIter s.heap.objs.size L i ∧ h.IsList L items) :=
    Walks.list (show A.in1.handled = none from hh) s.heap.objs.size L (Nat.ne_of_lt hL) items
  rw [hn] at W
  refine wpAny_pure ⟨plainId_quiet F.plain_sum_loop _, sum_loop_lists W s.heap rows (fun i v hi hv => ?_) hsz h2.objs.size (fun b hb => ?_) (none_of _ (Nat.le_of_lt hs2)) (fun b hb => ?_) n 0 _ Z 0 mz (by omega) (Nat.zero_le _) ⟨?_, ?_⟩ (fun b o e => ?_)
    (Heap.get?_push_size _ rfl) (Nat.ne_of_lt (Nat.lt_trans hZlt hs2)) (fun q => ?_) ?_ (.inl rfl) fun h' tk T m k1 k2 k3 => ?_⟩
  · obtain ⟨a, m, e1, e2⟩ := hrow i hi
    have e3 : some v = some (Value.ref a) := hv.symm.trans e1
    exact ⟨a, m, Option.some.inj e3, e2⟩
  · have : b = s.heap.objs.size ∨ b = L := by simpa using hb
    rcases this with e | e
    · rw [e]; exact hs2
    · rw [e]; exact Nat.lt_trans hL hs2
  · have : b = s.heap.objs.size := by simpa using hb
    exact none_of b (Nat.le_of_eq this.symm)
  · exact hit.at fun o e => Heap.get?_push_of_some _ e
  · exact hl.at fun o e => Heap.get?_push_of_some _ (kp _ _ e)
  · exact Heap.get?_push_of_some _ (kp _ _ e)
  · have : Z = s.heap.objs.size ∨ Z = L := by simpa using q
    rcases this with e | e
    · exact absurd hZlt (by rw [e]; exact Nat.lt_irrefl _)
    · exact hne e
  · exact Heap.get?_push_of_some _ (kp _ _ hz)
  · exact hQ h' tk T m k1 k2 (k3.imp id fun q => Nat.le_of_lt (Nat.lt_trans hs2 q))
end
end SF
end

/-! SFw4 -/
section
set_option Elab.async false
set_option maxRecDepth 100000
set_option maxHeartbeats 4000000
/-! sum of lists as a rule of the layer; defs called with keywords; defs that want the guards. -/
namespace SF
open PySem PySem.Spec L2
open PyProof.Rows hiding St

theorem catTo_take (itss : List (List Value)) : ∀ i, i ≤ itss.length → catTo (fun i => itss.getD i []) i = (itss.take i).flatten
  | 0, _ => by simp [catTo]
  | i + 1, h => by
    have hlt : i < itss.length := by omega
    have e : itss.getD i [] = itss[i] := by rw [List.getD_eq_getElem?_getD, List.getElem?_eq_getElem hlt]; rfl
    simp only [catTo, catTo_take itss i (by omega), e]
    rw [List.take_succ_eq_append_getElem hlt, List.flatten_append]
    simp
section
variable {X : Cx} {pins : List (Addr × Obj)} {σ : St} {H : Hp} {s : Shared}
theorem rows_of (I : Inv X pins σ H s) : ∀ {as : List Addr} {rs : List (List V)}, Paired (fun a r => H a = some (.lst r)) as rs →
    ∃ itss : List (List Value), itss.length = as.length ∧ Vals rs.flatten itss.flatten ∧ ∀ (i : Nat) (a : Addr), as[i]? = some a → ∃ m, s.heap.get? a = some (lob (itss.getD i []) m)
  | _, _, .nil => ⟨[], rfl, .nil, fun i a e => by simp at e⟩
  | _, _, .cons (a := a) (b := r) h t => by
    obtain ⟨itss, h1, h2, h3⟩ := rows_of I t
    obtain ⟨z, its, n, rv, hl, e⟩ := I.lstM h
    refine ⟨its :: itss, by simp [h1], by simpa using rv.append h2, fun i b eb => ?_⟩
    cases i with
    | zero =>
      have : a = b := by simpa using eb
      subst this
      exact ⟨n, e⟩
    | succ i => exact h3 i b (by simpa using eb)
def rSumL : List V → Hp → VK → Prop := fun vs H Q => ∃ (L Z : Addr) (as : List Addr) (rs : List (List V)), vs = [.ref L, .ref Z] ∧ H L = some (.lst (as.map V.ref)) ∧ H Z = some (.lst []) ∧ Z ≠ L ∧ Paired (fun a r => H a = some (.lst r)) as rs ∧ as ≠ [] ∧
  rs.flatten.length ≤ sizeLine ∧ ∀ p, H p = none → Q (.ref p) (upd H p (.lst rs.flatten))
theorem vals_refs_eq : ∀ {as : List Addr} {us : List Value}, Vals (as.map V.ref) us → us = as.map Value.ref
  | [], _, .nil => rfl
  | a :: as, _, .cons r t => by
    cases r
    rw [vals_refs_eq t]
    rfl
theorem cr_sumL (hc : X.calm = true) : CallR X (.builtin "sum") rSumL := by
  intro pins s σ H vs us Q I r h
  obtain ⟨L, Z, as, rs, rfl, hL, hZ, hne, hp, h0, hz, q⟩ := h
  obtain ⟨u1, u2, rfl, r1, r2⟩ := vals2 r
  cases r1
  cases r2
  obtain ⟨itss, k1, k2, k3⟩ := rows_of I hp
  obtain ⟨its, rv, pl, hz1⟩ := I.list (SqL.of hL)
  have eits := vals_refs_eq rv
  subst eits
  obtain ⟨zz, iz, nz, rz, hlz, ez⟩ := I.lstM hZ
  cases rz
  have hsz : (as.map Value.ref).toArray.size = itss.length := by rw [List.size_toArray, List.length_map, k1]
  have ecat : catTo (fun i => itss.getD i []) itss.length = itss.flatten := by rw [catTo_take itss _ (Nat.le_refl _), List.take_length]
  refine call_sum_lists (n := itss.length) (I.ok.hd hc) pl.isList ez hne (fun i => itss.getD i []) hsz (fun i hi => ?_) (by rw [ecat, ← k2.length]; exact hz) fun h' tk T m kp hT hn => ?_
  · have hia : i < as.length := by omega
    obtain ⟨m, hm⟩ := k3 i as[i] (List.getElem?_eq_getElem hia)
    exact ⟨as[i], m, by simp [hia], hm⟩
  · rw [ecat] at hT
    have hT0 : s.heap.objs.size ≤ T := by
      rcases hn with e | e
      · have : as.length = 0 := by omega
        exact absurd (List.length_eq_zero_iff.mp this) h0
      · exact e
    exact ⟨.ref T, _, I.laid (t' := tk) (o := .lst rs.flatten) kp hT0 ⟨hz, itss.flatten, m, k2, hT⟩, rfl, q T (I.hok.fresh hT0)⟩
end

/-! ### defs with keyword-only parameters -/
structure DefK (P : Program) (w : World) (K : PySem.W.Frag) (mg : Str → Option Value) (base : Heap) (k : Nat) (x : Str) (ps : List Str) (n : Nat) (ks : List Str) (sp : Sp) : Prop where
  ex : ∃ f fd, FnOk P w K mg base CX0 k f fd ps sp ∧ mg x = some (.ref f) ∧ PySem.W.keepIn K (.ref f) = true ∧ KBn K fd ps n ks (fun us ws => us ++ ws) (fun vs zs => vs ++ zs)
section
variable {P : Program} {w : World} {K : PySem.W.Frag} {mg : Str → Option Value} {base : Heap} {x : Str} {st : Stmt} {N ps ks : List Str} {k n : Nat} {sp : Sp}
theorem Raw.madeK (R : Raw K mg x st) (S : FnScope N ps (defScope st)) (len : ∀ vs H Q E, sp vs H Q E → vs.length = ps.length)
    (hb : ∀ (kV doc pm : Value) (an : Option Addr) (cdv ct : Value) (us ws : List Value), us.length = n → ws.length = ks.length → bindArgs (PySem.W.fnOf x x (defArgs st) (defBody st) (defScope st) .none kV doc pm an cdv ct) ⟨us, ks.zip ws⟩ = pure (ps.zip (us ++ ws)))
    (body : ∀ (f : Addr) (cdv : Value) (A : Around) (outer : List Env) (s : Shared) (H : Hp) (vs : List V) (Q : VK) (E : XK), Room k (A.deeper (envOfC x (defScope st) s.heap.objs.size f cdv)) → sp vs H Q E →
      ∃ t, PSs (cxOf CX0 P w K mg base N x (defScope st) f cdv A outer s H E).nox (defBody st) t ∧ t { nx := fun _ H' => Q .non H', rt := Q } (start N vs) H) : DefK P w K mg base (k + 1) x ps n ks sp := by
  obtain ⟨f, fd, hf, hm⟩ := R.ex
  refine ⟨f, fd, hf.ok S len (body f), hm, hf.kp, ⟨fun s us ws _ l1 l2 => ?_, fun r1 r2 => r1.append r2⟩⟩
  obtain ⟨oc, od, kV, doc, pm, an, cdv, ct, osl, rfl, lk, hcd⟩ := hf.ex
  exact .of_eq (hb kV doc pm an cdv ct us ws l1 l2)
end
section
variable {X : Cx} {k n : Nat} {x : Str} {ps ks : List Str} {sp : Sp} {e : Expr} {es : List Expr} {kws : List Keyword} {t tk : TA} {p pos : Pos}
theorem pe_fnK (D : DefK X.prog X.w X.K X.mg X.base k x ps n ks sp) (hr : Room k X.A) (hg : Gl X x) (ha : PA X (e :: es) t) (hkw : PK X kws tk)
    (hall : (backToKw pos (keywordEach kws X.env)).all (·.1.isSome) = true := by rfl) (hks : (backToKw pos (keywordEach kws X.env)).filterMap (·.1) = ks := by rfl)
    (hdb : (x == ("__debug__" : Str)) = false := by decide) (he : starEach (e :: es) X.env = (false, eval e X.env) :: starEach es X.env := by rfl)
    (hpl : ((backTo pos (starEach (e :: es) X.env)).any (·.1) || (backToKw pos (keywordEach kws X.env)).any (·.1.isNone)) = false := by rfl) :
    PE X (.Call (.Name x p) (e :: es) kws pos) (tCallN n ks.length sp (fun vs zs => vs ++ zs) E0 t tk) := by
  obtain ⟨f, fd, F, hm, kp, b⟩ := D.ex
  exact pe_callN F hr hg hm kp b pass0 ha hkw hall hks hdb he hpl
/-- f(k = v), no positional value -/
theorem pe_fnK0 (D : DefK X.prog X.w X.K X.mg X.base k x ps 0 ks sp) (hr : Room k X.A) (hg : Gl X x) (hkw : PK X kws tk)
    (hall : (backToKw pos (keywordEach kws X.env)).all (·.1.isSome) = true := by rfl) (hks : (backToKw pos (keywordEach kws X.env)).filterMap (·.1) = ks := by rfl)
    (hdb : (x == ("__debug__" : Str)) = false := by decide)
    (hpl : ((backTo pos (starEach [] X.env)).any (·.1) || (backToKw pos (keywordEach kws X.env)).any (·.1.isNone)) = false := by rfl) :
    PE X (.Call (.Name x p) [] kws pos) (tCallN 0 ks.length sp (fun vs zs => vs ++ zs) E0 tNil tk) := by
  obtain ⟨f, fd, F, hm, kp, b⟩ := D.ex
  refine ⟨fun pins s σ H Q I h => ?_⟩
  refine wpAny_Call_Name_kw (ld_glob I hg hm ?_ hdb)
  refine PySem.W.callWith_KW0 (h₀ := X.base) I.ok.mod.kin kp hall ?_ hpl
  refine thn (hkw.run pos pins s σ H _ I h) fun ws s2 ⟨zs, H2, I2, rz, l1, l2, q2⟩ => ⟨I2.kIn, ?_⟩
  rw [hks]
  exact run_fnN (us := []) (vs := []) F hr b pass0 I2 .nil rz l1 l2 q2
end

/-! ### defs that call repr: the guards are known to be none -/
structure FnG (P : Program) (w : World) (K : PySem.W.Frag) (mg : Str → Option Value) (base : Heap) (k : Nat) (f : Addr) (fd : FuncData) (ps : List Str) (sp : Sp) : Prop where
  len : ∀ vs H Q E, sp vs H Q E → vs.length = ps.length
  run : ∀ (A : Around) (outer : List Env) (s : Shared) (H : Hp) (args : Args) (us : List Value) (vs : List V) (Q : VK) (E : XK), A.guards = some [] → Room k A → Env0 P w K mg base A outer s H → BindsTo s fd args (ps.zip us) → Vals vs us →
    sp vs H Q E → codeAny (model P w) A (.call (.ref f) args) (CR CX0 outer P w H s Q E) s
structure DefG (P : Program) (w : World) (K : PySem.W.Frag) (mg : Str → Option Value) (base : Heap) (k : Nat) (x : Str) (ps : List Str) (sp : Sp) : Prop where
  ex : ∃ f fd, FnG P w K mg base k f fd ps sp ∧ mg x = some (.ref f) ∧ PySem.W.keepIn K (.ref f) = true ∧ Binds K fd ps []
section
variable {P : Program} {w : World} {K : PySem.W.Frag} {mg : Str → Option Value} {base : Heap} {x : Str} {st : Stmt} {N ps : List Str} {k : Nat} {sp : Sp}
/-- a promise at one entry, by the rule for any: what is asked ahead of the entry is put into the promise -/
theorem fnG_of {f : Addr} {fd : FuncData} (hf : Fun K x x st f fd) (S : FnScope N ps (defScope st)) (len : ∀ vs H Q E, sp vs H Q E → vs.length = ps.length)
    (body : ∀ (cdv : Value) (A : Around) (outer : List Env) (s : Shared) (H : Hp) (vs : List V) (Q : VK) (E : XK), A.guards = some [] → Room k (A.deeper (envOfC x (defScope st) s.heap.objs.size f cdv)) → sp vs H Q E →
      ∃ t, PSs (cxOf CX0 P w K mg base N x (defScope st) f cdv A outer s H E).nox (defBody st) t ∧ t { nx := fun _ H' => Q .non H', rt := Q } (start N vs) H) : FnG P w K mg base (k + 1) f fd ps sp := by
  refine ⟨len, fun A outer s H args us vs Q E hg hr e0 hb r hsp => ?_⟩
  obtain ⟨oc, od, kV, doc, pm, an, cdv, ct, osl, rfl, lk, hcd⟩ := hf.ex
  have hl := len _ _ _ _ hsp
  have KX : K.In s.heap := e0.mod.kin.keeps fun b o e => (e0.bs b o e).1
  have lim : s.heap.NoLimit := e0.mod.nolimit.keeps fun b o e => (e0.bs b o e).1
  have hkind : ∀ y ∈ ps.zip us, (defScope st).names.lookup y.1 = some .local ∨ ((defScope st).names.lookup y.1 = some .cell ∧ ((cellsFrom (s.heap.objs.size + 1) (defScope st).names []).lookup y.1).isSome = true) := fun ⟨n, v⟩ hy => by
    rcases S.par n (List.of_mem_zip hy).1 with q | q
    · exact .inl q
    · exact .inr ⟨q, PySem.W.cellsFrom_some _ _ _ (.inl q)⟩
  refine codeAny_call_function hr.depth (KX _ _ lk) rfl S.co S.gen rfl (PySem.W.codeRec_of KX hcd) (hb _ _ _ _ ?_)
  refine wpAny_newFunctionEnv_cells S.kind hkind fun env he s1 xx => ?_
  subst he
  refine ⟨lim.keeps xx.toInCall.keep, codeAny_func ?_⟩
  obtain ⟨t, ht, hq⟩ := body cdv A outer s H vs Q E hg (hr.deeper _) hsp
  have I : Inv (cxOf CX0 P w K mg base N x (defScope st) f cdv A outer s H E) [] (start N vs) H s1 := inv_start S hr.hd e0 hl r xx
  refine wpAny_mono (ht.nox.run [] s1 (start N vs) H _ I hq) (fun fl s' hs => ?_) fun e s' hs => hs
  have fin : ∀ {σ' : St} {H' : Hp} {v : V} {u : Value}, Inv (cxOf CX0 P w K mg base N x (defScope st) f cdv A outer s H E) [] σ' H' s' → RelV v u → Q v H' → CE outer P w H s Q u s' :=
    fun {σ' H' v u} J rv q => ⟨v, H', J.os, J.bare, J.base, J.hok, rv, q⟩
  cases fl with
  | ret u =>
    obtain ⟨v, σ', H', J, rv, q⟩ := hs
    exact fin J rv q
  | next =>
    obtain ⟨σ', H', J, q⟩ := hs
    exact fin (v := V.non) (u := Value.none) J rfl q
  | brk =>
    obtain ⟨_, _, _, q⟩ := hs
    exact False.elim q
  | cont =>
    obtain ⟨_, _, _, q⟩ := hs
    exact False.elim q
theorem Raw.madeG (R : Raw K mg x st) (S : FnScope N ps (defScope st)) (len : ∀ vs H Q E, sp vs H Q E → vs.length = ps.length)
    (hb : ∀ (kV doc pm : Value) (an : Option Addr) (cdv ct : Value) (us : List Value), us.length = ps.length → bindArgs (PySem.W.fnOf x x (defArgs st) (defBody st) (defScope st) .none kV doc pm an cdv ct) ⟨us, []⟩ = pure (ps.zip us))
    (body : ∀ (f : Addr) (cdv : Value) (A : Around) (outer : List Env) (s : Shared) (H : Hp) (vs : List V) (Q : VK) (E : XK), A.guards = some [] → Room k (A.deeper (envOfC x (defScope st) s.heap.objs.size f cdv)) → sp vs H Q E →
      ∃ t, PSs (cxOf CX0 P w K mg base N x (defScope st) f cdv A outer s H E).nox (defBody st) t ∧ t { nx := fun _ H' => Q .non H', rt := Q } (start N vs) H) : DefG P w K mg base (k + 1) x ps sp := by
  obtain ⟨f, fd, hf, hm⟩ := R.ex
  exact ⟨f, fd, fnG_of hf S len (body f), hm, hf.kp, hf.binds hb⟩
end
theorem pe_fnG {X : Cx} {k : Nat} {x : Str} {ps : List Str} {sp : Sp} {e : Expr} {es : List Expr} {t : TA} {p pos : Pos} (D : DefG X.prog X.w X.K X.mg X.base k x ps sp) (hgu : X.A.guards = some []) (hr : Room k X.A) (hg : Gl X x) (ha : PA X (e :: es) t)
    (hdb : (x == ("__debug__" : Str)) = false := by decide) (he : starEach (e :: es) X.env = (false, eval e X.env) :: starEach es X.env := by rfl) (hpl : (backTo pos (starEach es X.env)).any (·.1) = false := by rfl) :
    PE X (.Call (.Name x p) (e :: es) [] pos) (tCall sp [] E0 t) := by
  obtain ⟨f, fd, F, hm, kp, b⟩ := D.ex
  refine ⟨fun pins s σ H Q I h => ?_⟩
  refine wpAny_Call_Name_kw (ld_glob I hg hm ?_ hdb)
  refine PySem.W.callWith_K (h₀ := X.base) I.ok.mod.kin kp (thn (ha.run pos pins s σ H _ I h) fun us s1 ⟨vs, H1, I1, r, q⟩ => ⟨I1.kIn, ?_⟩) he hpl
  have q' : sp vs H1 Q E0 := by
    have e : vs ++ [] = vs := List.append_nil vs
    rw [← e]
    exact q
  have hl : (us ++ []).length = ps.length := by rw [List.append_nil, ← r.length]; exact F.len _ _ _ _ q'
  have hbd := b s1 us I1.kIn hl
  rw [List.append_nil] at hbd
  refine wpAny_call (codeAny_mono (F.run X.A X.stack s1 H1 ⟨us, []⟩ us vs Q E0 hgu hr I1.env0 hbd r q') fun r s' hq => ?_)
  cases r with
  | error e => exact hq.elim
  | ok fl =>
    cases fl with
    | ret u => exact I1.after hq
    | next => exact False.elim hq
    | brk => exact False.elim hq
    | cont => exact False.elim hq
end SF
end

/-! SFs -/
section
set_option Elab.async false
set_option maxRecDepth 100000
set_option maxHeartbeats 4000000
/-! The defs of the text, their names by slots (printed by wip/gen.py). -/
namespace SF
open PySem PySem.Spec L2
open PyProof.Rows hiding St
abbrev s_is_integer : Stmt := top 6
abbrev N_is_integer : List Str := ["value"]
theorem sc_is_integer : FnScope N_is_integer ["value"] (defScope s_is_integer) := ⟨rfl, rfl, rfl, by decide +kernel, rfl, by decide +kernel, by decide +kernel⟩
-- slots: 0 value
abbrev s_is_between : Stmt := top 7
abbrev N_is_between : List Str := ["value", "least", "most"]
theorem sc_is_between : FnScope N_is_between ["value", "least", "most"] (defScope s_is_between) := ⟨rfl, rfl, rfl, by decide +kernel, rfl, by decide +kernel, by decide +kernel⟩
-- slots: 0 value, 1 least, 2 most
abbrev s_is_limit : Stmt := top 8
abbrev N_is_limit : List Str := ["value"]
theorem sc_is_limit : FnScope N_is_limit ["value"] (defScope s_is_limit) := ⟨rfl, rfl, rfl, by decide +kernel, rfl, by decide +kernel, by decide +kernel⟩
-- slots: 0 value
abbrev s_are_children : Stmt := top 10
abbrev N_are_children : List Str := ["value", "size", "entry"]
theorem sc_are_children : FnScope N_are_children ["value", "size"] (defScope s_are_children) := ⟨rfl, rfl, rfl, by decide +kernel, rfl, by decide +kernel, by decide +kernel⟩
-- slots: 0 value, 1 size, 2 entry; cells: size
abbrev s_preorder_from : Stmt := top 11
abbrev N_preorder_from : List Str := ["children", "start", "found", "waiting", "node"]
theorem sc_preorder_from : FnScope N_preorder_from ["children", "start"] (defScope s_preorder_from) := ⟨rfl, rfl, rfl, by decide +kernel, rfl, by decide +kernel, by decide +kernel⟩
-- slots: 0 children, 1 start, 2 found, 3 waiting, 4 node
abbrev s_occurrences : Stmt := top 12
abbrev N_occurrences : List Str := ["children", "found", "row", "child"]
theorem sc_occurrences : FnScope N_occurrences ["children"] (defScope s_occurrences) := ⟨rfl, rfl, rfl, by decide +kernel, rfl, by decide +kernel, by decide +kernel⟩
-- slots: 0 children, 1 found, 2 row, 3 child
abbrev s_first_problem : Stmt := top 13
abbrev N_first_problem : List Str := ["children", "size", "node", "times", "roots", "reached"]
theorem sc_first_problem : FnScope N_first_problem ["children"] (defScope s_first_problem) := ⟨rfl, rfl, rfl, by decide +kernel, rfl, by decide +kernel, by decide +kernel⟩
-- slots: 0 children, 1 size, 2 node, 3 times, 4 roots, 5 reached; cells: times
abbrev s_is_tree : Stmt := top 14
abbrev N_is_tree : List Str := ["value", "row"]
theorem sc_is_tree : FnScope N_is_tree ["value"] (defScope s_is_tree) := ⟨rfl, rfl, rfl, by decide +kernel, rfl, by decide +kernel, by decide +kernel⟩
-- slots: 0 value, 1 row
abbrev s_root_of : Stmt := top 15
abbrev N_root_of : List Str := ["tree"]
theorem sc_root_of : FnScope N_root_of ["tree"] (defScope s_root_of) := ⟨rfl, rfl, rfl, by decide +kernel, rfl, by decide +kernel, by decide +kernel⟩
-- slots: 0 tree
abbrev s_log_of : Stmt := top 16
abbrev N_log_of : List Str := ["tree", "limit", "log", "shelf", "waiting", "node", "depth", "child"]
theorem sc_log_of : FnScope N_log_of ["tree", "limit"] (defScope s_log_of) := ⟨rfl, rfl, rfl, by decide +kernel, rfl, by decide +kernel, by decide +kernel⟩
-- slots: 0 tree, 1 limit, 2 log, 3 shelf, 4 waiting, 5 node, 6 depth, 7 child; cells: depth
abbrev s_common_divisor : Stmt := top 19
abbrev N_common_divisor : List Str := ["one", "other"]
theorem sc_common_divisor : FnScope N_common_divisor ["one", "other"] (defScope s_common_divisor) := ⟨rfl, rfl, rfl, by decide +kernel, rfl, by decide +kernel, by decide +kernel⟩
-- slots: 0 one, 1 other
abbrev s_common_multiple : Stmt := top 20
abbrev N_common_multiple : List Str := ["limits", "found", "limit"]
theorem sc_common_multiple : FnScope N_common_multiple ["limits"] (defScope s_common_multiple) := ⟨rfl, rfl, rfl, by decide +kernel, rfl, by decide +kernel, by decide +kernel⟩
-- slots: 0 limits, 1 found, 2 limit
abbrev s_determines : Stmt := top 21
abbrev N_determines : List Str := ["limits", "size"]
theorem sc_determines : FnScope N_determines ["limits", "size"] (defScope s_determines) := ⟨rfl, rfl, rfl, by decide +kernel, rfl, by decide +kernel, by decide +kernel⟩
-- slots: 0 limits, 1 size
abbrev s_is_log : Stmt := top 22
abbrev N_is_log : List Str := ["value", "entry"]
theorem sc_is_log : FnScope N_is_log ["value"] (defScope s_is_log) := ⟨rfl, rfl, rfl, by decide +kernel, rfl, by decide +kernel, by decide +kernel⟩
-- slots: 0 value, 1 entry; cells: value
abbrev s_is_entry : Stmt := top 23
abbrev N_is_entry : List Str := ["value"]
theorem sc_is_entry : FnScope N_is_entry ["value"] (defScope s_is_entry) := ⟨rfl, rfl, rfl, by decide +kernel, rfl, by decide +kernel, by decide +kernel⟩
-- slots: 0 value
abbrev s_require_logs : Stmt := top 24
abbrev N_require_logs : List Str := ["logs", "limits", "index", "entry"]
theorem sc_require_logs : FnScope N_require_logs ["logs"] (defScope s_require_logs) := ⟨rfl, rfl, rfl, by decide +kernel, rfl, by decide +kernel, by decide +kernel⟩
-- slots: 0 logs, 1 limits, 2 index, 3 entry
abbrev s_spots_of : Stmt := top 25
abbrev N_spots_of : List Str := ["log", "found", "position", "node"]
theorem sc_spots_of : FnScope N_spots_of ["log"] (defScope s_spots_of) := ⟨rfl, rfl, rfl, by decide +kernel, rfl, by decide +kernel, by decide +kernel⟩
-- slots: 0 log, 1 found, 2 position, 3 node
abbrev s_first_difference_of : Stmt := top 26
abbrev N_first_difference_of : List Str := ["one", "other", "mine", "yours"]
theorem sc_first_difference_of : FnScope N_first_difference_of ["one", "other"] (defScope s_first_difference_of) := ⟨rfl, rfl, rfl, by decide +kernel, rfl, by decide +kernel, by decide +kernel⟩
-- slots: 0 one, 1 other, 2 mine, 3 yours
abbrev s_path_to : Stmt := top 27
abbrev N_path_to : List Str := ["above", "node", "found"]
theorem sc_path_to : FnScope N_path_to ["above", "node"] (defScope s_path_to) := ⟨rfl, rfl, rfl, by decide +kernel, rfl, by decide +kernel, by decide +kernel⟩
-- slots: 0 above, 1 node, 2 found
abbrev s_parent_by_logs : Stmt := top 28
abbrev N_parent_by_logs : List Str := ["above", "last", "node", "spots", "other", "spot"]
theorem sc_parent_by_logs : FnScope N_parent_by_logs ["above", "last", "node", "spots"] (defScope s_parent_by_logs) := ⟨rfl, rfl, rfl, by decide +kernel, rfl, by decide +kernel, by decide +kernel⟩
-- slots: 0 above, 1 last, 2 node, 3 spots, 4 other, 5 spot; cells: node, other
abbrev s_forced_by_logs : Stmt := top 29
abbrev N_forced_by_logs : List Str := ["logs", "order", "spots", "above", "found", "last", "node", "limit", "log", "row"]
theorem sc_forced_by_logs : FnScope N_forced_by_logs ["logs"] (defScope s_forced_by_logs) := ⟨rfl, rfl, rfl, by decide +kernel, rfl, by decide +kernel, by decide +kernel⟩
-- slots: 0 logs, 1 order, 2 spots, 3 above, 4 found, 5 last, 6 node, 7 limit, 8 log, 9 row
abbrev s_tree_from_logs : Stmt := top 30
abbrev N_tree_from_logs : List Str := ["logs", "tree", "limit", "log", "own"]
theorem sc_tree_from_logs : FnScope N_tree_from_logs ["logs"] (defScope s_tree_from_logs) := ⟨rfl, rfl, rfl, by decide +kernel, rfl, by decide +kernel, by decide +kernel⟩
-- slots: 0 logs, 1 tree, 2 limit, 3 log, 4 own
abbrev s_Lsource : Stmt := top 32
abbrev N_Lsource : List Str := ["_law_script"]
theorem sc_Lsource : FnScope N_Lsource ["_law_script"] (defScope s_Lsource) := ⟨rfl, rfl, rfl, by decide +kernel, rfl, by decide +kernel, by decide +kernel⟩
-- slots: 0 _law_script
abbrev s_Ldraw : Stmt := top 33
abbrev N_Ldraw : List Str := ["_law_source_here", "_law_bound", "_law_digit", "_law_place", "_law_cell", "_law_great", "_law_mixed"]
theorem sc_Ldraw : FnScope N_Ldraw ["_law_source_here", "_law_bound"] (defScope s_Ldraw) := ⟨rfl, rfl, rfl, by decide +kernel, rfl, by decide +kernel, by decide +kernel⟩
-- slots: 0 _law_source_here, 1 _law_bound, 2 _law_digit, 3 _law_place, 4 _law_cell, 5 _law_great, 6 _law_mixed
abbrev s_Lpermutation : Stmt := top 34
abbrev N_Lpermutation : List Str := ["_law_source_here", "_law_size_here", "_law_left", "_law_entry"]
theorem sc_Lpermutation : FnScope N_Lpermutation ["_law_source_here", "_law_size_here"] (defScope s_Lpermutation) := ⟨rfl, rfl, rfl, by decide +kernel, rfl, by decide +kernel, by decide +kernel⟩
-- slots: 0 _law_source_here, 1 _law_size_here, 2 _law_left, 3 _law_entry; cells: _law_left, _law_source_here
abbrev s_Lsize : Stmt := top 35
abbrev N_Lsize : List Str := ["_law_source_here", "_law_most", "_law_way", "_law_size_here"]
theorem sc_Lsize : FnScope N_Lsize ["_law_source_here", "_law_most"] (defScope s_Lsize) := ⟨rfl, rfl, rfl, by decide +kernel, rfl, by decide +kernel, by decide +kernel⟩
-- slots: 0 _law_source_here, 1 _law_most, 2 _law_way, 3 _law_size_here
abbrev s_Ltree : Stmt := top 36
abbrev N_Ltree : List Str := ["_law_source_here", "_law_size_here", "_law_way", "_law_names", "_law_rows", "_law_node", "_law_back", "_law_above", "_law_tree_here", "_law_entry", "_law_child"]
theorem sc_Ltree : FnScope N_Ltree ["_law_source_here", "_law_size_here"] (defScope s_Ltree) := ⟨rfl, rfl, rfl, by decide +kernel, rfl, by decide +kernel, by decide +kernel⟩
-- slots: 0 _law_source_here, 1 _law_size_here, 2 _law_way, 3 _law_names, 4 _law_rows, 5 _law_node, 6 _law_back, 7 _law_above, 8 _law_tree_here, 9 _law_entry, 10 _law_child; cells: _law_names
abbrev s_Lroot : Stmt := top 37
abbrev N_Lroot : List Str := ["_law_tree_here", "_law_children", "_law_row", "_law_node"]
theorem sc_Lroot : FnScope N_Lroot ["_law_tree_here"] (defScope s_Lroot) := ⟨rfl, rfl, rfl, by decide +kernel, rfl, by decide +kernel, by decide +kernel⟩
-- slots: 0 _law_tree_here, 1 _law_children, 2 _law_row, 3 _law_node; cells: _law_children
abbrev s_Ldestroy : Stmt := top 38
abbrev N_Ldestroy : List Str := ["_law_tree_here", "_law_node", "_law_depth", "_law_limit", "_law_log_here", "_law_shelf", "_law_child"]
theorem sc_Ldestroy : FnScope N_Ldestroy ["_law_tree_here", "_law_node", "_law_depth", "_law_limit", "_law_log_here", "_law_shelf"] (defScope s_Ldestroy) := ⟨rfl, rfl, rfl, by decide +kernel, rfl, by decide +kernel, by decide +kernel⟩
-- slots: 0 _law_tree_here, 1 _law_node, 2 _law_depth, 3 _law_limit, 4 _law_log_here, 5 _law_shelf, 6 _law_child
abbrev s_Llog : Stmt := top 39
abbrev N_Llog : List Str := ["_law_tree_here", "_law_limit", "_law_log_here", "_law_shelf"]
theorem sc_Llog : FnScope N_Llog ["_law_tree_here", "_law_limit"] (defScope s_Llog) := ⟨rfl, rfl, rfl, by decide +kernel, rfl, by decide +kernel, by decide +kernel⟩
-- slots: 0 _law_tree_here, 1 _law_limit, 2 _law_log_here, 3 _law_shelf
abbrev s_Ldeciding : Stmt := top 40
abbrev N_Ldeciding : List Str := ["_law_limits", "_law_size_here", "_law_found", "_law_depth", "_law_fitting", "_law_limit"]
theorem sc_Ldeciding : FnScope N_Ldeciding ["_law_limits", "_law_size_here"] (defScope s_Ldeciding) := ⟨rfl, rfl, rfl, by decide +kernel, rfl, by decide +kernel, by decide +kernel⟩
-- slots: 0 _law_limits, 1 _law_size_here, 2 _law_found, 3 _law_depth, 4 _law_fitting, 5 _law_limit; cells: _law_depth
abbrev s_Ldetermines : Stmt := top 41
abbrev N_Ldetermines : List Str := ["_law_limits", "_law_size_here"]
theorem sc_Ldetermines : FnScope N_Ldetermines ["_law_limits", "_law_size_here"] (defScope s_Ldetermines) := ⟨rfl, rfl, rfl, by decide +kernel, rfl, by decide +kernel, by decide +kernel⟩
-- slots: 0 _law_limits, 1 _law_size_here
abbrev s_Lsome_limits : Stmt := top 42
abbrev N_Lsome_limits : List Str := ["_law_source_here", "_law_size_here", "_law_found", "_law_entry", "_law_limit", "_law_great"]
theorem sc_Lsome_limits : FnScope N_Lsome_limits ["_law_source_here", "_law_size_here"] (defScope s_Lsome_limits) := ⟨rfl, rfl, rfl, by decide +kernel, rfl, by decide +kernel, by decide +kernel⟩
-- slots: 0 _law_source_here, 1 _law_size_here, 2 _law_found, 3 _law_entry, 4 _law_limit, 5 _law_great; cells: _law_found, _law_source_here
abbrev s_Ldamaged : Stmt := top 43
abbrev N_Ldamaged : List Str := ["_law_source_here", "_law_pairs", "_law_way", "_law_rows", "_law_which", "_law_size_here", "_law_one", "_law_other", "_law_row", "_law_limit", "_law_log_here", "_law_at"]
theorem sc_Ldamaged : FnScope N_Ldamaged ["_law_source_here", "_law_pairs"] (defScope s_Ldamaged) := ⟨rfl, rfl, rfl, by decide +kernel, rfl, by decide +kernel, by decide +kernel⟩
-- slots: 0 _law_source_here, 1 _law_pairs, 2 _law_way, 3 _law_rows, 4 _law_which, 5 _law_size_here, 6 _law_one, 7 _law_other, 8 _law_row, 9 _law_limit, 10 _law_log_here, 11 _law_at; cells: _law_pairs, _law_rows
abbrev s_Lplaces : Stmt := top 44
abbrev N_Lplaces : List Str := ["_law_log_here", "_law_node"]
theorem sc_Lplaces : FnScope N_Lplaces ["_law_log_here"] (defScope s_Lplaces) := ⟨rfl, rfl, rfl, by decide +kernel, rfl, by decide +kernel, by decide +kernel⟩
-- slots: 0 _law_log_here, 1 _law_node; cells: _law_log_here
abbrev s_Lforced : Stmt := top 45
abbrev N_Lforced : List Str := ["_law_pairs", "_law_order", "_law_tables", "_law_path", "_law_rows", "_law_node", "_law_cut", "_law_place", "_law_limit", "_law_log_here", "_law_table"]
theorem sc_Lforced : FnScope N_Lforced ["_law_pairs"] (defScope s_Lforced) := ⟨rfl, rfl, rfl, by decide +kernel, rfl, by decide +kernel, by decide +kernel⟩
-- slots: 0 _law_pairs, 1 _law_order, 2 _law_tables, 3 _law_path, 4 _law_rows, 5 _law_node, 6 _law_cut, 7 _law_place, 8 _law_limit, 9 _law_log_here, 10 _law_table; cells: _law_node, _law_path, _law_place
abbrev s_Lall : Stmt := top 46
abbrev N_Lall : List Str := ["_law_order", "_law_found", "_law_node", "_law_longer", "_law_path", "_law_rows", "_law_cut", "_law_more"]
theorem sc_Lall : FnScope N_Lall ["_law_order"] (defScope s_Lall) := ⟨rfl, rfl, rfl, by decide +kernel, rfl, by decide +kernel, by decide +kernel⟩
-- slots: 0 _law_order, 1 _law_found, 2 _law_node, 3 _law_longer, 4 _law_path, 5 _law_rows, 6 _law_cut, 7 _law_more
abbrev s_Lright : Stmt := top 47
abbrev N_Lright : List Str := ["_law_pairs", "_law_before", "_law_tree_here", "_law_unlike", "_law_expected", "_law_limit", "_law_log_here", "_law_own", "_law_order", "_law_having", "_law_other", "_law_place"]
theorem sc_Lright : FnScope N_Lright ["_law_pairs"] (defScope s_Lright) := ⟨rfl, rfl, rfl, by decide +kernel, rfl, by decide +kernel, by decide +kernel⟩
-- slots: 0 _law_pairs, 1 _law_before, 2 _law_tree_here, 3 _law_unlike, 4 _law_expected, 5 _law_limit, 6 _law_log_here, 7 _law_own, 8 _law_order, 9 _law_having, 10 _law_other, 11 _law_place; cells: _law_log_here, _law_other, _law_own, _law_tree_here
abbrev s_law : Stmt := top 48
abbrev N_law : List Str := ["_law_script", "_law_source_here", "_law_turn", "_law_tree_here", "_law_limits", "_law_pairs", "_law_again", "_law_limit"]
theorem sc_law : FnScope N_law ["_law_script"] (defScope s_law) := ⟨rfl, rfl, rfl, by decide +kernel, rfl, by decide +kernel, by decide +kernel⟩
-- slots: 0 _law_script, 1 _law_source_here, 2 _law_turn, 3 _law_tree_here, 4 _law_limits, 5 _law_pairs, 6 _law_again, 7 _law_limit; cells: _law_tree_here
end SF
end

/-! SFr -/
section
set_option Elab.async false
set_option maxRecDepth 100000
set_option maxHeartbeats 4000000
/-! How numbers, logs, trees, pairs stand in the heap. -/
namespace SF
open PySem PySem.Spec L2
open PyProof.Rows hiding St

abbrev vn (n : Nat) : V := .int (n : Int)
abbrev tupN (l : List Nat) : HO := .tup (l.map vn)
abbrev lstN (l : List Nat) : HO := .lst (l.map vn)
/-- the tuples stay -/
def TK (H H' : Hp) : Prop := ∀ a o xs, (o = .tup xs ∨ ∃ u, o = .frz u (.tup xs)) → H a = some o → H' a = some o
theorem TK.tup {H H' : Hp} {a : Addr} {xs : List V} (k : TK H H') (h : H a = some (.tup xs)) : H' a = some (.tup xs) := k a _ xs (.inl rfl) h
/-- a tuple of numbers, perhaps one whose object is known (its methods can be called) -/
def Lz (l : List Nat) (o : HO) : Prop := ∃ u : Obj, u.cls = .type "tuple" ∧ u.dict = none ∧ o = .frz u (tupN l)
def LT (l : List Nat) (o : HO) : Prop := o = tupN l ∨ Lz l o
theorem LT.tk {l : List Nat} {o : HO} (h : LT l o) : o = tupN l ∨ ∃ u, o = .frz u (tupN l) := h.imp id fun ⟨u, _, _, e⟩ => ⟨u, e⟩
theorem TK.lt {H H' : Hp} {a : Addr} {l : List Nat} {o : HO} (k : TK H H') (t : LT l o) (h : H a = some o) : H' a = some o := k a o _ t.tk h
theorem sqt_lt {K : PySem.W.Frag} {H : Hp} {a : Addr} {l : List Nat} {o : HO} (t : LT l o) (h : H a = some o) : SqT K H a (l.map vn) := by
  rcases t with rfl | ⟨u, _, _, rfl⟩
  · exact SqT.of h
  · exact .inl (.inr ⟨u, h⟩)
def Lg (H : Hp) (a : Addr) (l : List Nat) : Prop := ∃ o, LT l o ∧ H a = some o
theorem lg_tup {H : Hp} {a : Addr} {l : List Nat} (h : H a = some (tupN l)) : Lg H a l := ⟨_, .inl rfl, h⟩
theorem Lg.mono {H H' : Hp} {a : Addr} {l : List Nat} (k : Same H H') (h : Lg H a l) : Lg H' a l := let ⟨o, t, e⟩ := h; ⟨o, t, k _ _ e⟩
theorem Lg.sq {K : PySem.W.Frag} {H : Hp} {a : Addr} {l : List Nat} (h : Lg H a l) : SqT K H a (l.map vn) := let ⟨_, t, e⟩ := h; sqt_lt t e
/-- all but S stays -/
def But (S : Addr) (H H' : Hp) : Prop := ∀ b o, b ≠ S → H b = some o → H' b = some o
section
variable {H H' H2 : Hp} {a p S : Addr} {o : HO} {xs ys : List V}
theorem TK.refl : TK H H := fun _ _ _ _ e => e
theorem TK.trans (h : TK H H') (k : TK H' H2) : TK H H2 := fun a o xs t e => k a o xs t (h a o xs t e)
theorem tk_same (h : Same H H') : TK H H' := fun a o xs _ e => h a o e
theorem tk_new (h : H p = none) : TK H (upd H p o) := fun a o xs _ e => by rw [upd_ne (ne_of_none e h)]; exact e
theorem tk_lst (h : H p = some (.lst xs)) : TK H (upd H p o) := fun a o ys t e => by rw [upd_ne (ne_of e h (by intro q; rw [q] at t; rcases t with t | ⟨u, t⟩ <;> cases t))]; exact e
theorem same_new (h : H p = none) : Same H (upd H p o) := fun a u e => by rw [upd_ne (ne_of_none e h)]; exact e
theorem same_mut (e : Same H H') (h : H p = none) : Same H (upd H' p o) := fun a u ha => by rw [upd_ne (ne_of_none ha h)]; exact e a u ha
theorem keep (h : H p = none) (e : H a = some o) {u : HO} : upd H p u a = some o := by rw [upd_ne (ne_of_none e h)]; exact e
theorem keepN (h : a ≠ p) (e : H a = some o) {u : HO} : upd H p u a = some o := by rw [upd_ne h]; exact e
/-- a tuple stays where a list is written -/
theorem keepT (h : H p = some (.lst xs)) (e : H a = some (.tup ys)) {u : HO} : upd H p u a = some (.tup ys) := by rw [upd_ne (ne_of e h (by intro q; cases q))]; exact e
theorem But.refl : But S H H := fun _ _ _ e => e
theorem But.trans (h : But S H H') (k : But S H' H2) : But S H H2 := fun b o n e => k b o n (h b o n e)
theorem but_same (h : Same H H') : But S H H' := fun b o _ e => h b o e
theorem but_upd : But S H (upd H S o) := fun b o n e => by rw [upd_ne n]; exact e
theorem but_new (h : H p = none) : But S H (upd H p o) := but_same (same_new h)
theorem but_mut (e : But S H H') (h : H p = none) : But S H (upd H' p o) := fun a u n ha => by rw [upd_ne (ne_of_none ha h)]; exact e a u n ha
theorem tk_but (h : But S H H') (hs : H S = some (.lst xs)) : TK H H' := fun a o ys t e => h a _ (ne_of e hs (by intro q; rw [q] at t; rcases t with t | ⟨u, t⟩ <;> cases t)) e
theorem But.free (h : But S H H') (hs : ∃ o, H S = some o) {l : Addr} (hl : H' l = none) (hne : l ≠ S) : H l = none := by
  cases q : H l with
  | none => rfl
  | some u => rw [h l u hne q] at hl; cases hl
end

/-- a tuple of numbers -/
def Tup (H : Hp) (v : V) (l : List Nat) : Prop := ∃ a, v = .ref a ∧ H a = some (tupN l)
/-- rows at the addresses -/
def Rows (H : Hp) (as : List Addr) (t : Tree) : Prop := as.length = t.length ∧ ∀ (i : Nat) b, as[i]? = some b → H b = some (tupN (t.getD i []))
/-- a tree: a tuple of tuples -/
def TupT (H : Hp) (v : V) (t : Tree) : Prop := ∃ a as, v = .ref a ∧ H a = some (.tup (as.map V.ref)) ∧ Rows H as t
/-- pairs at the addresses -/
def PairsAt (H : Hp) (qs : List Addr) (ps : Pairs) : Prop := qs.length = ps.length ∧ ∀ (i : Nat) q p, qs[i]? = some q → ps[i]? = some p → ∃ u ho, LT p.2 ho ∧ H q = some (.tup [vn p.1, .ref u]) ∧ H u = some ho
/-- a list or a tuple of pairs -/
def PairsV (H : Hp) (v : V) (ps : Pairs) : Prop := ∃ a qs, v = .ref a ∧ (H a = some (.lst (qs.map V.ref)) ∨ H a = some (.tup (qs.map V.ref))) ∧ PairsAt H qs ps
/-- pairs whose logs are known objects -/
def PairsZ (H : Hp) (qs : List Addr) (ps : Pairs) : Prop := qs.length = ps.length ∧ ∀ (i : Nat) q p, qs[i]? = some q → ps[i]? = some p → ∃ u ho, Lz p.2 ho ∧ H q = some (.tup [vn p.1, .ref u]) ∧ H u = some ho
theorem PairsZ.pa {H : Hp} {qs : List Addr} {ps : Pairs} (h : PairsZ H qs ps) : PairsAt H qs ps := ⟨h.1, fun i q p e f => let ⟨u, ho, t, x, y⟩ := h.2 i q p e f; ⟨u, ho, .inr t, x, y⟩⟩
theorem PairsZ.mono {H H' : Hp} {qs : List Addr} {ps : Pairs} (k : TK H H') (h : PairsZ H qs ps) : PairsZ H' qs ps := ⟨h.1, fun i q p e f => let ⟨u, ho, t, x, y⟩ := h.2 i q p e f; ⟨u, ho, t, k.tup x, k.lt (.inr t) y⟩⟩
section
variable {H H' : Hp} {v : V} {l : List Nat} {t : Tree} {as qs : List Addr} {ps : Pairs}
theorem Tup.mono (k : TK H H') (h : Tup H v l) : Tup H' v l := let ⟨a, e, x⟩ := h; ⟨a, e, k.tup x⟩
theorem Rows.mono (k : TK H H') (h : Rows H as t) : Rows H' as t := ⟨h.1, fun i b e => k.tup (h.2 i b e)⟩
theorem TupT.mono (k : TK H H') (h : TupT H v t) : TupT H' v t := let ⟨a, as, e, x, r⟩ := h; ⟨a, as, e, k.tup x, r.mono k⟩
theorem PairsAt.mono (k : TK H H') (h : PairsAt H qs ps) : PairsAt H' qs ps := ⟨h.1, fun i q p e f => let ⟨u, ho, t, x, y⟩ := h.2 i q p e f; ⟨u, ho, t, k.tup x, k.lt t y⟩⟩
theorem PairsV.same (k : Same H H') (h : PairsV H v ps) : PairsV H' v ps := let ⟨a, qs, e, x, r⟩ := h; ⟨a, qs, e, x.imp (k _ _) (k _ _), r.mono (tk_same k)⟩
theorem Rows.at (h : Rows H as t) {i : Nat} (hi : i < t.length) : ∃ b, as[i]? = some b ∧ H b = some (tupN (t.getD i [])) := by
  have hi' : i < as.length := by rw [h.1]; exact hi
  exact ⟨as[i], List.getElem?_eq_getElem hi', h.2 i _ (List.getElem?_eq_getElem hi')⟩
theorem PairsAt.at (h : PairsAt H qs ps) {i : Nat} {p : Nat × List Nat} (hp : ps[i]? = some p) : ∃ q u ho, LT p.2 ho ∧ qs[i]? = some q ∧ H q = some (.tup [vn p.1, .ref u]) ∧ H u = some ho := by
  have hi := (List.getElem?_eq_some_iff.mp hp).1
  have hi' : i < qs.length := by rw [h.1]; exact hi
  obtain ⟨u, ho, t, x, y⟩ := h.2 i qs[i] p (List.getElem?_eq_getElem hi') hp
  exact ⟨qs[i], u, ho, t, List.getElem?_eq_getElem hi', x, y⟩
end
theorem map_at {α β : Type} {f : α → β} {l : List α} {i : Nat} {y : β} (h : (l.map f)[i]? = some y) : ∃ x, l[i]? = some x ∧ y = f x := by
  rw [List.getElem?_map] at h
  cases e : l[i]? with
  | none => rw [e] at h; cases h
  | some x => rw [e] at h; exact ⟨x, rfl, (Option.some.inj h).symm⟩
theorem at_map {α β : Type} {f : α → β} {l : List α} {i : Nat} {x : α} (h : l[i]? = some x) : (l.map f)[i]? = some (f x) := by rw [List.getElem?_map, h]; rfl
theorem getD_at {α : Type} {l : List α} {i : Nat} {x d : α} (h : l[i]? = some x) : l.getD i d = x := by rw [List.getD_eq_getElem?_getD, h]; rfl
theorem at_getD {α : Type} {l : List α} {i : Nat} (d : α) (h : i < l.length) : l[i]? = some (l.getD i d) := by rw [List.getD_eq_getElem?_getD, List.getElem?_eq_getElem h]; rfl
/-- an item by its place -/
theorem ix_at {l : List Nat} {i x : Nat} (h : l[i]? = some x) : atI (l.map vn) (i : Int) = some (vn x) := atI_nat (at_map h)
theorem ix_ref {as : List Addr} {i : Nat} {b : Addr} (h : as[i]? = some b) : atI (as.map V.ref) (i : Int) = some (.ref b) := atI_nat (at_map h)
theorem vn_set (l : List Nat) (i x : Nat) : (l.map vn).set i (vn x) = (l.set i x).map vn := by rw [List.map_set]
theorem vn_len (l : List Nat) : (l.map vn).length = l.length := List.length_map _
theorem lst_snoc (l : List Nat) (x : Nat) : HO.lst (l.map vn ++ [vn x]) = lstN (l ++ [x]) := by simp [lstN]
theorem lst_app (a b : List Nat) : HO.lst (a.map vn ++ b.map vn) = lstN (a ++ b) := by simp [lstN]
theorem small {n : Nat} (h : n ≤ 100000) : n ≤ sizeLine := Nat.le_trans h (by decide)
theorem smallT {n : Nat} (h : n < 100000) : n < sizeLine := Nat.lt_of_lt_of_le h (by decide)
theorem vn_inj {a b : Nat} : vn a = vn b ↔ a = b := by
  constructor
  · intro h
    injection h with h
    omega
  · intro h; rw [h]
theorem ixN_nat {n j : Nat} (hj : j < n) : ixN n (j : Int) = some j := by
  unfold ixN
  rw [if_pos (by omega), if_pos (by omega)]
  simp
/-- a new object: what follows is shown for any heap that extends -/
theorem new_then {H : Hp} {p : Addr} {o : HO} {R : Hp → Prop} (hp : H p = none) (k : ∀ H1, Same H H1 → H1 p = some o → R H1) : R (upd H p o) := k _ (same_new hp) upd_same

/-! ### data of these, for == and repr -/
abbrev dn1 (n : Nat) : PyData := .int (n : Int)
abbrev dI (l : List Nat) : List PyData := l.map dn1
section
variable {K : PySem.W.Frag} {H : Hp}
theorem dp_ints : ∀ l : List Nat, DpAll K H (l.map vn) (dI l)
  | [] => .nil
  | x :: l => .cons (.int _) (dp_ints l)
theorem dp_tup {a : Addr} {l : List Nat} (h : H a = some (tupN l)) : Dp K H (.ref a) (.tuple (dI l)) := .tup (SqT.of h) (dp_ints l)
theorem dp_lst {a : Addr} {l : List Nat} (h : H a = some (lstN l)) : Dp K H (.ref a) (.list (dI l)) := .lst (SqL.of h) (dp_ints l)
theorem dp_refs {D : List Nat → PyData} (hD : ∀ a l, H a = some (tupN l) → Dp K H (.ref a) (D l)) : ∀ {as : List Addr} {t : Tree}, Rows H as t → DpAll K H (as.map V.ref) (t.map D)
  | [], t, h => by
    have : t = [] := List.length_eq_zero_iff.mp h.1.symm
    rw [this]
    exact .nil
  | a :: as, [], h => by have := h.1; simp at this
  | a :: as, l :: t, h => by
    refine .cons (hD a l (h.2 0 a rfl)) (dp_refs hD ⟨by have := h.1; simpa using this, fun i b e => ?_⟩)
    have := h.2 (i + 1) b (by simpa using e)
    simpa using this
theorem dp_tree {v : V} {t : Tree} (h : TupT H v t) : Dp K H v (.tuple (t.map fun l => .tuple (dI l))) := by
  obtain ⟨a, as, rfl, x, r⟩ := h
  exact .tup (SqT.of x) (dp_refs (fun a l e => dp_tup e) r)
theorem dp_pairs : ∀ {qs : List Addr} {ps : Pairs}, PairsAt H qs ps → DpAll K H (qs.map V.ref) (ps.map fun p => .tuple [dn1 p.1, .tuple (dI p.2)])
  | [], ps, h => by
    have : ps = [] := List.length_eq_zero_iff.mp h.1.symm
    rw [this]
    exact .nil
  | q :: qs, [], h => by have := h.1; simp at this
  | q :: qs, p :: ps, h => by
    obtain ⟨u, ho, t, x, y⟩ := h.2 0 q p rfl rfl
    refine .cons (.tup (SqT.of x) (.cons (.int _) (.cons (.tup (sqt_lt t y) (dp_ints p.2)) .nil))) (dp_pairs ⟨by have := h.1; simpa using this, fun i b p' e f => h.2 (i + 1) b p' (by simpa using e) (by simpa using f)⟩)
end
theorem eqv_dI : ∀ a b : List Nat, PyData.eqvAll (dI a) (dI b) = decide (a = b)
  | [], [] => rfl
  | [], _ :: _ => rfl
  | _ :: _, [] => rfl
  | x :: a, y :: b => by
    show (PyData.eqv (dn1 x) (dn1 y) && PyData.eqvAll (dI a) (dI b)) = _
    rw [eqv_dI a b]
    have e : PyData.eqv (dn1 x) (dn1 y) = decide (x = y) := by
      show ((x : Int) == (y : Int)) = _
      by_cases h : x = y
      · subst h; simp
      · have h' : ¬ (x : Int) = (y : Int) := by omega
        simp [h, h']
    rw [e]
    by_cases h : x = y <;> by_cases h2 : a = b <;> simp [h, h2]
theorem eqv_tups (a b : List Nat) : PyData.eqv (.tuple (dI a)) (.tuple (dI b)) = decide (a = b) := eqv_dI a b
theorem eqv_nil (xs : List PyData) : PyData.eqv (.list xs) (.list []) = xs.isEmpty := by cases xs <;> rfl
theorem lay_dI : ∀ l : List Nat, PyData.canLayAll0 (dI l) = true
  | [] => rfl
  | x :: l => by
    show (PyData.canLay0 (dn1 x) && PyData.canLayAll0 (dI l)) = true
    rw [lay_dI l]
    rfl
theorem depth_dI : ∀ l : List Nat, PyData.depthAll (dI l) = 0
  | [] => rfl
  | x :: l => by
    show max (PyData.depth (dn1 x)) (PyData.depthAll (dI l)) = 0
    rw [depth_dI l]
    rfl
theorem shaped_tup (l : List Nat) : SeqAt.shaped (.tuple (dI l)) = true := by
  unfold SeqAt.shaped
  simp only [PyData.canLay0, PyData.depth, lay_dI, depth_dI]
  decide
theorem shaped_lst (l : List Nat) : SeqAt.shaped (.list (dI l)) = true := by
  unfold SeqAt.shaped
  simp only [PyData.canLay0, PyData.depth, lay_dI, depth_dI]
  decide
theorem shaped_nil : SeqAt.shaped (.list []) = true := by decide
end SF
end

/-! SFk -/
section
set_option Elab.async false
set_option maxRecDepth 100000
set_option maxHeartbeats 4000000
/-! Rules that speak of tracked objects alone (no K in their readings: they stand well in a comprehension's block). -/
namespace SF
open PySem PySem.Spec L2
open PyProof.Rows hiding St

section
variable {X : Cx}
def rIxl : R2 := fun x y H Q => ∃ p xs i v, x = .ref p ∧ y = .int i ∧ H p = some (.lst xs) ∧ atI xs i = some v ∧ Q v H
def rIxt : R2 := fun x y H Q => ∃ p xs i v, x = .ref p ∧ y = .int i ∧ H p = some (.tup xs) ∧ atI xs i = some v ∧ Q v H
def rIxs : R2 := fun x y H Q => ∃ p xs i v, x = .ref p ∧ y = .int i ∧ (H p = some (.lst xs) ∨ H p = some (.tup xs)) ∧ atI xs i = some v ∧ Q v H
theorem ix_l : IxR X rIxl := fun value slice pins s σ H x y v u Q I rx ry ⟨p, xs, i, z, h1, h2, h3, h4, h5⟩ hs => ix_list value slice pins s σ H x y v u Q I rx ry ⟨p, xs, i, z, h1, h2, SqL.of h3, h4, h5⟩ hs
theorem ix_t : IxR X rIxt := fun value slice pins s σ H x y v u Q I rx ry ⟨p, xs, i, z, h1, h2, h3, h4, h5⟩ hs => ix_tup value slice pins s σ H x y v u Q I rx ry ⟨p, xs, i, z, h1, h2, SqT.of h3, h4, h5⟩ hs
theorem ix_s : IxR X rIxs := fun value slice pins s σ H x y v u Q I rx ry ⟨p, xs, i, z, h1, h2, h3, h4, h5⟩ hs => by
  rcases h3 with h3 | h3
  · exact ix_list value slice pins s σ H x y v u Q I rx ry ⟨p, xs, i, z, h1, h2, SqL.of h3, h4, h5⟩ hs
  · exact ix_tup value slice pins s σ H x y v u Q I rx ry ⟨p, xs, i, z, h1, h2, SqT.of h3, h4, h5⟩ hs
/-- what can be asked for its length: a list, a tuple, a log -/
inductive LenF (H : Hp) (p : Addr) : List V → Prop where
  | inl {ys : List V} (h : H p = some (.lst ys)) : LenF H p ys
  | inr {ys : List V} (h : H p = some (.tup ys)) : LenF H p ys
  | lg {l : List Nat} (h : Lg H p l) : LenF H p (l.map vn)
theorem LenF.or {H : Hp} {p : Addr} {ys : List V} (h : H p = some (.lst ys) ∨ H p = some (.tup ys)) : LenF H p ys := h.elim .inl .inr
theorem LenF.sq {K : PySem.W.Frag} {H : Hp} {p : Addr} {ys : List V} (h : LenF H p ys) : SqL K H p ys ∨ SqT K H p ys := by
  cases h with
  | inl h => exact .inl (SqL.of h)
  | inr h => exact .inr (SqT.of h)
  | lg h => exact .inr h.sq
def rLen : List V → Hp → VK → Prop := fun xs H Q => ∃ p ys, xs = [.ref p] ∧ LenF H p ys ∧ Q (.int ys.length) H
theorem call_lenF : CallR X (.builtin "len") rLen := fun pins s σ H xs us Q I r ⟨p, ys, h1, h2, h3⟩ => call_len_seq pins s σ H xs us Q I r ⟨p, ys, h1, h2.sq, h3⟩
/-- an item of a log -/
def rIxz : R2 := fun x y H Q => ∃ p l i v, x = .ref p ∧ y = .int i ∧ Lg H p l ∧ atI (l.map vn) i = some v ∧ Q v H
theorem ix_z : IxR X rIxz := fun value slice pins s σ H x y v u Q I rx ry ⟨p, l, i, z, h1, h2, h3, h4, h5⟩ hs => ix_tup value slice pins s σ H x y v u Q I rx ry ⟨p, _, i, z, h1, h2, h3.sq, h4, h5⟩ hs
/-- the types that are asked -/
inductive TyF (H : Hp) : V → String → Prop where
  | int (i : Int) : TyF H (.int i) "int"
  | lst {a : Addr} {xs : List V} (e : H a = some (.lst xs)) : TyF H (.ref a) "list"
  | tup {a : Addr} {xs : List V} (e : H a = some (.tup xs)) : TyF H (.ref a) "tuple"
  | lg {a : Addr} {l : List Nat} (e : Lg H a l) : TyF H (.ref a) "tuple"
theorem TyF.ty {K : PySem.W.Frag} {H : Hp} {x : V} {n : String} (h : TyF H x n) : TyX K H x (.type n) := by
  cases h with
  | int i => exact .base (.int i)
  | lst e => exact .base (.lst e)
  | tup e => exact .base (.tup e)
  | lg e =>
    obtain ⟨o, t, e⟩ := e
    rcases t with rfl | ⟨u, h1, _, rfl⟩
    · exact .base (.tup e)
    · exact .fTuple e
def rIsF : List V → Hp → VK → Prop := fun xs H Q => ∃ (x : V) (n m : String) (b : Bool), xs = [x, .ty m] ∧ TyF H x n ∧ kitB n m = some b ∧ Q (.bl b) H
theorem call_isF : CallR X (.builtin "isinstance") rIsF := fun pins s σ H xs us Q I r ⟨x, n, m, b, h1, h2, h3, h4⟩ =>
  call_isi pins s σ H xs us Q I r ⟨x, .ty m, .type n, .type m, b, h1, .ty m, h2.ty, kit_ty h3, h4⟩
/-- isinstance(x, (list, tuple)) of a list or a tuple -/
def rIsLT : List V → Hp → VK → Prop := fun xs H Q => ∃ (a tp : Addr) (ys : List V), xs = [.ref a, .ref tp] ∧ H tp = some (.tup [.ty "list", .ty "tuple"]) ∧ (H a = some (.lst ys) ∨ H a = some (.tup ys)) ∧ Q (.bl true) H
theorem call_isLT : CallR X (.builtin "isinstance") rIsLT := fun pins s σ H xs us Q I r ⟨a, tp, ys, h1, h2, h3, h4⟩ => by
  rcases h3 with h3 | h3
  · exact call_isiT pins s σ H xs us Q I r ⟨.ref a, tp, _, .type "list", _, true, h1, h2, .cons (.ty _) (.cons (.ty _) .nil), .base (.lst h3), kitAny_cons (b := true) (kit_ty (by decide +kernel)) (fun h => absurd h (by decide)) fun _ => rfl, h4⟩
  · exact call_isiT pins s σ H xs us Q I r ⟨.ref a, tp, _, .type "tuple", _, true, h1, h2, .cons (.ty _) (.cons (.ty _) .nil), .base (.tup h3),
      kitAny_cons (b := false) (kit_ty (by decide +kernel)) (fun _ => kitAny_cons (b := true) (kit_ty (by decide +kernel)) (fun h => absurd h (by decide)) fun _ => rfl) fun h => absurd h (by decide), h4⟩
theorem flat_vn (l : List Nat) : (l.map vn).all flatV = true := by
  rw [List.all_eq_true]
  intro x hx
  obtain ⟨n, _, rfl⟩ := List.mem_map.mp hx
  rfl
theorem eqV_nn (a b : Nat) : eqV (vn a) (vn b) = decide (a = b) := by
  show decide ((a : Int) = (b : Int)) = _
  by_cases h : a = b
  · subst h; simp
  · have : ¬ (a : Int) = (b : Int) := by omega
    simp [h, this]
theorem inV_nn (x : Nat) (l : List Nat) : inV (vn x) (l.map vn) = decide (x ∈ l) := by
  unfold inV
  rw [List.any_map]
  induction l with
  | nil => simp
  | cons y l ih =>
    rw [List.any_cons, ih]
    show (eqV (vn y) (vn x) || _) = _
    rw [eqV_nn]
    by_cases h : y = x
    · subst h; simp
    · have h' : ¬ x = y := fun e => h e.symm
      simp [h, h']
/-- n in, not in a list of numbers -/
def rInN : R2 := fun x y H Q => ∃ p l n, x = vn n ∧ y = .ref p ∧ H p = some (lstN l) ∧ Q (.bl (decide (n ∈ l))) H
def rNotInN : R2 := fun x y H Q => ∃ p l n, x = vn n ∧ y = .ref p ∧ H p = some (lstN l) ∧ Q (.bl (!decide (n ∈ l))) H
theorem op_inN : OpR X (compareOp .In) rInN := fun pins s σ H x y v u Q I rx ry ⟨p, l, n, h1, h2, h3, h4⟩ =>
  op_in_seq pins s σ H x y v u Q I rx ry ⟨p, l.map vn, h2, .inl (SqL.of h3), by rw [h1]; rfl, flat_vn l, by
    rw [if_neg Bool.false_ne_true, h1, inV_nn]
    exact h4⟩
theorem op_notInN : OpR X (compareOp .NotIn) rNotInN := fun pins s σ H x y v u Q I rx ry ⟨p, l, n, h1, h2, h3, h4⟩ =>
  op_notIn_seq pins s σ H x y v u Q I rx ry ⟨p, l.map vn, h2, .inl (SqL.of h3), by rw [h1]; rfl, flat_vn l, by
    rw [if_pos rfl, h1, inV_nn]
    exact h4⟩
/-- list(..), tuple(..) of a list or a tuple -/
def rListF : List V → Hp → VK → Prop := fun xs H Q => ∃ p ys, xs = [.ref p] ∧ LenF H p ys ∧ ∀ l, H l = none → Q (.ref l) (upd H l (.lst ys))
theorem call_listF : CallR X (.type "list") rListF := fun pins s σ H xs us Q I r ⟨p, ys, h1, h2, h3⟩ => call_list_of pins s σ H xs us Q I r ⟨p, ys, h1, h2.sq, h3⟩
def rTupleF : List V → Hp → VK → Prop := fun xs H Q => ∃ p ys, xs = [.ref p] ∧ H p = some (.lst ys) ∧ ∀ l, H l = none → Q (.ref l) (upd H l (.tup ys))
theorem call_tupleF : CallR X (.type "tuple") rTupleF := fun pins s σ H xs us Q I r ⟨p, ys, h1, h2, h3⟩ => call_tuple_of pins s σ H xs us Q I r ⟨p, ys, h1, .inl ⟨SqL.of h2, h3⟩⟩
def rAllF : List V → Hp → VK → Prop := fun vs H Q => ∃ (a : Addr) (bs : List Bool), vs = [V.ref a] ∧ H a = some (.lst (bs.map V.bl)) ∧ Q (.bl (bs.all id)) H
def rAnyF : List V → Hp → VK → Prop := fun vs H Q => ∃ (a : Addr) (bs : List Bool), vs = [V.ref a] ∧ H a = some (.lst (bs.map V.bl)) ∧ Q (.bl (bs.any id)) H
theorem call_allF (hc : X.calm = true) : CallR X (.builtin "all") rAllF := fun pins s σ H xs us Q I r ⟨a, bs, h1, h2, h3⟩ => cr_all hc pins s σ H xs us Q I r ⟨a, bs, h1, SqL.of h2, h3⟩
theorem call_anyF (hc : X.calm = true) : CallR X (.builtin "any") rAnyF := fun pins s σ H xs us Q I r ⟨a, bs, h1, h2, h3⟩ => cr_any hc pins s σ H xs us Q I r ⟨a, bs, h1, SqL.of h2, h3⟩
/-- tuples of numbers: ==, != -/
def rEqT : R2 := fun x y H Q => ∃ a b la lb, x = .ref a ∧ y = .ref b ∧ Lg H a la ∧ Lg H b lb ∧ Q (.bl (decide (la = lb))) H
def rNeT : R2 := fun x y H Q => ∃ a b la lb, x = .ref a ∧ y = .ref b ∧ Lg H a la ∧ Lg H b lb ∧ Q (.bl (!decide (la = lb))) H
theorem op_eqT (hu : X.A.units + 64 < cLine) : OpR X (compareOp .Eq) rEqT := fun pins s σ H x y v u Q I rx ry ⟨a, b, la, lb, h1, h2, h3, h4, h5⟩ =>
  op_eqD hu pins s σ H x y v u Q I rx ry ⟨_, _, by rw [h1]; exact .tup h3.sq (dp_ints la), by rw [h2]; exact .tup h4.sq (dp_ints lb), shaped_tup la, shaped_tup lb, by rw [eqv_tups]; exact h5⟩
theorem op_neT (hu : X.A.units + 64 < cLine) : OpR X (compareOp .NotEq) rNeT := fun pins s σ H x y v u Q I rx ry ⟨a, b, la, lb, h1, h2, h3, h4, h5⟩ =>
  op_neD hu pins s σ H x y v u Q I rx ry ⟨_, _, by rw [h1]; exact .tup h3.sq (dp_ints la), by rw [h2]; exact .tup h4.sq (dp_ints lb), shaped_tup la, shaped_tup lb, by rw [eqv_tups]; exact h5⟩
/-- slices of tuples and lists, backwards -/
def tRev (te : TE) : TE := fun σ H Q => te σ H fun x H1 => ∃ a xs, x = .ref a ∧ H1 a = some (.tup xs) ∧ ∀ p, H1 p = none → Q (.ref p) (upd H1 p (.tup xs.reverse))
theorem pe_rev {e : Expr} {te : TE} {k : Nat} {p1 p2 p3 pos : Pos} (hmono : ∀ σ H Q Q', (∀ v H', Q v H' → Q' v H') → te σ H Q → te σ H Q') (he : PE X e te) : PE X (.Subscript e (.Slice none none (some (.UnaryOp .USub (.Constant (.int 1) k p1) p2)) p3) pos) (tRev te) :=
  ⟨fun pins s σ H Q I h => (pe_revT he).run pins s σ H Q I (hmono _ _ _ _ (fun v H' ⟨a, xs, e, h1, h2⟩ => ⟨a, xs, e, SqT.of h1, h2⟩) h)⟩
/-- list.index of a number or a bool in a list of such -/
def rIndexF : V → List V → Hp → VK → Prop := fun x xs H Q => ∃ (a : Addr) (ys : List V) (y : V) (j : Nat) (z : V), x = V.ref a ∧ xs = [y] ∧ H a = some (.lst ys) ∧ flatV y = true ∧ ys.all flatV = true ∧ ys[j]? = some z ∧ eqV z y = true ∧ (∀ m z', m < j → ys[m]? = some z' → eqV z' y = false) ∧ Q (.int j) H
theorem mt_indexF : MtR X "list.index" rIndexF := fun pins s σ H x xs v us Q I rx rs ⟨a, ys, y, j, z, h1, h2, h3, h4⟩ => mt_index pins s σ H x xs v us Q I rx rs ⟨a, ys, y, j, z, h1, h2, SqL.of h3, h4⟩
end
end SF
end

/-! SFp -/
section
set_option Elab.async false
set_option maxRecDepth 100000
set_option maxHeartbeats 4000000
/-! The promises of the defs. -/
namespace SF
open PySem PySem.Spec L2
open PyProof.Rows hiding St

/-! ### the program -/
def sp_is_integer : Sp := fun vs H Q _ => ∃ i : Int, vs = [.int i] ∧ Q (.bl true) H
def sp_is_between : Sp := fun vs H Q _ => ∃ i a b : Int, vs = [.int i, .int a, .int b] ∧ Q (.bl (decide (a ≤ i ∧ i ≤ b))) H
def sp_is_limit : Sp := fun vs H Q _ => ∃ i : Int, vs = [.int i] ∧ Q (.bl (decide (1 ≤ i ∧ i ≤ 10 ^ 30))) H
def sp_are_children : Sp := fun vs H Q _ => ∃ (a : Addr) (l : List Nat) (n : Nat), vs = [.ref a, vn n] ∧ H a = some (tupN l) ∧ l.length ≤ 40 ∧ (∀ x ∈ l, x < n) ∧ ∀ H', Same H H' → Q (.bl true) H'
def sp_preorder_from : Sp := fun vs H Q _ => ∃ (v : V) (t : Tree) (r : Nat) (k : F), vs = [v, vn r] ∧ TupT H v t ∧ Rep t r k ∧ t.length ≤ 40 ∧ ∀ p H', Same H H' → H p = none → H' p = some (lstN (r :: k.all)) → Q (.ref p) H'
def cnt (t : Tree) (l : List Nat) : List Nat := (List.range t.length).map fun i => l.count i
def sp_occurrences : Sp := fun vs H Q _ => ∃ (v : V) (t : Tree), vs = [v] ∧ TupT H v t ∧ t.length ≤ 40 ∧ (∀ l ∈ t, l.length ≤ 40 ∧ ∀ x ∈ l, x < t.length) ∧ ∀ p H', Same H H' → H p = none → H' p = some (lstN (cnt t t.flatten)) → Q (.ref p) H'
def sp_first_problem : Sp := fun vs H Q _ => ∃ (v : V) (t : Tree) (r : Nat) (k : F), vs = [v] ∧ TupT H v t ∧ Rep t r k ∧ t.length ≤ 40 ∧ ∀ H', Same H H' → Q .non H'
def sp_is_tree : Sp := fun vs H Q _ => ∃ (v : V) (t : Tree) (r : Nat) (k : F), vs = [v] ∧ TupT H v t ∧ Rep t r k ∧ t.length ≤ 40 ∧ ∀ H', Same H H' → Q (.bl true) H'
def sp_root : Sp := fun vs H Q _ => ∃ (v : V) (t : Tree) (r : Nat) (k : F), vs = [v] ∧ TupT H v t ∧ Rep t r k ∧ t.length ≤ 40 ∧ ∀ H', Same H H' → Q (vn r) H'
def sp_log : Sp := fun vs H Q _ => ∃ (v : V) (t : Tree) (r : Nat) (k : F) (l : Nat), vs = [v, vn l] ∧ TupT H v t ∧ Rep t r k ∧ t.length ≤ 40 ∧ 1 ≤ l ∧ ∀ u H', Same H H' → Tup H' u (lg l r k) → Q u H'
def sp_common_divisor : Sp := fun vs H Q _ => ∃ a b : Nat, vs = [vn a, vn b] ∧ Q (vn (Nat.gcd a b)) H
def LimOk (ls : List Nat) : Prop := ls.length ≤ 20 ∧ ∀ l ∈ ls, 1 ≤ l ∧ l ≤ 10 ^ 30
def sp_common_multiple : Sp := fun vs H Q _ => ∃ (a : Addr) (ls : List Nat), vs = [.ref a] ∧ H a = some (lstN ls) ∧ LimOk ls ∧ Q (vn (lcmL ls 1)) H
def sp_determines : Sp := fun vs H Q _ => ∃ (a : Addr) (ls : List Nat) (n : Nat), vs = [.ref a, vn n] ∧ H a = some (lstN ls) ∧ LimOk ls ∧ Det ls n ∧ Q (.bl true) H
def sp_is_log : Sp := fun vs H Q _ => ∃ (a : Addr) (l : List Nat) (n : Nat), vs = [.ref a] ∧ Lg H a l ∧ l.Perm (List.range n) ∧ 1 ≤ n ∧ n ≤ 40 ∧ ∀ H', Same H H' → Q (.bl true) H'
def sp_is_entry : Sp := fun vs H Q _ => ∃ (q u : Addr) (p : Nat × List Nat) (n : Nat), vs = [.ref q] ∧ H q = some (.tup [vn p.1, .ref u]) ∧ Lg H u p.2 ∧ p.2.Perm (List.range n) ∧ 1 ≤ n ∧ n ≤ 40 ∧ 1 ≤ p.1 ∧ p.1 ≤ 10 ^ 30 ∧ ∀ H', Same H H' → Q (.bl true) H'
def sp_require_logs : Sp := fun vs H Q _ => ∃ (v : V) (ps : Pairs) (n : Nat), vs = [v] ∧ PairsV H v ps ∧ Valid ps n ∧ ∀ H', Same H H' → Q .non H'
def sp_places : Sp := fun vs H Q _ => ∃ (a : Addr) (l : List Nat) (n : Nat) (ho : HO), vs = [.ref a] ∧ Lz l ho ∧ H a = some ho ∧ l.Perm (List.range n) ∧ n ≤ 40 ∧ ∀ p H', Same H H' → H p = none → H' p = some (lstN (spots n l)) → Q (.ref p) H'
def sp_spots : Sp := fun vs H Q _ => ∃ (a : Addr) (l : List Nat) (n : Nat), vs = [.ref a] ∧ Lg H a l ∧ l.Perm (List.range n) ∧ n ≤ 40 ∧ ∀ p H', Same H H' → H p = none → H' p = some (lstN (spots n l)) → Q (.ref p) H'
def sp_first_difference_of : Sp := fun vs H Q _ => ∃ (a b : Addr) (la lb : List Nat), vs = [.ref a, .ref b] ∧ Lg H a la ∧ Lg H b lb ∧ la.length = lb.length ∧ la.length ≤ 40 ∧ la ≠ lb ∧ ∀ H', Same H H' → Q (vn (fdiff la lb)) H'
/-- each node's parent stands in the dict, the root's is None; path from the root on -/
def Chain (kvs : List (Key × V)) : List Nat → Prop
  | [] => True
  | [x] => valV kvs (.inl (x : Int)) = some .non
  | x :: y :: r => valV kvs (.inl (x : Int)) = some (vn y) ∧ Chain kvs (y :: r)
/-- the path is told from its end on (Chain) -/
def sp_path_to : Sp := fun vs H Q _ => ∃ (d : Addr) (kvs : List (Key × V)) (x : Nat) (up : List Nat), vs = [.ref d, vn x] ∧ H d = some (.dK kvs) ∧ Chain kvs (x :: up) ∧ up.length ≤ 40 ∧ ∀ p H', Same H H' → H p = none → H' p = some (lstN (x :: up).reverse) → Q (.ref p) H'
/-- the lists of places at the addresses -/
def SpotsAt (H : Hp) (ss : List Addr) (n : Nat) (logs : List (List Nat)) : Prop := ss.length = logs.length ∧ ∀ (i : Nat) b l, ss[i]? = some b → logs[i]? = some l → H b = some (lstN (spots n l))
def sp_parent_by_logs : Sp := fun vs H Q _ => ∃ (d S : Addr) (kvs : List (Key × V)) (ss : List Addr) (logs : List (List Nat)) (n x0 x last : Nat) (tl : List Nat), vs = [.ref d, vn last, vn x, .ref S] ∧ H d = some (.dK kvs) ∧ H S = some (.lst (ss.map V.ref)) ∧ SpotsAt H ss n logs ∧
  last = lastOf x0 tl ∧ Chain kvs (x0 :: tl).reverse ∧ tl.length ≤ 40 ∧ (∀ y ∈ x0 :: tl, y < n) ∧ x < n ∧ logs.length ≤ 20 ∧ ∀ H', Same H H' → Q (vn (lastOf x0 (tl.takeWhile fun c => !bfOf logs x c))) H'
def sp_forced_by_logs : Sp := fun vs H Q _ => ∃ (v : V) (ps : Pairs) (n : Nat), vs = [v] ∧ PairsV H v ps ∧ Valid ps n ∧ ∀ u H', Same H H' → TupT H' u (FT ps) → Q u H'
def ResV (H : Hp) (v : V) : Res → Prop
  | .tree t => ∃ a u, v = .ref a ∧ H a = some (.tup [.str "tree", u]) ∧ TupT H u t
  | .none l pos => ∃ a, v = .ref a ∧ H a = some (.tup [.str "none", vn l, vn pos])
def sp_tree_from_logs : Sp := fun vs H Q _ => ∃ (v : V) (ps : Pairs) (n : Nat), vs = [v] ∧ PairsV H v ps ∧ Valid ps n ∧ ∀ u H', Same H H' → ResV H' u (resOf ps) → Q u H'

/-! ### the law -/
/-- drawn from S: all but S stays, S's cells are the same list -/
structure Dr (S : Addr) (H H' : Hp) : Prop where
  but : But S H H'
  cell : ∀ C a b, H S = some (.lst [.ref C, vn a, vn b]) → ∃ a' b', H' S = some (.lst [.ref C, vn a', vn b'])
theorem Dr.same {S : Addr} {H H' : Hp} (k : Same H H') : Dr S H H' := ⟨but_same k, fun C a b e => ⟨a, b, k _ _ e⟩⟩
theorem Dr.trans {S : Addr} {H H' H2 : Hp} (h : Dr S H H') (k : Dr S H' H2) : Dr S H H2 := ⟨h.but.trans k.but, fun C a b e => let ⟨a', b', e'⟩ := h.cell C a b e; k.cell C a' b' e'⟩
theorem Dr.mut {S p : Addr} {H H' : Hp} {o : HO} (e : Dr S H H') (h : H p = none) : Dr S H (upd H' p o) := ⟨but_mut e.but h, fun C a b q => let ⟨a', b', e'⟩ := e.cell C a b q; ⟨a', b', keepN (ne_of_none q h) e'⟩⟩
theorem Dr.set {S C : Addr} {H : Hp} {a b a' b' : Nat} (h : H S = some (.lst [.ref C, vn a, vn b])) : Dr S H (upd H S (.lst [.ref C, vn a', vn b'])) := ⟨but_upd, fun C' x y e => by
  rw [h] at e
  injection e with e
  injection e with e
  injection e with e _
  injection e with e
  subst e
  exact ⟨a', b', upd_same⟩⟩
/-- the source at S: its cells, how many draws were begun (at most N), the rest of a great cell -/
def Src (H : Hp) (S : Addr) (N : Nat) : Prop := ∃ (C : Addr) (cells : List Int) (place rest : Nat), H S = some (.lst [.ref C, vn place, vn rest]) ∧ H C = some (.lst (cells.map V.int)) ∧ cells.length ≤ 63 ∧ place ≤ N
def sp_source (K : PySem.W.Frag) : Sp := fun vs H Q _ => ∃ (a : Addr) (ns : List Int), vs = [.ref a] ∧ SqL K H a (ns.map V.int) ∧ ns.length ≤ 63 ∧ ∀ S H', H S = none → Same H H' → Src H' S 0 → Q (.ref S) H'
def sp_draw : Sp := fun vs H Q _ => ∃ (S : Addr) (N b : Nat), vs = [.ref S, vn b] ∧ Src H S N ∧ N ≤ 1000000 ∧ 1 ≤ b ∧ b ≤ 10 ^ 12 ∧ ∀ v H', v < b → Dr S H H' → Src H' S (N + 1) → Q (vn v) H'
def sp_permutation : Sp := fun vs H Q _ => ∃ (S : Addr) (N n : Nat), vs = [.ref S, vn n] ∧ Src H S N ∧ N ≤ 950000 ∧ n ≤ 40 ∧ ∀ v l H', l.Perm (List.range n) → Dr S H H' → Src H' S (N + 100) → Tup H' v l → Q v H'
def sp_size : Sp := fun vs H Q _ => ∃ (S : Addr) (N m : Nat), vs = [.ref S, vn m] ∧ Src H S N ∧ N ≤ 900000 ∧ (m = 5 ∨ m = 40) ∧ ∀ n H', 1 ≤ n → n ≤ m → Dr S H H' → Src H' S (N + 100) → Q (vn n) H'
def sp_tree : Sp := fun vs H Q _ => ∃ (S : Addr) (N n : Nat), vs = [.ref S, vn n] ∧ Src H S N ∧ N ≤ 900000 ∧ 1 ≤ n ∧ n ≤ 40 ∧ ∀ v t r k H', Rep t r k → t.length = n → Dr S H H' → Src H' S (N + 500) → TupT H' v t → Q v H'
def sp_destroy (fuel : Nat) : Sp := fun vs H Q _ => ∃ (v : V) (t : Tree) (x : Nat) (k : F) (d l : Nat) (A B : Addr) (xs ss : List Nat), vs = [v, vn x, vn d, vn l, .ref A, .ref B] ∧ TupT H v t ∧ Has (gt t) (.cons x k .nil) ∧ (∀ y ∈ x :: k.all, y < t.length) ∧
  H A = some (lstN xs) ∧ H B = some (lstN ss) ∧ A ≠ B ∧ k.size + 1 ≤ fuel ∧ d < l ∧ xs.length + k.size ≤ 1000 ∧ ss.length + k.size ≤ 1000 ∧
  ∀ H', (∀ b o, b ≠ A → b ≠ B → H b = some o → H' b = some o) → H' A = some (lstN (xs ++ x :: nr l (d + 1) k)) → H' B = some (lstN (ss ++ (fa l (d + 1) k).map (·.1))) → Q .non H'
def sp_deciding : Sp := fun vs H Q _ => ∃ (a : Addr) (ls : List Nat) (n : Nat), vs = [.ref a, vn n] ∧ H a = some (lstN ls) ∧ LimOk ls ∧ n ≤ 40 ∧ ∀ p H' xs, Same H H' → H' p = some (.tup xs) → xs.length = n - 2 → (∀ i y, xs[i]? = some y → (y = .non ∧ ∀ l ∈ ls, l ∣ i + 1) ∨ ((∃ z : Nat, y = vn z) ∧ ∃ l ∈ ls, ¬ l ∣ i + 1)) → Q (.ref p) H'
def sp_Ldetermines : Sp := fun vs H Q _ => ∃ (a : Addr) (ls : List Nat) (n : Nat), vs = [.ref a, vn n] ∧ H a = some (lstN ls) ∧ LimOk ls ∧ n ≤ 40 ∧ ∀ b H', Same H H' → (b = true ↔ (n < 3 ∨ (1 ∈ ls ∧ Tells ls n))) → Q (.bl b) H'
def sp_some_limits : Sp := fun vs H Q _ => ∃ (S : Addr) (N n : Nat), vs = [.ref S, vn n] ∧ Src H S N ∧ N ≤ 900000 ∧ 1 ≤ n ∧ n ≤ 40 ∧
  ∀ p ls H', Dr S H H' → Src H' S (N + 100) → H p = none → H' p = some (lstN ls) → LimOk ls → ls.Nodup → Det ls n → ls.length ≤ 10 → Q (.ref p) H'
def sp_damaged : Sp := fun vs H Q _ => ∃ (S : Addr) (N : Nat) (a : Addr) (qs : List Addr) (ps : Pairs) (n : Nat), vs = [.ref S, .ref a] ∧ Src H S N ∧ N ≤ 900000 ∧ H a = some (.lst (qs.map V.ref)) ∧ PairsAt H qs ps ∧ Perms ps n ∧ n ≤ 40 ∧ ps.length ≤ 10 ∧
  ∀ (p : Addr) (qs' : List Addr) (ps' : Pairs) (H' : Hp), Dr S H H' → Src H' S (N + 200) → H' p = some (.lst (qs'.map V.ref)) → PairsZ H' qs' ps' → ps'.map (·.1) = ps.map (·.1) → Perms ps' n → Q (.ref p) H'
def sp_Lforced : Sp := fun vs H Q _ => ∃ (a : Addr) (qs : List Addr) (ps : Pairs) (n : Nat), vs = [.ref a] ∧ H a = some (.lst (qs.map V.ref)) ∧ PairsZ H qs ps ∧ Perms ps n ∧ n ≤ 40 ∧ ps.length ≤ 20 ∧ ∀ u H', Same H H' → TupT H' u (FT ps) → Q u H'
def allT (n : Nat) (o : List Nat) : List Tree := (allK (o.drop 1)).map fun k => arr n (gof (o.headD 0) k)
def sp_all : Sp := fun vs H Q _ => ∃ (a : Addr) (o : List Nat) (n : Nat), vs = [.ref a] ∧ Lg H a o ∧ o.Perm (List.range n) ∧ 1 ≤ n ∧ n ≤ 5 ∧
  ∀ (p : Addr) (as : List Addr) (H' : Hp), Same H H' → H' p = some (.lst (as.map V.ref)) → as.length = (allT n o).length → (∀ (i : Nat) b t, as[i]? = some b → (allT n o)[i]? = some t → TupT H' (.ref b) t) → Q (.ref p) H'
def sp_right : Sp := fun vs H Q _ => ∃ (a : Addr) (qs : List Addr) (ps : Pairs) (n : Nat), vs = [.ref a] ∧ H a = some (.lst (qs.map V.ref)) ∧ PairsZ H qs ps ∧ Valid ps n ∧ ps.length ≤ 10 ∧ ∀ H', Same H H' → Q (.bl true) H'
def sp_law (K : PySem.W.Frag) : Sp := fun vs H Q _ => ∃ (a : Addr) (ns : List Int), vs = [.ref a] ∧ SqL K H a (ns.map V.int) ∧ ns.length ≤ 63 ∧ ∀ H', Q (.bl true) H'
end SF
end

/-! SFf1 -/
section
set_option Elab.async false
set_option maxRecDepth 100000
set_option maxHeartbeats 4000000
/-! Trees, walked: are_children, occurrences, root_of, preorder_from, first_problem, is_tree. -/
namespace SF
open PySem PySem.Spec L2
open PyProof.Rows hiding St

theorem kit_tup_lt {K : PySem.W.Frag} : PySem.W.kitAny K (.type "tuple") [.type "list", .type "tuple"] = some true :=
  kitAny_cons (b := false) (kit_ty (by decide +kernel)) (fun _ => kitAny_cons (b := true) (kit_ty (by decide +kernel)) (fun h => absurd h (by decide)) fun _ => rfl) fun h => absurd h (by decide)
theorem kit_lst_lt {K : PySem.W.Frag} : PySem.W.kitAny K (.type "list") [.type "list", .type "tuple"] = some true :=
  kitAny_cons (b := true) (kit_ty (by decide +kernel)) (fun h => absurd h (by decide)) fun _ => rfl
theorem rep_true (n : Nat) : List.replicate n (V.bl true) = (List.replicate n true).map V.bl := by rw [List.map_replicate]
theorem rep_snoc {α : Type} (n : Nat) (x : α) : List.replicate n x ++ [x] = List.replicate (n + 1) x := by rw [List.replicate_succ']
theorem all_rep (n : Nat) : (List.replicate n true).all id = true := by rw [List.all_eq_true]; intro x hx; rw [List.eq_of_mem_replicate hx]; rfl

section
variable {P : Program} {w : World} {K : PySem.W.Frag} {mg : Str → Option Value} {base : Heap}
theorem d_are_children (R : Raw K mg "are_children" s_are_children) (T : Txt mg) (D_is_between : Def P w K mg base 2 "is_between" ["value", "least", "most"] sp_is_between) : Def P w K mg base 3 "are_children" ["value", "size"] sp_are_children := by
  refine R.made sc_are_children (fun vs H Q E h => ?_) (fun _ _ _ _ _ _ us hl => match us, hl with | [_, _], _ => rfl) fun f cdv A outer s H vs Q E hr h => ?_
  · obtain ⟨a, l, n, rfl, _⟩ := h
    rfl
  obtain ⟨a, l, n, rfl, ha, hl, hx, q⟩ := h
  have hr_is_between := hr
  refine ⟨_, pss_one (ps_ret (pe_and (pe_callB call_isiT (by rfl) T.isinstance (by decide +kernel) (pa_cons (pv 0) (pa_cons (pe_tup (pa_cons (pe_bltn (v := .ty "list") (by rfl) T.list (by decide +kernel) rfl) (pa_cons (pe_bltn (v := .ty "tuple") (by rfl) T.tuple (by decide +kernel) rfl) pa_nil))) pa_nil)))
    (pe_one (pe_callB (cr_all rfl) (by rfl) T.all (by decide +kernel) (pa_cons (pe_lc (own := [("entry", 2)]) (g := (gName 2)) (tt := tYes) rfl sc_are_children.nd (pi_tup (pv 0)) (blkOk_by (N := N_are_children) (sc := defScope s_are_children) (by decide +kernel))
      (fun _ _ _ _ _ => (pg_name (i := 2) sc_are_children.nd rfl (Or.inl rfl))) (fun _ _ _ _ _ => pts_nil) (fun _ _ _ _ _ => (pe_fn D_is_between hr_is_between (by rfl) (pa_cons (pv 2) (pa_cons pe_int (pa_cons (pe_op op_sub (pv 1) pe_int) pa_nil)))))) pa_nil))))), ?_⟩
  refine ⟨_, rfl, (by show 2 ≤ sizeLine; decide), fun p hp => ?_⟩
  refine ⟨.ref a, p, _, _, _, true, rfl, upd_same, .cons (.ty _) (.cons (.ty _) .nil), .base (.tup (keep hp ha)), kit_tup_lt, true, rfl, iteT ?_⟩
  refine ⟨_, rfl, a, rfl, ⟨_, SqT.of (keep hp ha)⟩, fun D hD => ?_⟩
  have hD0 : H D = none := (same_new hp).free hD
  refine lc_tup (K := K) (a := a) (xs := l.map vn) (fun i H' => Same H H' ∧ H' D = some (.lst (List.replicate i (V.bl true)))) ⟨same_mut (same_new hp) hD0, upd_same⟩ (fun i H' _ q => SqT.of (q.1 _ _ ha)) ?_ ?_
  · rintro i y H' hi ⟨s1, h1⟩
    obtain ⟨x, hxl, rfl⟩ := map_at hi
    have hxn := hx x (List.mem_of_getElem? hxl)
    have hil := (List.getElem?_eq_some_iff.mp hxl).1
    refine ⟨rfl, _, rfl, _, rfl, _, _, rfl, rfl, (x : Int), 0, (n : Int) - 1, rfl, _, h1, ?_, same_mut s1 hD0, ?_⟩
    · rw [List.length_replicate]
      exact smallT (by omega)
    · have e : decide ((0 : Int) ≤ (x : Int) ∧ (x : Int) ≤ (n : Int) - 1) = true := decide_eq_true (by omega)
      rw [e, upd_same, rep_snoc]
  · rintro H' ⟨s1, h1⟩
    refine ⟨D, List.replicate (l.map vn).length true, rfl, SqL.of (by rw [h1, rep_true]), ?_⟩
    rw [all_rep]
    exact q H' s1

theorem cnt_len (t : Tree) (l : List Nat) : (cnt t l).length = t.length := by simp [cnt]
theorem cnt_at {t : Tree} {l : List Nat} {i : Nat} (h : i < t.length) : (cnt t l)[i]? = some (l.count i) := by
  unfold cnt
  rw [List.getElem?_map, List.getElem?_range h]
  rfl
theorem cnt_snoc {t : Tree} {l : List Nat} {x : Nat} (h : x < t.length) : (cnt t l).set x (l.count x + 1) = cnt t (l ++ [x]) := by
  refine List.ext_getElem? fun i => ?_
  by_cases hi : i < t.length
  · rw [cnt_at hi]
    by_cases e : x = i
    · subst e
      rw [List.getElem?_set_self (by rw [cnt_len]; exact h)]
      simp
    · rw [List.getElem?_set_ne e, cnt_at hi, List.count_append]
      have : List.count i [x] = 0 := List.count_eq_zero.mpr (by simp; omega)
      rw [this]
      rfl
  · rw [List.getElem?_eq_none (by rw [List.length_set, cnt_len]; omega), List.getElem?_eq_none (by rw [cnt_len]; omega)]
theorem cnt_nil (t : Tree) : cnt t [] = List.replicate t.length 0 := by
  unfold cnt
  rw [List.eq_replicate_iff]
  simp
theorem rep_flat (n : Nat) (x : V) : (List.replicate n [x]).flatten = List.replicate n x := by
  induction n with
  | zero => rfl
  | succ n ih => rw [List.replicate_succ, List.flatten_cons, ih, List.replicate_succ]; rfl
theorem flat_take {t : Tree} {i : Nat} (h : i < t.length) : (t.take (i + 1)).flatten = (t.take i).flatten ++ t.getD i [] := by
  have e : t.getD i [] = t[i] := by rw [List.getD_eq_getElem?_getD, List.getElem?_eq_getElem h]; rfl
  rw [e, List.take_succ_eq_append_getElem h, List.flatten_append]
  simp
theorem d_occurrences (R : Raw K mg "occurrences" s_occurrences) (T : Txt mg) : Def P w K mg base 1 "occurrences" ["children"] sp_occurrences := by
  refine R.made sc_occurrences (fun vs H Q E h => ?_) (fun _ _ _ _ _ _ us hl => match us, hl with | [_], _ => rfl) fun f cdv A outer s H vs Q E hr h => ?_
  · obtain ⟨v, t, rfl, _⟩ := h
    rfl
  obtain ⟨v, t, rfl, ⟨a, as, rfl, ha, hrow⟩, hn, hl, q⟩ := h
  refine ⟨_, pss_cons (ps_set (i := 1) sc_occurrences.nd rfl (Or.inl rfl) (pe_op op_rep (pe_lst (pa_cons pe_int pa_nil)) (pe_callB call_len_seq (by rfl) T.len PySem.boot_len (pa_cons (pv 0) pa_nil))))
    (pss_cons (ps_for PassesOwn.never rfl (pi_tup (pv 0)) (pg_name (i := 2) sc_occurrences.nd rfl (Or.inl rfl)) (pss_one (ps_for PassesOwn.never rfl (pi_tup (pv 2)) (pg_name (i := 3) sc_occurrences.nd rfl (Or.inl rfl)) (pss_one (ps_augS (pv 1) (pv 3) get_list pe_int ip_add set_list)))))
    (pss_one (ps_ret (pv 1)))), ?_⟩
  have hlen : (as.map V.ref).length = t.length := by rw [List.length_map]; exact hrow.1
  refine ⟨(by show 1 ≤ sizeLine; decide), fun p hp => ?_⟩
  refine ⟨_, rfl, a, _, rfl, .inr (SqT.of (keep hp ha)), p, _, _, rfl, rfl, upd_same, (by omega), (by omega), ?_, fun z hz => ?_⟩
  · rw [Int.toNat_natCast]
    exact small (by rw [List.length_singleton]; omega)
  have hz0 : H z = none := (same_new hp).free hz
  have s0 : Same H (upd (upd H p (.lst [.int 0])) z (.lst (List.replicate ((as.map V.ref).length : Int).toNat [V.int 0]).flatten)) := same_mut (same_new hp) hz0
  have e0 : (List.replicate ((as.map V.ref).length : Int).toNat [V.int 0]).flatten = (cnt t (t.take 0).flatten).map vn := by
    rw [Int.toNat_natCast, rep_flat, hlen]
    show _ = (cnt t []).map vn
    rw [cnt_nil, List.map_replicate]
    rfl
  rw [e0] at s0 ⊢
  refine ⟨_, rfl, a, rfl, ⟨_, SqT.of (s0 _ _ ha)⟩, for_tup (K := K) (a := a) (xs := as.map V.ref) (fun i σ H' => ∃ v2 v3, σ = [some (.ref a), some (.ref z), v2, v3] ∧ Same H H' ∧ H' z = some (lstN (cnt t (t.take i).flatten)))
    ⟨none, none, rfl, s0, upd_same⟩ (fun i σ H' _ ⟨_, _, _, s1, _⟩ => SqT.of (s1 _ _ ha)) ?_ ?_⟩
  · rintro i y σ H' hi ⟨v2, v3, rfl, s1, h1⟩
    obtain ⟨b, hb, rfl⟩ := map_at hi
    have hbt := hrow.2 i b hb
    have hit : i < t.length := by
      rw [← hrow.1]
      exact (List.getElem?_eq_some_iff.mp hb).1
    have hrow_mem : t.getD i [] ∈ t := by
      rw [List.getD_eq_getElem?_getD, List.getElem?_eq_getElem hit]
      exact List.getElem_mem hit
    refine ⟨_, rfl, b, rfl, ⟨_, SqT.of (s1 _ _ hbt)⟩, for_tup (K := K) (a := b) (xs := (t.getD i []).map vn) (fun j σ H' => ∃ v3, σ = [some (.ref a), some (.ref z), some (.ref b), v3] ∧ Same H H' ∧ H' z = some (lstN (cnt t ((t.take i).flatten ++ (t.getD i []).take j))))
      ⟨v3, rfl, s1, by rw [List.take_zero, List.append_nil]; exact h1⟩ (fun j σ H' _ ⟨_, _, s2, _⟩ => SqT.of (s2 _ _ hbt)) ?_ ?_⟩
    · rintro j y σ H2 hj ⟨v3, rfl, s2, h2⟩
      obtain ⟨x, hxr, rfl⟩ := map_at hj
      have hxt : x < t.length := (hl _ hrow_mem).2 x (List.mem_of_getElem? hxr)
      refine ⟨_, rfl, _, rfl, z, _, _, x, _, rfl, rfl, h2, rfl, at_map (cnt_at hxt), _, _, rfl, rfl, z, _, _, x, rfl, rfl, h2, ixN_nat (by rw [vn_len, cnt_len]; exact hxt), ?_⟩
      refine ⟨_, rfl, same_mut s2 hz0, ?_⟩
      have e1 : (V.int (((((t.take i).flatten ++ (t.getD i []).take j).count x : Nat) : Int) + 1)) = vn (((t.take i).flatten ++ (t.getD i []).take j).count x + 1) := by
        show V.int _ = V.int _
        rw [Int.natCast_add]
        rfl
      have hjl := (List.getElem?_eq_some_iff.mp hxr).1
      have e2 : (t.getD i []).take (j + 1) = (t.getD i []).take j ++ [x] := by
        rw [List.take_succ_eq_append_getElem hjl, (List.getElem?_eq_some_iff.mp hxr).2]
      rw [upd_same, e1, vn_set, cnt_snoc hxt, e2, List.append_assoc]
    · rintro σ H2 ⟨v3, rfl, s2, h2⟩
      refine ⟨_, _, rfl, s2, ?_⟩
      rw [vn_len, List.take_length] at h2
      rw [h2, flat_take hit]
  · rintro σ H' ⟨v2, v3, rfl, s1, h1⟩
    rw [hlen, List.take_length] at h1
    exact ⟨_, rfl, q z H' s1 hz0 h1⟩
theorem count_idx {r : Nat} {t : Tree} {k : F} (h : Rep t r k) : (cnt t t.flatten)[r]? = some 0 ∧ ∀ m z, m < r → (cnt t t.flatten)[m]? = some z → z ≠ 0 := by
  refine ⟨?_, fun m z hm hz => ?_⟩
  · rw [cnt_at h.root_lt, h.count h.root_lt, if_pos rfl]
  · have hmt : m < t.length := Nat.lt_trans hm h.root_lt
    rw [cnt_at hmt, h.count hmt, if_neg (by omega)] at hz
    have := Option.some.inj hz
    omega
theorem flat_ns (l : List Nat) : (l.map vn).all flatV = true := by
  rw [List.all_eq_true]
  intro x hx
  obtain ⟨n, _, rfl⟩ := List.mem_map.mp hx
  rfl
theorem eqV_vn (a b : Nat) : eqV (vn a) (vn b) = decide (a = b) := by
  show decide ((a : Int) = (b : Int)) = _
  by_cases h : a = b
  · subst h; simp
  · have : ¬ (a : Int) = (b : Int) := by omega
    simp [h, this]
theorem inV_vn (x : Nat) (l : List Nat) : inV (vn x) (l.map vn) = decide (x ∈ l) := by
  unfold inV
  rw [List.any_map]
  induction l with
  | nil => simp
  | cons y l ih =>
    rw [List.any_cons, ih]
    show (eqV (vn y) (vn x) || _) = _
    rw [eqV_vn]
    by_cases h : y = x
    · subst h; simp
    · have h' : ¬ x = y := fun e => h e.symm
      simp [h, h']
theorem d_root_of (R : Raw K mg "root_of" s_root_of) (D_occurrences : Def P w K mg base 1 "occurrences" ["children"] sp_occurrences) : Def P w K mg base 2 "root_of" ["tree"] sp_root := by
  refine R.made sc_root_of (fun vs H Q E h => ?_) (fun _ _ _ _ _ _ us hl => match us, hl with | [_], _ => rfl) fun f cdv A outer s H vs Q E hr h => ?_
  · obtain ⟨v, t, r, k, rfl, _⟩ := h
    rfl
  obtain ⟨v, t, r, k, rfl, hT, hR, hn, q⟩ := h
  refine ⟨_, pss_one (ps_ret (pe_bm PySem.F.plainAttrs_list PySem.F.slot_list_index PySem.F.type_list_index mt_index (pe_fn D_occurrences hr (by rfl) (pa_cons (pv 0) pa_nil)) (pa_cons pe_int pa_nil))), ?_⟩
  refine ⟨_, rfl, v, t, rfl, hT, hn, (fun l hl => ⟨Nat.le_trans (hR.row_len l hl) hn, hR.row_lt l hl⟩), fun p H' s1 hp h1 => ?_⟩
  obtain ⟨c1, c2⟩ := count_idx hR
  refine ⟨.inl ⟨rfl, _, SqL.of h1⟩, p, _, _, r, vn 0, rfl, rfl, SqL.of h1, rfl, flat_ns _, at_map c1, rfl, fun m z hm hz => ?_, q H' s1⟩
  obtain ⟨y, hy, rfl⟩ := map_at hz
  show eqV (vn y) (vn 0) = false
  rw [eqV_vn]
  exact decide_eq_false (c2 m y hm hy)
end
end SF
end

/-! SFf2 -/
section
set_option Elab.async false
set_option maxRecDepth 100000
set_option maxHeartbeats 4000000
/-! Trees, walked: preorder_from, first_problem, is_tree. -/
namespace SF
open PySem PySem.Spec L2
open PyProof.Rows hiding St

theorem trees_all : ∀ f : F, f.trees.flatMap (fun e => e.1 :: e.2.all) = f.all
  | .nil => rfl
  | .cons v k r => by simp [F.trees, F.all, trees_all r]
theorem has_trees {g : G} : ∀ {f : F}, Has g f → ∀ e ∈ f.trees, Has g (.cons e.1 e.2 .nil)
  | .nil, _, e, he => by simp [F.trees] at he
  | .cons v k r, ⟨h1, h2, h3⟩, e, he => by
    simp only [F.trees, List.mem_cons] at he
    rcases he with rfl | he
    · exact ⟨h1, h2, trivial⟩
    · exact has_trees h3 e he
theorem test_ne {K : PySem.W.Frag} {H : Hp} {z : Addr} {l : List Nat} {R : VK} (hw : H z = some (lstN l)) (k : ∀ H', Same H H' → R (.bl (!l.isEmpty)) H') :
    ([] : List V).length ≤ sizeLine ∧ ∀ p, H p = none → rNeD K (.ref z) (.ref p) (upd H p (.lst [])) R :=
  ⟨Nat.zero_le _, fun p hp => ⟨_, _, dp_lst (keep hp hw), .lst (SqL.of upd_same) .nil, shaped_lst _, shaped_nil, by
    rw [eqv_nil]
    have e : (dI l).isEmpty = l.isEmpty := by cases l <;> rfl
    rw [e]
    exact k _ (same_new hp)⟩⟩
theorem last_at {α : Type} (l : List α) (x : α) : (l ++ [x])[(l ++ [x]).length - 1]? = some x := by simp
section
variable {P : Program} {w : World} {K : PySem.W.Frag} {mg : Str → Option Value} {base : Heap}
theorem d_preorder_from (R : Raw K mg "preorder_from" s_preorder_from) : Def P w K mg base 1 "preorder_from" ["children", "start"] sp_preorder_from := by
  refine R.made sc_preorder_from (fun vs H Q E h => ?_) (fun _ _ _ _ _ _ us hl => match us, hl with | [_, _], _ => rfl) fun f cdv A outer s H vs Q E hr h => ?_
  · obtain ⟨v, t, r, k, rfl, _⟩ := h
    rfl
  obtain ⟨v, t, r, k, rfl, ⟨a, as, rfl, ha, hrow⟩, hR, hn, q⟩ := h
  have hu64 := hr.units
  refine ⟨_, pss_cons (ps_set (i := 2) sc_preorder_from.nd rfl (Or.inl rfl) (pe_lst pa_nil))
    (pss_cons (ps_set (i := 3) sc_preorder_from.nd rfl (Or.inl rfl) (pe_lst (pa_cons (pv 1) pa_nil)))
    (pss_cons (ps_while PassesOwn.never (pt_cmpR (op_neD hu64) (pv 3) (pe_lst pa_nil) (nomark _)) (pss_cons (ps_set (i := 4) sc_preorder_from.nd rfl (Or.inl rfl) (pe_bm0 PySem.F.plainAttrs_list PySem.F.slot_list_pop PySem.F.type_list_pop mt_pop (pv 3)))
      (pss_cons (ps_expr (pe_bm PySem.F.plainAttrs_list PySem.F.slot_list_append PySem.F.type_list_append mt_append (pv 2) (pa_cons (pv 4) pa_nil)))
      (pss_one (ps_expr (pe_bm PySem.F.plainAttrs_list PySem.F.slot_list_extend PySem.F.type_list_extend mt_extT (pv 3) (pa_cons (pe_revT (pe_ix ix_tup (pv 0) (pv 4) (fun _ _ => rfl))) pa_nil)))))))
    (pss_one (ps_ret (pv 2))))), ?_⟩
  refine ⟨Nat.zero_le _, fun p hp => ?_⟩
  refine ⟨_, rfl, (by show 1 ≤ sizeLine; decide), fun z hz => ?_⟩
  have hz0 : H z = none := (same_new hp).free hz
  have hpz : p ≠ z := ne_of_none upd_same hz
  have tot : (r :: k.all).length = t.length := by rw [List.length_cons, F.all_length, hR.size]
  refine ⟨fun m σ H' => ∃ (W : List (Nat × F)) (xs : List Nat) (v4 : Option V), m = sizeW W ∧ σ = [some (.ref a), some (vn r), some (.ref p), some (.ref z), v4] ∧ Same H H' ∧ H' p = some (lstN xs) ∧ H' z = some (lstN (W.map (·.1)).reverse) ∧
      xs ++ W.flatMap (fun e => e.1 :: e.2.all) = r :: k.all ∧ ∀ e ∈ W, Has (gt t) (.cons e.1 e.2 .nil), ⟨_, [(r, k)], [], none, rfl, rfl, same_mut (same_new hp) hz0, keep hz upd_same, upd_same, by simp, fun e he => ?_⟩, ?_⟩
  · rw [List.mem_singleton.mp he]
    exact hR.has
  rintro m σ H' ⟨W, xs, v4, rfl, rfl, s1, h1, h2, hx, hH⟩
  refine ⟨_, rfl, test_ne h2 fun H2 s2 => ⟨_, rfl, ?_⟩⟩
  cases W with
  | nil =>
    refine iteF ?_
    refine ⟨_, rfl, q p H2 (s1.trans s2) hp ?_⟩
    rw [List.flatMap_nil, List.append_nil] at hx
    rw [← hx]
    exact s2 _ _ h1
  | cons e W =>
    obtain ⟨x, kx⟩ := e
    have hne : (List.map (·.1) ((x, kx) :: W)).reverse.isEmpty = false := by simp
    rw [hne]
    refine iteT ?_
    have h1' := s2 _ _ h1
    have h2' := s2 _ _ h2
    have s12 := s1.trans s2
    refine ⟨_, fun σ' H'' n => n, ?_⟩
    have er : ((List.map (·.1) ((x, kx) :: W)).reverse).map vn = ((W.map (·.1)).reverse).map vn ++ [vn x] := by simp
    have hxm : x ∈ r :: k.all := by rw [← hx]; simp
    have hxt : x < t.length := (hR.mem x).mp hxm
    obtain ⟨b, hb, hbt⟩ := hrow.at hxt
    have hk := hH (x, kx) (by simp)
    have etop : t.getD x [] = kx.tops := hk.1
    rw [etop] at hbt
    have hpn : p ≠ z := hpz
    -- node = waiting.pop()
    refine ⟨_, rfl, .inl ⟨rfl, _, SqL.of h2'⟩, z, _, vn x, rfl, rfl, h2', (by rw [er]; exact last_at _ _), ?_⟩
    have h3 : upd H2 z (.lst (((List.map (·.1) ((x, kx) :: W)).reverse.map vn).dropLast)) z = some (lstN (W.map (·.1)).reverse) := by
      rw [upd_same, er, List.dropLast_concat]
    have h3p := keepN hpn h1' (u := .lst (((List.map (·.1) ((x, kx) :: W)).reverse.map vn).dropLast))
    have s3 : Same H (upd H2 z (.lst (((List.map (·.1) ((x, kx) :: W)).reverse.map vn).dropLast))) := same_mut s12 hz0
    generalize upd H2 z (.lst (((List.map (·.1) ((x, kx) :: W)).reverse.map vn).dropLast)) = H3 at h3 h3p s3
    -- found.append(node)
    have hlen : xs.length < 100000 := by
      have := congrArg List.length hx
      rw [List.length_append, tot] at this
      omega
    refine ⟨_, rfl, .inl ⟨rfl, _, SqL.of h3p⟩, _, rfl, p, _, _, rfl, rfl, h3p, smallT (by rw [vn_len]; exact hlen), ?_⟩
    have h4 : upd H3 p (.lst (xs.map vn ++ [vn x])) p = some (lstN (xs ++ [x])) := by rw [upd_same, lst_snoc]
    have h4z := keepN (Ne.symm hpn) h3 (u := .lst (xs.map vn ++ [vn x]))
    have s4 : Same H (upd H3 p (.lst (xs.map vn ++ [vn x]))) := same_mut s3 hp
    generalize upd H3 p (.lst (xs.map vn ++ [vn x])) = H4 at h4 h4z s4
    -- waiting.extend(children[node][::-1])
    refine ⟨_, rfl, .inl ⟨rfl, _, SqL.of h4z⟩, _, rfl, _, rfl, a, _, _, _, rfl, rfl, SqT.of (s4 _ _ ha), ix_ref hb, b, _, rfl, SqT.of (s4 _ _ hbt), fun c hc => ?_⟩
    have lw : W.length + kx.size + 1 ≤ t.length := by
      have h6 := congrArg List.length hx
      rw [List.length_append, tot, List.flatMap_cons, List.length_append, List.length_cons, F.all_length] at h6
      dsimp only at h6
      have h7 : W.length ≤ (W.flatMap fun e => e.1 :: e.2.all).length := by
        clear hx hH h2 h2' er h3 h4 h4z h6 hne
        induction W with
        | nil => exact Nat.zero_le _
        | cons e W ih =>
          rw [List.flatMap_cons, List.length_append, List.length_cons, List.length_cons]
          omega
      omega
    refine ⟨z, c, _, _, rfl, rfl, keep hc h4z, SqT.of upd_same, ?_, ?_⟩
    · rw [vn_len, List.length_reverse, List.length_map, List.length_reverse, vn_len]
      have : kx.tops.length ≤ kx.size := by
        rw [← F.trees_fst, List.length_map]
        have := sizeW_trees kx
        have h8 : ∀ S : List (Nat × F), S.length ≤ sizeW S := fun S => by
          induction S with
          | nil => exact Nat.zero_le _
          | cons e S ih => simp only [sizeW, List.map_cons, List.sum_cons, List.length_cons] at ih ⊢; omega
        have := h8 kx.trees
        omega
      exact small (by omega)
    · refine ⟨sizeW (kx.trees ++ W), ?_, kx.trees ++ W, xs ++ [x], some (vn x), rfl, rfl, same_mut (same_mut s4 ?_) hz0, keepN hpn (keep hc h4), ?_, ?_, fun e he => ?_⟩
      · rw [sizeW_append, sizeW_trees]
        simp only [sizeW, List.map_cons, List.sum_cons]
        omega
      · exact s4.free hc
      · rw [upd_same, List.map_append, List.reverse_append, F.trees_fst, show (kx.tops.map vn).reverse = kx.tops.reverse.map vn by rw [List.map_reverse], lst_app]
      · rw [List.flatMap_append, trees_all, ← hx, List.flatMap_cons]
        simp
      · rcases List.mem_append.mp he with g | g
        · exact has_trees hk.2.1 e g
        · exact hH e (by simp [g])

theorem filt_root {n r : Nat} (h : r < n) : (List.range n).filter (fun j => decide (j = r)) = [r] := by
  have hn : (List.range n).Nodup := List.nodup_range
  rw [filter_one (x := r) hn (List.mem_range.mpr h) fun y _ hy => of_decide_eq_true hy]
  simp
theorem d_first_problem (R : Raw K mg "first_problem" s_first_problem) (T : Txt mg) (D_are_children : Def P w K mg base 3 "are_children" ["value", "size"] sp_are_children) (D_occurrences : Def P w K mg base 1 "occurrences" ["children"] sp_occurrences)
    (D_preorder_from : Def P w K mg base 1 "preorder_from" ["children", "start"] sp_preorder_from) : Def P w K mg base 4 "first_problem" ["children"] sp_first_problem := by
  refine R.made sc_first_problem (fun vs H Q E h => ?_) (fun _ _ _ _ _ _ us hl => match us, hl with | [_], _ => rfl) fun f cdv A outer s H vs Q E hr h => ?_
  · obtain ⟨v, t, r, k, rfl, _⟩ := h
    rfl
  obtain ⟨v, t, r, k, rfl, hT, hR, hn, q⟩ := h
  have hT0 := hT
  obtain ⟨a, as, rfl, ha, hrow⟩ := hT
  have hr1 : Room 1 _ := hr.mono (by decide)
  have hlen : (as.map V.ref).length = t.length := by rw [List.length_map]; exact hrow.1
  refine ⟨_, pss_cons (ps_set (i := 1) sc_first_problem.nd rfl (Or.inl rfl) (pe_callB call_len_seq (by rfl) T.len PySem.boot_len (pa_cons (pv 0) pa_nil)))
    (pss_cons (ps_for PassesOwn.never rfl (pi_range1 (by rfl) T.range (pa_cons (pv 1) pa_nil)) (pg_name (i := 2) sc_first_problem.nd rfl (Or.inl rfl)) (pss_one (ps_if (pt_not (pt_val (pe_fn D_are_children hr (by rfl) (pa_cons (pe_ix ix_tup (pv 0) (pv 2) (fun _ _ => rfl)) (pa_cons (pv 1) pa_nil))))) pss_never pss_nil)))
    (pss_cons (ps_set (i := 3) sc_first_problem.nd rfl (Or.inr rfl) (pe_fn D_occurrences hr1 (by rfl) (pa_cons (pv 0) pa_nil)))
    (pss_cons (ps_for PassesOwn.never rfl (pi_range1 (by rfl) T.range (pa_cons (pv 1) pa_nil)) (pg_name (i := 2) sc_first_problem.nd rfl (Or.inl rfl)) (pss_one (ps_if (pt_cmpR op_gt (pe_ix ix_list (pv 3) (pv 2) (fun _ _ => rfl)) pe_int (nomark _)) pss_never pss_nil)))
    (pss_cons (ps_setLc (i := 4) (own := [("node", 2)]) (g := (gName 2)) rfl sc_first_problem.nd rfl rfl (sw_true rfl rfl rfl (by decide +kernel)) (pi_range1 (by rfl) T.range (pa_cons (pv 1) pa_nil)) (blkOk_by (N := N_first_problem) (sc := defScope s_first_problem) (by decide +kernel)) (fun _ _ _ _ _ => (pg_name (i := 2) sc_first_problem.nd rfl (Or.inl rfl))) (fun _ _ _ _ _ => pts_one (pt_cmpR op_eq (pe_ix ix_l (pv 3) (pv 2) (fun _ _ => rfl)) pe_int (nomark _))) (fun _ _ _ _ _ => (pv 2)))
    (pss_cons (ps_if (pt_cmpR op_ne (pe_callB call_len_seq (by rfl) T.len PySem.boot_len (pa_cons (pv 4) pa_nil)) pe_int (nomark _)) pss_never pss_nil)
    (pss_cons (ps_set (i := 5) sc_first_problem.nd rfl (Or.inl rfl) (pe_fn D_preorder_from hr1 (by rfl) (pa_cons (pv 0) (pa_cons (pe_ix ix_list (pv 4) pe_int (fun _ _ => rfl)) pa_nil))))
    (pss_cons (ps_for PassesOwn.never rfl (pi_range1 (by rfl) T.range (pa_cons (pv 1) pa_nil)) (pg_name (i := 2) sc_first_problem.nd rfl (Or.inl rfl)) (pss_one (ps_if (pt_cmpR op_notInN (pv 2) (pv 5) (by rfl)) pss_never pss_nil)))
    (pss_one (ps_ret pe_non))))))))), ?_⟩
  refine ⟨_, rfl, a, _, rfl, .inr (SqT.of ha), ?_⟩
  rw [hlen]
  -- for node in range(size): are_children
  refine ⟨_, rfl, _, rfl, by omega, by omega, for_range (lo := 0) (n := ((t.length : Nat) : Int).toNat) (fun i σ H' => ∃ v2, σ = [some (.ref a), some (vn t.length), v2, none, none, none] ∧ Same H H') ⟨none, rfl, Same.refl _⟩ ?_ ?_⟩
  · rintro i σ H' hi ⟨v2, rfl, s1⟩
    rw [Int.toNat_natCast] at hi
    obtain ⟨b, hb, hbt⟩ := hrow.at hi
    have hm : t.getD i [] ∈ t := by
      rw [List.getD_eq_getElem?_getD, List.getElem?_eq_getElem hi]
      exact List.getElem_mem hi
    have e0 : (0 : Int) + (i : Int) = (i : Int) := Int.zero_add _
    refine ⟨_, rfl, _, rfl, a, _, _, _, rfl, rfl, SqT.of (s1 _ _ ha), (by rw [e0]; exact ix_ref hb), _, rfl, b, _, t.length, rfl, s1 _ _ hbt, Nat.le_trans (hR.row_len _ hm) hn, hR.row_lt _ hm, fun H2 s2 => ⟨true, rfl, iteF ?_⟩⟩
    exact ⟨_, rfl, s1.trans s2⟩
  rintro σ H1 ⟨v2, rfl, s1⟩
  -- times = occurrences(children)
  refine ⟨_, rfl, .ref a, t, rfl, hT0.mono (tk_same s1), hn, (fun l hl => ⟨Nat.le_trans (hR.row_len l hl) hn, hR.row_lt l hl⟩), fun z H2 s2 hz h2 => ?_⟩
  have cz : ∀ {i : Nat}, i < t.length → (cnt t t.flatten)[i]? = some (if i = r then 0 else 1) := fun hi => by rw [cnt_at hi, hR.count hi]
  refine ⟨_, rfl, _, rfl, by omega, by omega, for_range (lo := 0) (n := ((t.length : Nat) : Int).toNat) (fun i σ H' => ∃ v2, σ = [some (.ref a), some (vn t.length), v2, some (.ref z), none, none] ∧ Same H H' ∧ H' z = some (lstN (cnt t t.flatten))) ⟨_, rfl, s1.trans s2, h2⟩ ?_ ?_⟩
  · rintro i σ H' hi ⟨v2, rfl, s3, h3⟩
    rw [Int.toNat_natCast] at hi
    have e0 : (0 : Int) + (i : Int) = (i : Int) := Int.zero_add _
    refine ⟨_, rfl, _, rfl, z, _, _, _, rfl, rfl, SqL.of h3, (by rw [e0]; exact ix_at (cz hi)), _, _, rfl, rfl, _, rfl, ?_⟩
    have e1 : decide ((1 : Int) < ((if i = r then 0 else 1 : Nat) : Int)) = false := decide_eq_false (by split <;> omega)
    show if decide ((1 : Int) < ((if i = r then 0 else 1 : Nat) : Int)) = true then _ else _
    rw [e1]
    exact iteF ⟨_, rfl, s3, h3⟩
  rintro σ H3 ⟨v3, rfl, s3, h3⟩
  -- roots = [..]
  refine ⟨_, rfl, _, rfl, by omega, by omega, fun D hD => ?_⟩
  have hD0 : H D = none := s3.free hD
  refine lc_range (lo := 0) (n := ((t.length : Nat) : Int).toNat) (fun i H' => Same H H' ∧ H' z = some (lstN (cnt t t.flatten)) ∧ H' D = some (lstN ((List.range i).filter fun j => decide (j = r))))
    ⟨same_mut s3 hD0, keep hD h3, upd_same⟩ ?_ ?_
  · rintro i H' hi ⟨s4, h4, hd4⟩
    rw [Int.toNat_natCast] at hi
    have e0 : (0 : Int) + (i : Int) = (i : Int) := Int.zero_add _
    refine ⟨rfl, _, rfl, _, rfl, z, _, _, _, rfl, rfl, h4, (by rw [e0]; exact ix_at (cz hi)), rfl, _, rfl, ?_⟩
    have hDz : z ≠ D := ne_of_none h3 hD
    by_cases er : i = r
    · subst er
      rw [if_pos rfl]
      refine ite2 (fun _ => ?_) (fun c => absurd rfl c)
      refine ⟨_, rfl, _, hd4, ?_, same_mut s4 hD0, keepN hDz h4, ?_⟩
      · have := List.length_filter_le (fun j => decide (j = i)) (List.range i)
        rw [List.length_range] at this
        rw [vn_len]
        exact smallT (by omega)
      · rw [upd_same, e0, lst_snoc, List.range_succ, List.filter_append]
        simp
    · rw [if_neg er]
      refine ite2 (fun c => ?_) (fun _ => ?_)
      · exact absurd c (by decide)
      · refine ⟨s4, h4, ?_⟩
        rw [hd4, List.range_succ, List.filter_append]
        simp [er]
  rintro H4 ⟨s4, h4, hd4⟩
  rw [Int.toNat_natCast, filt_root hR.root_lt] at hd4
  -- if len(roots) != 1
  refine ⟨_, rfl, D, _, rfl, .inl (SqL.of hd4), rfl, _, rfl, ?_⟩
  refine iteF ?_
  -- reached
  refine ⟨_, rfl, _, rfl, D, _, _, _, rfl, rfl, SqL.of hd4, (ix_at (l := [r]) (i := 0) rfl), .ref a, t, r, k, rfl, hT0.mono (tk_same s4), hR, hn, fun z2 H5 s5 hz2 h5 => ?_⟩
  refine ⟨_, rfl, _, rfl, by omega, by omega, for_range (lo := 0) (n := ((t.length : Nat) : Int).toNat) (fun i σ H' => ∃ v2, σ = [some (.ref a), some (vn t.length), v2, some (.ref z), some (.ref D), some (.ref z2)] ∧ Same H H' ∧ H' z2 = some (lstN (r :: k.all))) ⟨_, rfl, s4.trans s5, h5⟩ ?_ ?_⟩
  · rintro i σ H' hi ⟨v2, rfl, s6, h6⟩
    rw [Int.toNat_natCast] at hi
    have e0 : (0 : Int) + (i : Int) = (i : Int) := Int.zero_add _
    refine ⟨_, rfl, _, rfl, z2, _, i, (by rw [e0]), rfl, h6, _, rfl, ?_⟩
    rw [decide_eq_true ((hR.mem i).mpr hi)]
    exact iteF ⟨_, rfl, s6, h6⟩
  rintro σ H6 ⟨v4, rfl, s6, h6⟩
  exact q H6 s6
theorem d_is_tree (R : Raw K mg "is_tree" s_is_tree) (T : Txt mg) (D_first_problem : Def P w K mg base 4 "first_problem" ["children"] sp_first_problem) : Def P w K mg base 5 "is_tree" ["value"] sp_is_tree := by
  refine R.made sc_is_tree (fun vs H Q E h => ?_) (fun _ _ _ _ _ _ us hl => match us, hl with | [_], _ => rfl) fun f cdv A outer s H vs Q E hr h => ?_
  · obtain ⟨v, t, r, k, rfl, _⟩ := h
    rfl
  obtain ⟨v, t, r, k, rfl, hT, hR, hn, q⟩ := h
  have hT0 := hT
  obtain ⟨a, as, rfl, ha, hrow⟩ := hT
  obtain ⟨t_nodes, h_nodes⟩ := T.nodes
  have hlen : (as.map V.ref).length = t.length := by rw [List.length_map]; exact hrow.1
  have hpos := hR.root_lt
  refine ⟨_, pss_cons (ps_if (PW.pt (pw_or (pt_not (pt_val (pe_callB call_isi (by rfl) T.isinstance (by decide +kernel) (pa_cons (pv 0) (pa_cons (pe_bltn (v := .ty "tuple") (by rfl) T.tuple (by decide +kernel) rfl) pa_nil))))) (pw_or1 (pt_not (pt_chain op_le op_le pe_int (pe_callB call_len_seq (by rfl) T.len PySem.boot_len (pa_cons (pv 0) pa_nil)) (pe_glob (v := .int (40)) (by rfl) h_nodes ⟨t_nodes, rfl⟩)))))) pss_never pss_nil)
    (pss_one (ps_ret (pe_and (pe_callB (cr_all rfl) (by rfl) T.all (by decide +kernel) (pa_cons (pe_lc (own := [("row", 1)]) (g := (gName 1)) (tt := tYes) rfl sc_is_tree.nd (pi_tup (pv 0)) (blkOk_by (N := N_is_tree) (sc := defScope s_is_tree) (by decide +kernel)) (fun _ _ _ _ _ => (pg_name (i := 1) sc_is_tree.nd rfl (Or.inl rfl))) (fun _ _ _ _ _ => pts_nil) (fun _ _ _ _ _ => (pe_callB call_isF (by rfl) T.isinstance (by decide +kernel) (pa_cons (pv 1) (pa_cons (pe_bltn (v := .ty "tuple") (by rfl) T.tuple (by decide +kernel) rfl) pa_nil))))) pa_nil)) (pe_one (pe_cmpR op_isN (pe_fn D_first_problem hr (by rfl) (pa_cons (pv 0) pa_nil)) pe_non (nomark _)))))), ?_⟩
  refine ⟨_, rfl, .ref a, .ty "tuple", _, _, true, rfl, .ty _, .base (.tup ha), kit_ty (by decide +kernel), true, rfl, iteF ?_⟩
  refine ⟨_, rfl, a, _, rfl, .inr (SqT.of ha), _, _, rfl, rfl, _, rfl, ?_⟩
  have e1 : decide ((1 : Int) ≤ (((as.map V.ref).length : Nat) : Int)) = true := decide_eq_true (by omega)
  have e2 : decide ((((as.map V.ref).length : Nat) : Int) ≤ 40) = true := decide_eq_true (by omega)
  show if decide ((1 : Int) ≤ (((as.map V.ref).length : Nat) : Int)) = true then _ else _
  rw [e1]
  refine iteT ⟨_, _, rfl, rfl, true, ?_, iteF ?_⟩
  · show V.bl (decide ((((as.map V.ref).length : Nat) : Int) ≤ 40)) = _
    rw [e2]
  refine ⟨_, rfl, a, rfl, ⟨_, SqT.of ha⟩, fun D hD => ?_⟩
  refine lc_tup (K := K) (a := a) (xs := as.map V.ref) (fun i H' => Same H H' ∧ H' D = some (.lst (List.replicate i (V.bl true)))) ⟨same_new hD, upd_same⟩ (fun i H' _ q => SqT.of (q.1 _ _ ha)) ?_ ?_
  · rintro i y H' hi ⟨s1, h1⟩
    obtain ⟨b, hb, rfl⟩ := map_at hi
    have hil := (List.getElem?_eq_some_iff.mp hb).1
    have hil2 : i < t.length := by rw [← hrow.1]; exact hil
    refine ⟨rfl, _, rfl, .ref b, "tuple", "tuple", true, rfl, .tup (s1 _ _ (hrow.2 i b hb)), by decide +kernel, _, h1, ?_, same_mut s1 hD, ?_⟩
    · rw [List.length_replicate]
      exact smallT (by omega)
    · rw [upd_same, rep_snoc]
  · rintro H' ⟨s1, h1⟩
    refine ⟨D, List.replicate (as.map V.ref).length true, rfl, SqL.of (by rw [h1, rep_true]), ?_⟩
    rw [all_rep]
    refine ⟨true, rfl, iteT ?_⟩
    refine ⟨_, rfl, .ref a, t, r, k, rfl, hT0.mono (tk_same s1), hR, hn, fun H2 s2 => ⟨rfl, ?_⟩⟩
    exact q H2 (s1.trans s2)
end
end SF
end

/-! SFg1 -/
section
set_option Elab.async false
set_option maxRecDepth 100000
set_option maxHeartbeats 4000000
/-! log_of. -/
namespace SF
open PySem PySem.Spec L2
open PyProof.Rows hiding St

/-- a node's subtree within the rows -/
def Sub (t : Tree) (x : Nat) (k : F) : Prop := Has (gt t) (.cons x k .nil) ∧ ∀ y ∈ x :: k.all, y < t.length
theorem Rep.sub {t : Tree} {r : Nat} {k : F} (h : Rep t r k) : Sub t r k := ⟨h.has, fun y hy => (h.mem y).mp hy⟩
theorem all_trees : ∀ {f : F}, ∀ e ∈ f.trees, ∀ y ∈ e.1 :: e.2.all, y ∈ f.all
  | .nil, e, he, _, _ => by simp [F.trees] at he
  | .cons v k r, e, he, y, hy => by
    simp only [F.trees, List.mem_cons] at he
    simp only [F.all, List.mem_cons, List.mem_append]
    rcases he with rfl | he
    · rcases List.mem_cons.mp hy with q | q
      · exact .inl q
      · exact .inr (.inl q)
    · exact .inr (.inr (all_trees e he y hy))
theorem Sub.kids {t : Tree} {x : Nat} {k : F} (h : Sub t x k) : ∀ e ∈ k.trees, Sub t e.1 e.2 := fun e he =>
  ⟨has_trees h.1.2.1 e he, fun y hy => h.2 y (List.mem_cons_of_mem _ (all_trees e he y hy))⟩
theorem Sub.row {t : Tree} {x : Nat} {k : F} (h : Sub t x k) : t.getD x [] = k.tops := h.1.1
theorem Sub.lt {t : Tree} {x : Nat} {k : F} (h : Sub t x k) : x < t.length := h.2 x (by simp)

/-- the waiting pairs at their addresses -/
def WAt (H : Hp) : List Addr → Wt → Prop
  | [], [] => True
  | a :: as, e :: W => H a = some (.tup [vn e.1, vn e.2.2]) ∧ WAt H as W
  | _, _ => False
theorem WAt.mono {H H' : Hp} (k : TK H H') : ∀ {as : List Addr} {W : Wt}, WAt H as W → WAt H' as W
  | [], [], _ => trivial
  | _ :: _, _ :: _, ⟨h, r⟩ => ⟨k.tup h, r.mono k⟩
theorem WAt.append {H : Hp} : ∀ {as bs : List Addr} {W V : Wt}, WAt H as W → WAt H bs V → WAt H (as ++ bs) (W ++ V)
  | [], _, [], _, _, r => r
  | _ :: _, _, _ :: _, _, ⟨h, r⟩, q => ⟨h, r.append q⟩
theorem WAt.reverse {H : Hp} : ∀ {as : List Addr} {W : Wt}, WAt H as W → WAt H as.reverse W.reverse
  | [], [], _ => trivial
  | a :: as, e :: W, ⟨h, r⟩ => by
    rw [List.reverse_cons, List.reverse_cons]
    exact r.reverse.append ⟨h, trivial⟩
theorem WAt.len {H : Hp} : ∀ {as : List Addr} {W : Wt}, WAt H as W → as.length = W.length
  | [], [], _ => rfl
  | a :: as, e :: W, ⟨h, r⟩ => by simp [r.len]
abbrev dW (W : Wt) : List PyData := W.map fun e => .tuple [dn1 e.1, dn1 e.2.2]
theorem dp_W {K : PySem.W.Frag} {H : Hp} : ∀ {as : List Addr} {W : Wt}, WAt H as W → DpAll K H (as.map V.ref) (dW W)
  | [], [], _ => .nil
  | a :: as, e :: W, ⟨h, r⟩ => .cons (.tup (SqT.of h) (.cons (.int _) (.cons (.int _) .nil))) (dp_W r)
theorem lay_dW : ∀ W : Wt, PyData.canLayAll0 (dW W) = true
  | [] => rfl
  | e :: W => by
    show (true && PyData.canLayAll0 (dW W)) = true
    rw [lay_dW W]
    rfl
theorem depth_dW : ∀ W : Wt, PyData.depthAll (dW W) ≤ 1
  | [] => Nat.zero_le _
  | e :: W => by
    have := depth_dW W
    show max (PyData.depth (.tuple [dn1 e.1, dn1 e.2.2])) (PyData.depthAll (dW W)) ≤ 1
    have e1 : PyData.depth (.tuple [dn1 e.1, dn1 e.2.2]) = 1 := rfl
    omega
theorem shaped_dW (W : Wt) : SeqAt.shaped (.list (dW W)) = true := by
  have := depth_dW W
  unfold SeqAt.shaped
  simp only [PyData.canLay0, PyData.depth, lay_dW]
  simp
  omega
theorem test_neW {K : PySem.W.Frag} {H : Hp} {z : Addr} {as : List Addr} {W : Wt} {R : VK} (hw : H z = some (.lst (as.reverse.map V.ref))) (hW : WAt H as W) (k : ∀ H', Same H H' → R (.bl (!W.isEmpty)) H') :
    ([] : List V).length ≤ sizeLine ∧ ∀ p, H p = none → rNeD K (.ref z) (.ref p) (upd H p (.lst [])) R :=
  ⟨Nat.zero_le _, fun p hp => ⟨_, _, .lst (SqL.of (keep hp hw)) (dp_W (hW.mono (tk_new hp)).reverse), .lst (SqL.of upd_same) .nil, shaped_dW _, shaped_nil, by
    rw [eqv_nil]
    have e : (dW W.reverse).isEmpty = W.isEmpty := by cases W <;> simp
    rw [e]
    exact k _ (same_new hp)⟩⟩
def sizeT (W : Wt) : Nat := (W.map fun e => e.2.1.size + 1).sum
theorem sizeT_cons (e : Nat × F × Nat) (W : Wt) : sizeT (e :: W) = e.2.1.size + 1 + sizeT W := by simp [sizeT]
theorem sizeT_at (d : Nat) (S : List (Nat × F)) (W : Wt) : sizeT (atD d S ++ W) = sizeW S + sizeT W := by
  unfold sizeT atD sizeW
  rw [List.map_append, List.sum_append, List.map_map]
  rfl
theorem len_sizeT : ∀ W : Wt, W.length ≤ sizeT W
  | [] => Nat.zero_le _
  | e :: W => by
    have := len_sizeT W
    rw [sizeT_cons, List.length_cons]
    omega
theorem len_sizeW : ∀ S : List (Nat × F), S.length ≤ sizeW S
  | [] => Nat.zero_le _
  | e :: S => by
    have := len_sizeW S
    simp only [sizeW, List.map_cons, List.sum_cons, List.length_cons] at this ⊢
    omega
theorem sizeW_cons (e : Nat × F) (S : List (Nat × F)) : sizeW (e :: S) = e.2.size + 1 + sizeW S := by simp [sizeW]
section
variable {P : Program} {w : World} {K : PySem.W.Frag} {mg : Str → Option Value} {base : Heap}
theorem d_log_of (R : Raw K mg "log_of" s_log_of) (T : Txt mg) (D_root_of : Def P w K mg base 2 "root_of" ["tree"] sp_root) :
    DefK P w K mg base 3 "log_of" ["tree", "limit"] 1 ["limit"] sp_log := by
  refine R.madeK sc_log_of (fun vs H Q E h => ?_) (fun _ _ _ _ _ _ us ws hl hw => match us, ws, hl, hw with | [_], [_], _, _ => rfl) fun f cdv A outer s H vs Q E hr h => ?_
  · obtain ⟨v, t, r, k, l, rfl, _⟩ := h
    rfl
  obtain ⟨v, t, r, k, l, rfl, hT, hR, hn, hl, q⟩ := h
  have hT0 := hT
  obtain ⟨a, as, rfl, ha, hrow⟩ := hT
  have hu64 := hr.units
  have hr_root_of : Room 2 _ := hr.mono (by decide)
  refine ⟨_, pss_cons (ps_set (i := 2) sc_log_of.nd rfl (Or.inl rfl) (pe_lst pa_nil))
    (pss_cons (ps_set (i := 3) sc_log_of.nd rfl (Or.inl rfl) (pe_lst (pa_cons (pe_fn D_root_of hr_root_of (by rfl) (pa_cons (pv 0) pa_nil)) pa_nil)))
    (pss_cons (ps_while PassesOwn.never (pt_cmpR (op_neD hu64) (pv 3) (pe_lst pa_nil) (nomark _)) (pss_cons (ps_set (i := 4) sc_log_of.nd rfl (Or.inl rfl) (pe_lst (pa_cons (pe_tup (pa_cons (pe_bm0 PySem.F.plainAttrs_list PySem.F.slot_list_pop PySem.F.type_list_pop mt_pop (pv 3)) (pa_cons pe_int pa_nil))) pa_nil)))
      (pss_one (ps_while PassesOwn.never (pt_cmpR (op_neD hu64) (pv 4) (pe_lst pa_nil) (nomark _)) (pss_cons (ps_asg (pe_bm0 PySem.F.plainAttrs_list PySem.F.slot_list_pop PySem.F.type_list_pop mt_pop (pv 4)) (pg_tup (by rfl) (pgs_cons (pg_name (i := 5) sc_log_of.nd rfl (Or.inl rfl)) (pgs_cons (pg_name (i := 6) sc_log_of.nd rfl (Or.inr rfl)) pgs_nil))))
        (pss_one (ps_if (pt_cmpR op_eq (pv 6) (pv 1) (nomark _)) (pss_one (ps_expr (pe_bm PySem.F.plainAttrs_list PySem.F.slot_list_append PySem.F.type_list_append mt_append (pv 3) (pa_cons (pv 5) pa_nil)))) (pss_cons (ps_expr (pe_bm PySem.F.plainAttrs_list PySem.F.slot_list_append PySem.F.type_list_append mt_append (pv 2) (pa_cons (pv 5) pa_nil)))
          (pss_one (ps_expr (pe_bm PySem.F.plainAttrs_list PySem.F.slot_list_extend PySem.F.type_list_extend mt_extend (pv 4) (pa_cons (pe_lc (own := [("child", 7)]) (g := (gName 7)) (tt := tYes) rfl sc_log_of.nd (pi_tup (pe_revT (pe_ix ix_t (pv 0) (pv 5) (fun _ _ => rfl)))) (blkOk_by (N := N_log_of) (sc := defScope s_log_of) (by decide +kernel)) (fun _ _ _ _ _ => (pg_name (i := 7) sc_log_of.nd rfl (Or.inl rfl))) (fun _ _ _ _ _ => pts_nil) (fun _ _ _ _ _ => (pe_tup (pa_cons (pv 7) (pa_cons (pe_op op_add (pv 6) pe_int) pa_nil))))) pa_nil))))))))))))
    (pss_one (ps_ret (pe_callTy call_tupleF (by rfl) T.tuple (by decide +kernel) (pa_cons (pv 2) pa_nil)))))), ?_⟩
  refine ⟨Nat.zero_le _, fun p hp => ?_⟩
  refine ⟨.ref a, rfl, .ref a, t, r, k, rfl, hT0.mono (tk_same (same_new hp)), hR, hn, fun H1 s1 => ?_⟩
  have h1p : H1 p = some (.lst []) := s1 _ _ upd_same
  have s1' : Same H H1 := (same_new hp).trans s1
  refine ⟨(by show 1 ≤ sizeLine; decide), fun z hz => ?_⟩
  have hz0 : H z = none := s1'.free hz
  have hpz : p ≠ z := ne_of_none h1p hz
  have tot : k.size + 1 = t.length := hR.size
  refine ⟨fun m σ H' => ∃ (S : List (Nat × F)) (xs : List Nat) (v4 v5 v6 v7 : Option V), m = (lgS l S).length ∧ σ = [some (.ref a), some (vn l), some (.ref p), some (.ref z), v4, v5, v6, v7] ∧ Same H H' ∧ H' p = some (lstN xs) ∧ H' z = some (lstN (S.map (·.1)).reverse) ∧
      xs ++ lgS l S = lg l r k ∧ (∀ e ∈ S, Sub t e.1 e.2) ∧ sizeW S + xs.length ≤ t.length,
    ⟨_, [(r, k)], [], none, none, none, none, rfl, rfl, same_mut s1' hz0, keep hz h1p, upd_same, by simp [lgS], fun e he => (by rw [List.mem_singleton.mp he]; exact hR.sub), by rw [sizeW_cons]; simp [sizeW]; omega⟩, ?_⟩
  rintro m σ H2 ⟨S, xs, v4, v5, v6, v7, rfl, rfl, s2, h2p, h2z, hx, hS, hsz⟩
  refine ⟨_, rfl, test_ne h2z fun H3 s3 => ⟨_, rfl, ?_⟩⟩
  have h3p := s3 _ _ h2p
  have h3z := s3 _ _ h2z
  have s03 := s2.trans s3
  cases S with
  | nil =>
    refine iteF ⟨_, rfl, p, _, rfl, h3p, fun u hu => ?_⟩
    have e : xs = lg l r k := by simpa [lgS] using hx
    subst e
    exact q (.ref u) _ (same_mut s03 (s03.free hu)) ⟨u, rfl, upd_same⟩
  | cons e S =>
    obtain ⟨x, kx⟩ := e
    have hne : (List.map (·.1) ((x, kx) :: S)).reverse.isEmpty = false := by simp
    rw [hne]
    refine iteT ?_
    refine ⟨_, fun σ' H'' n => n, ?_⟩
    have er : ((List.map (·.1) ((x, kx) :: S)).reverse).map vn = ((S.map (·.1)).reverse).map vn ++ [vn x] := by simp
    have hsub := hS (x, kx) (by simp)
    -- waiting = [(shelf.pop(), 0)]
    refine ⟨_, rfl, .inl ⟨rfl, _, SqL.of h3z⟩, z, _, vn x, rfl, rfl, h3z, (by rw [er]; exact last_at _ _), ?_⟩
    have h4z : upd H3 z (.lst (((List.map (·.1) ((x, kx) :: S)).reverse.map vn).dropLast)) z = some (lstN (S.map (·.1)).reverse) := by
      rw [upd_same, er, List.dropLast_concat]
    have h4p := keepN hpz h3p (u := .lst (((List.map (·.1) ((x, kx) :: S)).reverse.map vn).dropLast))
    have s04 : Same H (upd H3 z (.lst (((List.map (·.1) ((x, kx) :: S)).reverse.map vn).dropLast))) := same_mut s03 hz0
    generalize upd H3 z (.lst (((List.map (·.1) ((x, kx) :: S)).reverse.map vn).dropLast)) = H4 at h4z h4p s04
    refine ⟨(by show 2 ≤ sizeLine; decide), fun c hc => ⟨(by show 1 ≤ sizeLine; decide), fun W0 hw => ?_⟩⟩
    have s45 : Same H4 (upd H4 c (.tup [vn x, .int 0])) := same_new hc
    have hw4 : H4 W0 = none := s45.free hw
    have hw0 : H W0 = none := s04.free hw4
    have hpw : p ≠ W0 := ne_of_none h4p hw4
    have hzw : z ≠ W0 := ne_of_none h4z hw4
    have s46 : Same H4 (upd (upd H4 c (.tup [vn x, .int 0])) W0 (.lst [.ref c])) := same_mut s45 hw4
    refine ⟨fun m σ H' => ∃ (W : Wt) (qs : List Addr) (S2 : List (Nat × F)) (ys : List Nat) (v5 v6 v7 : Option V), m = sizeT W ∧ σ = [some (.ref a), some (vn l), some (.ref p), some (.ref z), some (.ref W0), v5, v6, v7] ∧ Same H H' ∧ H' p = some (lstN ys) ∧
        H' z = some (lstN (S2.map (·.1)).reverse) ∧ H' W0 = some (.lst (qs.reverse.map V.ref)) ∧ WAt H' qs W ∧ ys ++ nrW l W = xs ++ x :: nr l 1 kx ∧ frW l W ++ lgS l S2 = fr l 1 kx ++ lgS l S ∧ (∀ e ∈ W, Sub t e.1 e.2.1 ∧ e.2.2 ≤ l) ∧ (∀ e ∈ S2, Sub t e.1 e.2) ∧
        sizeT W + sizeW S2 + ys.length ≤ t.length,
      ⟨_, [(x, kx, 0)], [c], S, xs, v5, v6, v7, rfl, rfl, s04.trans s46, s46 _ _ h4p, s46 _ _ h4z, upd_same, ⟨keep hw upd_same, trivial⟩, ?_, ?_, ?_, fun e he => hS e (by simp [he]), ?_⟩, ?_⟩
    · have h0 : 0 < l := by omega
      simp [nrW, h0]
    · have h0 : 0 < l := by omega
      simp [frW, h0]
    · intro e he
      rw [List.mem_singleton.mp he]
      exact ⟨hsub, Nat.zero_le _⟩
    · rw [sizeW_cons] at hsz
      rw [sizeT_cons]
      have : sizeT [] = 0 := rfl
      dsimp only at hsz ⊢
      omega
    clear hsz
    rintro m σ H5 ⟨W, qs, S2, ys, v5, v6, v7, rfl, rfl, s5, h5p, h5z, h5w, hW, hA, hB, hWs, hSs, hsz⟩
    refine ⟨_, rfl, test_neW h5w hW fun H6 s6 => ⟨_, rfl, ?_⟩⟩
    have h6p := s6 _ _ h5p
    have h6z := s6 _ _ h5z
    have h6w := s6 _ _ h5w
    have s06 := s5.trans s6
    have hW6 := hW.mono (tk_same s6)
    cases W with
    | nil =>
      refine iteF ?_
      have e1 : ys = xs ++ x :: nr l 1 kx := by simpa [nrW] using hA
      have e2 : lgS l S2 = fr l 1 kx ++ lgS l S := by simpa [frW] using hB
      refine ⟨(lgS l S2).length, ?_, S2, ys, _, _, _, _, rfl, rfl, s06, h6p, h6z, ?_, hSs, by omega⟩
      · rw [e2, lgS_cons]
        simp [lg]
        omega
      · rw [← hx, e1, e2, lgS_cons]
        simp [lg]
    | cons e W =>
      cases qs with
      | nil => exact hW.elim
      | cons b qs =>
        obtain ⟨y, ky, d⟩ := e
        obtain ⟨hb, hW7⟩ := hW6
        obtain ⟨hsy, hdl⟩ := hWs (y, ky, d) (by simp)
        have hlt := hsy.lt
        obtain ⟨rb, hrb, hrbt⟩ := hrow.at hlt
        rw [hsy.row] at hrbt
        refine iteT ?_
        refine ⟨_, fun σ' H'' n => n, ?_⟩
        -- node, depth = waiting.pop()
        have ew : (b :: qs).reverse.map V.ref = qs.reverse.map V.ref ++ [.ref b] := by simp
        rw [ew] at h6w
        refine ⟨_, rfl, .inl ⟨rfl, _, SqL.of h6w⟩, W0, _, .ref b, rfl, rfl, h6w, last_at _ _, ?_⟩
        rw [List.dropLast_concat]
        have h7w : upd H6 W0 (.lst (qs.reverse.map V.ref)) W0 = some (.lst (qs.reverse.map V.ref)) := upd_same
        have tk7 := tk_lst (o := .lst (qs.reverse.map V.ref)) h6w
        have h7p := keepN hpw h6p (u := .lst (qs.reverse.map V.ref))
        have h7z := keepN hzw h6z (u := .lst (qs.reverse.map V.ref))
        have s07 : Same H (upd H6 W0 (.lst (qs.reverse.map V.ref))) := same_mut s06 hw0
        have hb7 := tk7.tup hb
        replace hW7 := hW7.mono tk7
        generalize upd H6 W0 (.lst (qs.reverse.map V.ref)) = H7 at h7w h7p h7z s07 hb7 hW7
        refine ⟨b, _, rfl, SqT.of hb7, rfl, _, _, rfl, _, _, rfl, rfl, ?_⟩
        -- if depth == limit
        refine ⟨_, rfl, _, rfl, rfl, _, rfl, ?_⟩
        rw [sizeT_cons] at hsz
        dsimp only at hsz hdl
        have lS := len_sizeW S2
        have lW := len_sizeT W
        by_cases hd : d = l
        · subst hd
          refine ite2 (fun _ => ?_) (fun c => absurd (decide_eq_true rfl) c)
          -- shelf.append(node)
          refine ⟨_, rfl, .inl ⟨rfl, _, SqL.of h7z⟩, _, rfl, z, _, _, rfl, rfl, h7z, smallT (by rw [vn_len, List.length_reverse, List.length_map]; omega), ?_⟩
          have hlt' : ¬ d < d := Nat.lt_irrefl _
          refine ⟨sizeT W, by rw [sizeT_cons]; omega, W, qs, (y, ky) :: S2, ys, _, _, _, rfl, rfl, same_mut s07 hz0, keepN hpz h7p, ?_, keepN (Ne.symm hzw) h7w, hW7.mono (tk_lst h7z), ?_, ?_, fun e he => hWs e (by simp [he]), ?_, ?_⟩
          · rw [upd_same, lst_snoc]
            simp
          · rw [← hA]
            simp [nrW]
          · rw [← hB, lgS_cons]
            simp [frW]
          · intro e he
            rcases List.mem_cons.mp he with g | g
            · rw [g]
              exact hsy
            · exact hSs e g
          · rw [sizeW_cons]
            dsimp only
            omega
        · have hdl' : d < l := by omega
          have hd' : ¬ (V.int (d : Int)) = (V.int (l : Int)) := fun e => hd (by injection e with e; omega)
          refine ite2 (fun c => absurd (of_decide_eq_true c) hd') (fun _ => ?_)
          -- log.append(node)
          refine ⟨_, rfl, .inl ⟨rfl, _, SqL.of h7p⟩, _, rfl, p, _, _, rfl, rfl, h7p, smallT (by rw [vn_len]; omega), ?_⟩
          rw [lst_snoc]
          have tk8 := tk_lst (o := lstN (ys ++ [y])) h7p
          have h8p : upd H7 p (lstN (ys ++ [y])) p = some (lstN (ys ++ [y])) := upd_same
          have h8z := keepN (Ne.symm hpz) h7z (u := lstN (ys ++ [y]))
          have h8w := keepN (Ne.symm hpw) h7w (u := lstN (ys ++ [y]))
          have s08 : Same H (upd H7 p (lstN (ys ++ [y]))) := same_mut s07 hp
          have hW8 := hW7.mono tk8
          generalize upd H7 p (lstN (ys ++ [y])) = H8 at h8p h8z h8w s08 hW8
          -- waiting.extend(..)
          refine ⟨_, rfl, .inl ⟨rfl, _, SqL.of h8w⟩, _, rfl, _, rfl, a, _, _, _, rfl, rfl, s08 _ _ ha, ix_ref hrb, rb, _, rfl, SqT.of (s08 _ _ hrbt), fun c2 hc2 => ⟨c2, rfl, ⟨_, SqT.of upd_same⟩, fun D hD => ?_⟩⟩
          have s89 : Same H8 (upd H8 c2 (.tup (ky.tops.map vn).reverse)) := same_new hc2
          have hD8 : H8 D = none := s89.free hD
          have et : ((atD (d + 1) ky.trees).reverse).map (fun e => vn e.1) = (ky.tops.map vn).reverse := by
            rw [List.map_reverse, atD, List.map_map, ← F.trees_fst, List.map_map]
            rfl
          have hlen : (ky.tops.map vn).reverse.length = (atD (d + 1) ky.trees).reverse.length := by rw [← et, List.length_map]
          have hsmall : (ky.tops.map vn).reverse.length ≤ 40 := by
            have := len_sizeW ky.trees
            rw [sizeW_trees] at this
            rw [hlen, List.length_reverse, atD, List.length_map]
            omega
          refine lc_tup (K := K) (a := c2) (xs := (ky.tops.map vn).reverse) (fun i H' => Same (upd H8 c2 (.tup (ky.tops.map vn).reverse)) H' ∧ ∃ bs, H' D = some (.lst (bs.map V.ref)) ∧ bs.length = i ∧ WAt H' bs ((atD (d + 1) ky.trees).reverse.take i))
            ⟨same_new hD, [], upd_same, rfl, trivial⟩ (fun i H' _ q => SqT.of (q.1 _ _ upd_same)) ?_ ?_
          · rintro i y' H9 hi ⟨s9, bs, hbs, hbl, hbW⟩
            have hil := (List.getElem?_eq_some_iff.mp hi).1
            rw [← et] at hi
            obtain ⟨e, he, rfl⟩ := map_at hi
            have hd1 : e.2.2 = d + 1 := by
              have := List.mem_of_getElem? he
              rw [List.mem_reverse, atD, List.mem_map] at this
              obtain ⟨_, _, rfl⟩ := this
              rfl
            refine ⟨rfl, _, rfl, _, rfl, _, _, rfl, rfl, (by show 2 ≤ sizeLine; decide), fun g hg => ?_⟩
            have hDg : D ≠ g := ne_of_none hbs hg
            refine ⟨_, keep hg hbs, smallT (by rw [List.length_map]; omega), same_mut (s9.trans (same_new hg)) hD, bs ++ [g], ?_, by rw [List.length_append, hbl]; rfl, ?_⟩
            · rw [upd_same, List.map_append]
              rfl
            · have hei := (List.getElem?_eq_some_iff.mp he).1
              rw [List.take_succ_eq_append_getElem hei, (List.getElem?_eq_some_iff.mp he).2]
              refine WAt.append ((hbW.mono (tk_new hg)).mono (tk_lst (keep hg hbs))) ⟨?_, trivial⟩
              rw [keepN (Ne.symm hDg) upd_same, hd1]
              rfl
          · rintro H9 ⟨s9, bs, hbs, hbl, hbW⟩
            rw [hlen, List.take_length] at hbW
            have h9w := s9 _ _ (s89 _ _ h8w)
            have h9p := s9 _ _ (s89 _ _ h8p)
            have h9z := s9 _ _ (s89 _ _ h8z)
            have s09 := (s08.trans s89).trans s9
            have ht40 : ky.trees.length ≤ 40 := by
              have := len_sizeW ky.trees
              rw [sizeW_trees] at this
              omega
            have hq : qs.length = W.length := hW8.len
            refine ⟨W0, D, _, _, rfl, rfl, h9w, hbs, ?_, ?_⟩
            · rw [List.length_map, List.length_map, List.length_reverse, hbl, hlen, List.length_reverse, atD, List.length_map, hq]
              exact small (by omega)
            · refine ⟨sizeT (atD (d + 1) ky.trees ++ W), by rw [sizeT_at, sizeT_cons, sizeW_trees]; dsimp only; omega, atD (d + 1) ky.trees ++ W, bs.reverse ++ qs, S2, ys ++ [y], _, _, _, rfl, rfl, same_mut s09 hw0, keepN hpw h9p, keepN hzw h9z, ?_, ?_, ?_, ?_, ?_, hSs, ?_⟩
              · rw [upd_same]
                simp
              · have hb2 := hbW.reverse
                rw [List.reverse_reverse] at hb2
                exact (hb2.append (hW8.mono (tk_same (s89.trans s9)))).mono (tk_lst h9w)
              · rw [nrW_trees, ← hA]
                simp [nrW, hdl']
              · rw [frW_trees, ← hB]
                simp [frW, hdl']
              · intro e he
                rcases List.mem_append.mp he with g | g
                · obtain ⟨e', he', rfl⟩ := List.mem_map.mp g
                  exact ⟨hsy.kids e' he', by dsimp only; omega⟩
                · exact hWs e (by simp [g])
              · rw [sizeT_at, sizeW_trees, List.length_append]
                simp only [List.length_cons, List.length_nil]
                omega
end
end SF
end

/-! SFg2 -/
section
set_option Elab.async false
set_option maxRecDepth 100000
set_option maxHeartbeats 4000000
/-! common_divisor, common_multiple, determines, is_log, is_entry, require_logs. -/
namespace SF
open PySem PySem.Spec L2
open PyProof.Rows hiding St

theorem enum_both {K : PySem.W.Frag} {H : Hp} {σ : St} {i : Nat} {a : Addr} {xs : List V} {R : It → Hp → Prop} (hσ : σ[i]? = some (some (.ref a))) (hq : H a = some (.lst xs) ∨ H a = some (.tup xs))
    (h : ∀ J G, Walk J xs.length G (YPair (fun i => some (.int (i : Nat))) (fun i => xs[i]?)) → (∀ H', (∀ o, H a = some o → H' a = some o) → G H') → R J H) : iEnumS K (tCons (tVar i) tNil) σ H R :=
  ⟨_, hσ, a, xs, rfl, hq.elim (fun e => .inl ⟨SqL.of e, h _ _ walk_enum fun H' s => SqL.of (s _ e)⟩) (fun e => .inr ⟨SqT.of e, h _ _ walk_enumT fun H' s => SqT.of (s _ e)⟩)⟩
theorem sq_both {K : PySem.W.Frag} {H : Hp} {σ : St} {i : Nat} {a : Addr} {xs : List V} {R : It → Hp → Prop} (hσ : σ[i]? = some (some (.ref a))) (hq : H a = some (.lst xs) ∨ H a = some (.tup xs))
    (h : ∀ J G, Walk J xs.length G (YAt xs) → (∀ H', (∀ o, H a = some o → H' a = some o) → G H') → R J H) : iSq K (tVar i) σ H R :=
  ⟨_, hσ, a, xs, rfl, hq.elim (fun e => .inl ⟨e, h _ _ walk_list fun H' s => SqL.of (s _ e)⟩) (fun e => .inr ⟨e, h _ _ walk_tup fun H' s => SqT.of (s _ e)⟩)⟩
theorem for_enumS {K : PySem.W.Frag} {H : Hp} {σ : St} {i : Nat} {a : Addr} {xs : List V} {g : TG} {tb : TS} {D : Ends} (hσ : σ[i]? = some (some (.ref a))) (hq : H a = some (.lst xs) ∨ H a = some (.tup xs)) (Pv : Nat → St → Hp → Prop) (h0 : Pv 0 σ H)
    (hG : ∀ i σ H', i ≤ xs.length → Pv i σ H' → ∀ o, H a = some o → H' a = some o)
    (hs : ∀ i x σ H T, xs[i]? = some x → Pv i σ H → H T = none → g (.ref T) σ (upd H T (.tup [.int (i : Nat), x])) fun σ2 H2 => tb { D with nx := Pv (i + 1), ct := Pv (i + 1), bk := D.nx } σ2 H2) (hd : ∀ σ H, Pv xs.length σ H → D.nx σ H) :
    tFor (iEnumS K (tCons (tVar i) tNil)) g tb D σ H :=
  enum_both hσ hq fun J G w hg => for_it w Pv h0 (fun i σ H' hi hp => hg H' (hG i σ H' hi hp)) (fun i x σ H H' hi hp hy => by
    obtain ⟨T, y1, y2, rfl, hT, rfl, e1, e2⟩ := hy
    cases e1
    exact hs i y2 σ H T e2 hp hT) hd
theorem for_sq {K : PySem.W.Frag} {H : Hp} {σ : St} {i : Nat} {a : Addr} {xs : List V} {g : TG} {tb : TS} {D : Ends} (hσ : σ[i]? = some (some (.ref a))) (hq : H a = some (.lst xs) ∨ H a = some (.tup xs)) (Pv : Nat → St → Hp → Prop) (h0 : Pv 0 σ H)
    (hG : ∀ i σ H', i ≤ xs.length → Pv i σ H' → ∀ o, H a = some o → H' a = some o)
    (hs : ∀ i x σ H, xs[i]? = some x → Pv i σ H → g x σ H fun σ2 H2 => tb { D with nx := Pv (i + 1), ct := Pv (i + 1), bk := D.nx } σ2 H2) (hd : ∀ σ H, Pv xs.length σ H → D.nx σ H) :
    tFor (iSq K (tVar i)) g tb D σ H :=
  sq_both hσ hq fun J G w hg => for_it w Pv h0 (fun i σ H' hi hp => hg H' (hG i σ H' hi hp)) (fun i x σ H H' hi hp hy => by
    obtain ⟨rfl, e2⟩ := hy
    exact hs i x σ _ e2 hp) hd
theorem lcmL_snoc : ∀ (ls : List Nat) (l m : Nat), lcmL (ls ++ [l]) m = lcmL ls m * l / Nat.gcd (lcmL ls m) l
  | [], _, _ => rfl
  | x :: ls, l, m => lcmL_snoc ls l _
theorem lim_lt {l : Nat} (h : l ≤ 10 ^ 30) : l < 2 ^ 100 := Nat.lt_of_le_of_lt h (by decide)
section
variable {P : Program} {w : World} {K : PySem.W.Frag} {mg : Str → Option Value} {base : Heap}
theorem d_common_divisor (R : Raw K mg "common_divisor" s_common_divisor) :
    Def P w K mg base 1 "common_divisor" ["one", "other"] sp_common_divisor := by
  refine R.made sc_common_divisor (fun vs H Q E h => ?_) (fun _ _ _ _ _ _ us hl => match us, hl with | [_, _], _ => rfl) fun f cdv A outer s H vs Q E hr h => ?_
  · obtain ⟨a, b, rfl, _⟩ := h
    rfl
  obtain ⟨a, b, rfl, q⟩ := h
  refine ⟨_, pss_cons (ps_while PassesOwn.never (pt_cmpR op_gt (pv 1) pe_int (nomark _)) (pss_one (ps_par (i := 0) (j := 1) (by rfl) sc_common_divisor.nd rfl rfl (by decide) rfl rfl (pa_cons (pv 1) (pa_cons (pe_op op_mod (pv 0) (pv 1)) pa_nil)) (by rfl))))
    (pss_one (ps_ret (pv 0))), ?_⟩
  refine ⟨fun m σ H' => ∃ x y : Nat, m = y ∧ σ = [some (vn x), some (vn y)] ∧ H' = H ∧ Nat.gcd x y = Nat.gcd a b, ⟨b, a, b, rfl, rfl, rfl, rfl⟩, ?_⟩
  rintro m σ H' ⟨x, y, hm, rfl, rfl, hg⟩
  subst hm
  refine ⟨_, rfl, _, _, rfl, rfl, _, rfl, ?_⟩
  by_cases h0 : 0 < m
  · have e : decide ((0 : Int) < (m : Int)) = true := decide_eq_true (by omega)
    show if decide ((0 : Int) < (m : Int)) = true then _ else _
    rw [e]
    refine iteT ⟨_, fun σ' H'' n => n, ?_⟩
    refine ⟨_, rfl, _, rfl, _, rfl, _, _, rfl, rfl, by omega, _, _, rfl, x % m, Nat.mod_lt _ h0, m, x % m, rfl, ?_, rfl, ?_⟩
    · show [some (V.int (m : Int)), some (V.int ((x : Int) % (m : Int)))] = [some (V.int (m : Int)), some (V.int ((x % m : Nat) : Int))]
      rw [Int.natCast_emod]
    · rw [← hg, Nat.gcd_comm m, ← Nat.gcd_rec, Nat.gcd_comm]
  · have e0 : m = 0 := by omega
    subst e0
    refine ite2 (fun c => absurd c (by decide)) (fun _ => ?_)
    rw [Nat.gcd_zero_right] at hg
    refine ⟨_, rfl, ?_⟩
    rw [← hg] at q
    exact q
theorem d_common_multiple (R : Raw K mg "common_multiple" s_common_multiple) (D_common_divisor : Def P w K mg base 1 "common_divisor" ["one", "other"] sp_common_divisor) :
    Def P w K mg base 2 "common_multiple" ["limits"] sp_common_multiple := by
  refine R.made sc_common_multiple (fun vs H Q E h => ?_) (fun _ _ _ _ _ _ us hl => match us, hl with | [_], _ => rfl) fun f cdv A outer s H vs Q E hr h => ?_
  · obtain ⟨a, ls, rfl, _⟩ := h
    rfl
  obtain ⟨a, ls, rfl, ha, ⟨hlen, hlim⟩, q⟩ := h
  have hr_common_divisor : Room 1 _ := hr.mono (by decide)
  refine ⟨_, pss_cons (ps_set (i := 1) sc_common_multiple.nd rfl (Or.inl rfl) pe_int)
    (pss_cons (ps_for PassesOwn.never rfl (pi_list (pv 0)) (pg_name (i := 2) sc_common_multiple.nd rfl (Or.inl rfl)) (pss_one (ps_set (i := 1) sc_common_multiple.nd rfl (Or.inl rfl) (pe_op op_fdivW (pe_op op_mulW (pv 1) (pv 2)) (pe_fn D_common_divisor hr_common_divisor (by rfl) (pa_cons (pv 1) (pa_cons (pv 2) pa_nil)))))))
    (pss_one (ps_ret (pv 1)))), ?_⟩
  refine ⟨_, rfl, a, rfl, ⟨_, SqL.of ha⟩, for_list (K := K) (a := a) (xs := ls.map vn) (fun i σ H' => ∃ v2, σ = [some (.ref a), some (vn (lcmL (ls.take i) 1)), v2] ∧ H' = H) ⟨none, rfl, rfl⟩ (fun i σ H' _ ⟨_, _, e⟩ => SqL.of (by rw [e]; exact ha)) ?_ ?_⟩
  · rintro i y σ H' hi ⟨v2, rfl, rfl⟩
    obtain ⟨l, hil, rfl⟩ := map_at hi
    have hm := List.mem_of_getElem? hil
    obtain ⟨l1, l2⟩ := hlim l hm
    have hb := lcmL_bound (ls.take i) 1 100 fun x hx => lim_lt (hlim x (List.mem_of_mem_take hx)).2
    rw [Nat.one_mul] at hb
    have hb2 : lcmL (ls.take i) 1 < 2 ^ 2001 := by
      refine Nat.lt_of_le_of_lt hb (Nat.pow_lt_pow_right (by decide) ?_)
      have := (List.take_sublist i ls).length_le
      omega
    have hl3 := lim_lt l2
    have hg1 : 0 < Nat.gcd (lcmL (ls.take i) 1) l := Nat.gcd_pos_of_pos_right _ l1
    have hg2 : Nat.gcd (lcmL (ls.take i) 1) l ≤ l := Nat.gcd_le_right _ l1
    refine ⟨_, rfl, _, rfl, _, _, rfl, rfl, wide_mul (a := 2001) (b := 100) (by rw [Int.natAbs_natCast]; exact hb2) (by rw [Int.natAbs_natCast]; exact hl3) (by decide) (by decide) (by decide), ?_⟩
    refine ⟨_, rfl, _, rfl, _, l, rfl, _, _, rfl, rfl, wide_div (b := 100) (by omega) (by rw [Int.natAbs_natCast]; omega) (by decide) (by decide), ?_⟩
    refine ⟨some (vn l), ?_, rfl⟩
    have e : ls.take (i + 1) = ls.take i ++ [l] := by
      rw [List.take_succ_eq_append_getElem (List.getElem?_eq_some_iff.mp hil).1, (List.getElem?_eq_some_iff.mp hil).2]
    rw [e, lcmL_snoc]
    have e2 : V.int ((lcmL (ls.take i) 1 : Int) * (l : Int) / (Nat.gcd (lcmL (ls.take i) 1) l : Int)) = vn (lcmL (ls.take i) 1 * l / Nat.gcd (lcmL (ls.take i) 1) l) := by
      show V.int _ = V.int _
      rw [← Int.natCast_mul, ← Int.natCast_ediv]
    rw [← e2]
    rfl
  · rintro σ H' ⟨v2, rfl, rfl⟩
    rw [vn_len, List.take_length]
    exact ⟨_, rfl, q⟩
theorem d_determines (R : Raw K mg "determines" s_determines) (D_common_multiple : Def P w K mg base 2 "common_multiple" ["limits"] sp_common_multiple) :
    DefK P w K mg base 3 "determines" ["limits", "size"] 1 ["size"] sp_determines := by
  refine R.madeK sc_determines (fun vs H Q E h => ?_) (fun _ _ _ _ _ _ us ws hl hw => match us, ws, hl, hw with | [_], [_], _, _ => rfl) fun f cdv A outer s H vs Q E hr h => ?_
  · obtain ⟨a, ls, n, rfl, _⟩ := h
    rfl
  obtain ⟨a, ls, n, rfl, ha, hL, hD, q⟩ := h
  have hr_common_multiple : Room 2 _ := hr.mono (by decide)
  refine ⟨_, pss_one (ps_ret (pe_or (pe_cmpR op_lt (pv 1) pe_int (nomark _)) (pe_one (pe_and (pe_cmpR op_inN pe_int (pv 0) (by rfl)) (pe_one (pe_cmpR op_ge (pe_fn D_common_multiple hr_common_multiple (by rfl) (pa_cons (pv 0) pa_nil)) (pe_op op_sub (pv 1) pe_int) (nomark _))))))), ?_⟩
  refine ⟨_, rfl, _, _, rfl, rfl, _, rfl, ?_⟩
  rcases Nat.lt_or_ge n 3 with h3 | h3
  · refine ite2 (fun _ => q) fun c => ?_
    exact absurd (decide_eq_true (by omega : (n : Int) < 3)) c
  · refine ite2 (fun c => ?_) fun _ => ?_
    · have := of_decide_eq_true c
      omega
    · obtain ⟨h1, ht⟩ := hD.tell.resolve_left (by omega)
      refine ⟨_, rfl, a, ls, 1, rfl, rfl, ha, _, rfl, ite2 (fun _ => ?_) (fun c => absurd (decide_eq_true h1) c)⟩
      refine ⟨_, rfl, a, ls, rfl, ha, hL, _, rfl, _, _, rfl, rfl, _, _, rfl, rfl, ?_⟩
      have := lcm_big hD.pos ht
      have e : decide ((n : Int) - 1 ≤ ((lcmL ls 1 : Nat) : Int)) = true := decide_eq_true (by omega)
      show Q (.bl (decide ((n : Int) - 1 ≤ ((lcmL ls 1 : Nat) : Int)))) H
      rw [e]
      exact q
theorem d_is_log (R : Raw K mg "is_log" s_is_log) (T : Txt mg) (D_is_between : Def P w K mg base 2 "is_between" ["value", "least", "most"] sp_is_between) :
    Def P w K mg base 3 "is_log" ["value"] sp_is_log := by
  refine R.made sc_is_log (fun vs H Q E h => ?_) (fun _ _ _ _ _ _ us hl => match us, hl with | [_], _ => rfl) fun f cdv A outer s H vs Q E hr h => ?_
  · obtain ⟨a, l, n, rfl, _⟩ := h
    rfl
  obtain ⟨a, l, n, rfl, ha, hp, h1, h40, q⟩ := h
  obtain ⟨t_nodes, h_nodes⟩ := T.nodes
  have hr_is_between : Room 2 _ := hr.mono (by decide)
  refine ⟨_, pss_cons (ps_if (PW.pt (pw_or (pt_not (pt_val (pe_callB call_isF (by rfl) T.isinstance (by decide +kernel) (pa_cons (pv 0) (pa_cons (pe_bltn (v := .ty "tuple") (by rfl) T.tuple (by decide +kernel) rfl) pa_nil))))) (pw_or1 (pt_not (pt_chain op_le op_le pe_int (pe_callB call_lenF (by rfl) T.len PySem.boot_len (pa_cons (pv 0) pa_nil)) (pe_glob (v := .int (40)) (by rfl) h_nodes ⟨t_nodes, rfl⟩)))))) (pss_one (ps_ret pe_bl)) pss_nil)
    (pss_cons (ps_if (pt_not (pt_val (pe_callB (call_allF rfl) (by rfl) T.all (by decide +kernel) (pa_cons (pe_lc (own := [("entry", 1)]) (g := (gName 1)) (tt := tYes) rfl sc_is_log.nd (pi_tup (pv 0)) (blkOk_by (N := N_is_log) (sc := defScope s_is_log) (by decide +kernel)) (fun _ _ _ _ _ => (pg_name (i := 1) sc_is_log.nd rfl (Or.inl rfl))) (fun _ _ _ _ _ => pts_nil) (fun _ _ _ _ _ => (pe_fn D_is_between hr_is_between (by rfl) (pa_cons (pv 1) (pa_cons pe_int (pa_cons (pe_op op_sub (pe_callB call_lenF (by rfl) T.len PySem.boot_len (pa_cons (pv 0) pa_nil)) pe_int) pa_nil)))))) pa_nil)))) (pss_one (ps_ret pe_bl)) pss_nil)
    (pss_one (ps_ret (pe_cmpR op_eq (pe_lenSetT (by rfl) T.len (by rfl) T.set (pv 0)) (pe_callB call_lenF (by rfl) T.len PySem.boot_len (pa_cons (pv 0) pa_nil)) (nomark _))))), ?_⟩
  have hll := perm_len hp
  have hlen : (l.map vn).length = n := by rw [vn_len, hll]
  refine ⟨_, rfl, .ref a, "tuple", "tuple", true, rfl, .lg ha, by decide +kernel, true, rfl, iteF ?_⟩
  refine ⟨_, rfl, a, _, rfl, .lg ha, _, _, rfl, rfl, _, rfl, ?_⟩
  have e1 : decide ((1 : Int) ≤ (((l.map vn).length : Nat) : Int)) = true := decide_eq_true (by omega)
  have e2 : decide ((((l.map vn).length : Nat) : Int) ≤ 40) = true := decide_eq_true (by omega)
  show if decide ((1 : Int) ≤ (((l.map vn).length : Nat) : Int)) = true then _ else _
  rw [e1]
  refine iteT ⟨_, _, rfl, rfl, true, ?_, iteF ?_⟩
  · show V.bl (decide ((((l.map vn).length : Nat) : Int) ≤ 40)) = _
    rw [e2]
  refine ⟨_, rfl, a, rfl, ⟨_, ha.sq⟩, fun D hD => ?_⟩
  refine lc_tup (K := K) (a := a) (xs := l.map vn) (fun i H' => Same H H' ∧ H' D = some (.lst (List.replicate i (V.bl true)))) ⟨same_new hD, upd_same⟩ (fun i H' _ q => (ha.mono q.1).sq) ?_ ?_
  · rintro i y H' hi ⟨s1, h2⟩
    obtain ⟨x, hx, rfl⟩ := map_at hi
    have hxn := perm_lt hp (List.mem_of_getElem? hx)
    have hil := (List.getElem?_eq_some_iff.mp hx).1
    refine ⟨rfl, _, rfl, _, rfl, a, _, rfl, .lg (ha.mono s1), _, _, rfl, rfl, (x : Int), 0, ((l.map vn).length : Int) - 1, rfl, _, h2, ?_, same_mut s1 hD, ?_⟩
    · rw [List.length_replicate]
      exact smallT (by omega)
    · have e : decide ((0 : Int) ≤ (x : Int) ∧ (x : Int) ≤ ((l.map vn).length : Int) - 1) = true := decide_eq_true (by omega)
      rw [e, upd_same, rep_snoc]
  · rintro H' ⟨s1, h2⟩
    refine ⟨D, List.replicate (l.map vn).length true, rfl, by rw [h2, rep_true], ?_⟩
    rw [all_rep]
    refine ⟨true, rfl, iteF ?_⟩
    have hm : l.map vn = (l.map fun x : Nat => (x : Int)).map V.int := by rw [List.map_map]; rfl
    refine ⟨_, rfl, a, l.map (fun x : Nat => (x : Int)), rfl, (by rw [← hm]; exact (ha.mono s1).sq), ?_, by rw [List.length_map]; omega, ?_⟩
    · refine (perm_nodup hp).map _ fun x y hne e => hne (by omega)
    · refine ⟨_, rfl, a, _, rfl, .lg (ha.mono s1), rfl, ?_⟩
      rw [List.length_map, List.length_map, decide_eq_true rfl]
      exact q H' s1
theorem d_is_entry (R : Raw K mg "is_entry" s_is_entry) (T : Txt mg) (D_is_limit : Def P w K mg base 3 "is_limit" ["value"] sp_is_limit) (D_is_log : Def P w K mg base 3 "is_log" ["value"] sp_is_log) :
    Def P w K mg base 4 "is_entry" ["value"] sp_is_entry := by
  refine R.made sc_is_entry (fun vs H Q E h => ?_) (fun _ _ _ _ _ _ us hl => match us, hl with | [_], _ => rfl) fun f cdv A outer s H vs Q E hr h => ?_
  · obtain ⟨q', u, p, n, rfl, _⟩ := h
    rfl
  obtain ⟨q', u, p, n, rfl, hq', hu', hp, h1, h40, hl1, hl2, q⟩ := h
  have hr_is_limit : Room 3 _ := hr.mono (by decide)
  have hr_is_log : Room 3 _ := hr.mono (by decide)
  refine ⟨_, pss_one (ps_ret (pe_and (pe_callB call_isF (by rfl) T.isinstance (by decide +kernel) (pa_cons (pv 0) (pa_cons (pe_bltn (v := .ty "tuple") (by rfl) T.tuple (by decide +kernel) rfl) pa_nil))) (pe_and (pe_cmpR op_eq (pe_callB call_lenF (by rfl) T.len PySem.boot_len (pa_cons (pv 0) pa_nil)) pe_int (nomark _)) (pe_and (pe_fn D_is_limit hr_is_limit (by rfl) (pa_cons (pe_ix ix_t (pv 0) pe_int (fun _ _ => rfl)) pa_nil)) (pe_one (pe_fn D_is_log hr_is_log (by rfl) (pa_cons (pe_ix ix_t (pv 0) pe_int (fun _ _ => rfl)) pa_nil))))))), ?_⟩
  refine ⟨_, rfl, .ref q', "tuple", "tuple", true, rfl, .tup hq', by decide +kernel, true, rfl, iteT ?_⟩
  refine ⟨_, rfl, q', _, rfl, .inr hq', rfl, true, rfl, iteT ?_⟩
  refine ⟨_, rfl, q', _, 0, _, rfl, rfl, hq', rfl, (p.1 : Int), rfl, true, ?_, iteT ?_⟩
  · rw [decide_eq_true (by omega)]
  refine ⟨_, rfl, q', _, 1, _, rfl, rfl, hq', rfl, u, p.2, n, rfl, hu', hp, h1, h40, fun H' s1 => ?_⟩
  exact q H' s1
theorem fst_take {ps : Pairs} {i : Nat} {p : Nat × List Nat} (h : ps[i]? = some p) : (ps.map (·.1)).take (i + 1) = (ps.map (·.1)).take i ++ [p.1] := by
  have h' : (ps.map (·.1))[i]? = some p.1 := at_map h
  rw [List.take_succ_eq_append_getElem (List.getElem?_eq_some_iff.mp h').1, (List.getElem?_eq_some_iff.mp h').2]
theorem nodup_take {l : List Nat} (hn : l.Nodup) {i x : Nat} (h : l[i]? = some x) : x ∉ l.take i := by
  intro hm
  have e : l.take (i + 1) = l.take i ++ [x] := by
    rw [List.take_succ_eq_append_getElem (List.getElem?_eq_some_iff.mp h).1, (List.getElem?_eq_some_iff.mp h).2]
  have h2 : (l.take i ++ [x]).Nodup := by rw [← e]; exact hn.sublist (List.take_sublist _ _)
  rw [List.nodup_append] at h2
  exact h2.2.2 x hm x (by simp) rfl
theorem Valid.limOk {ps : Pairs} {n : Nat} (h : Valid ps n) : LimOk (ps.map (·.1)) := ⟨by rw [List.length_map]; exact h.few, fun l hl => by
  obtain ⟨p, hp, rfl⟩ := List.mem_map.mp hl
  exact h.lim p hp⟩
theorem d_require_logs (R : Raw K mg "require_logs" s_require_logs) (T : Txt mg) (D_determines : DefK P w K mg base 3 "determines" ["limits", "size"] 1 ["size"] sp_determines) (D_is_entry : Def P w K mg base 4 "is_entry" ["value"] sp_is_entry) :
    Def P w K mg base 5 "require_logs" ["logs"] sp_require_logs := by
  refine R.made sc_require_logs (fun vs H Q E h => ?_) (fun _ _ _ _ _ _ us hl => match us, hl with | [_], _ => rfl) fun f cdv A outer s H vs Q E hr h => ?_
  · obtain ⟨v, ps, n, rfl, _⟩ := h
    rfl
  obtain ⟨v, ps, n, rfl, ⟨a, qs, rfl, ha, hps⟩, hV, q⟩ := h
  obtain ⟨t_logs, h_logs⟩ := T.logs
  have hr_determines : Room 3 _ := hr.mono (by decide)
  have hr_is_entry : Room 4 _ := hr.mono (by decide)
  refine ⟨_, pss_cons (ps_if (PW.pt (pw_or (pt_not (pt_val (pe_callB call_isLT (by rfl) T.isinstance (by decide +kernel) (pa_cons (pv 0) (pa_cons (pe_tup (pa_cons (pe_bltn (v := .ty "list") (by rfl) T.list (by decide +kernel) rfl) (pa_cons (pe_bltn (v := .ty "tuple") (by rfl) T.tuple (by decide +kernel) rfl) pa_nil))) pa_nil))))) (pw_or1 (pt_not (pt_chain op_le op_le pe_int (pe_callB call_lenF (by rfl) T.len PySem.boot_len (pa_cons (pv 0) pa_nil)) (pe_glob (v := .int (20)) (by rfl) h_logs ⟨t_logs, rfl⟩)))))) (pss_one ps_never) pss_nil)
    (pss_cons (ps_set (i := 1) sc_require_logs.nd rfl (Or.inl rfl) (pe_lst pa_nil))
    (pss_cons (ps_for PassesOwn.never rfl (pi_enumS (by rfl) T.enumerate (pa_cons (pv 0) pa_nil)) (pg_tup (by rfl) (pgs_cons (pg_name (i := 2) sc_require_logs.nd rfl (Or.inl rfl)) (pgs_cons (pg_name (i := 3) sc_require_logs.nd rfl (Or.inl rfl)) pgs_nil))) (pss_cons (ps_if (pt_not (pt_val (pe_fn D_is_entry hr_is_entry (by rfl) (pa_cons (pv 3) pa_nil)))) (pss_one ps_never) pss_nil)
      (pss_cons (ps_if (pt_cmpR op_inN (pe_ix ix_t (pv 3) pe_int (fun _ _ => rfl)) (pv 1) (by rfl)) (pss_one ps_never) pss_nil)
      (pss_cons (ps_if (pt_cmpR op_ne (pe_callB call_lenF (by rfl) T.len PySem.boot_len (pa_cons (pe_ix ix_t (pv 3) pe_int (fun _ _ => rfl)) pa_nil)) (pe_callB call_lenF (by rfl) T.len PySem.boot_len (pa_cons (pe_ix ix_t (pe_ix ix_s (pv 0) pe_int (fun _ _ => rfl)) pe_int (fun _ _ => rfl)) pa_nil)) (nomark _)) (pss_one ps_never) pss_nil)
      (pss_one (ps_expr (pe_bm PySem.F.plainAttrs_list PySem.F.slot_list_append PySem.F.type_list_append mt_append (pv 1) (pa_cons (pe_ix ix_t (pv 3) pe_int (fun _ _ => rfl)) pa_nil))))))))
    (pss_one (ps_if (pt_not (pt_val (pe_fnK D_determines hr_determines (by rfl) (pa_cons (pv 1) pa_nil) (pk_cons (pe_callB call_lenF (by rfl) T.len PySem.boot_len (pa_cons (pe_ix ix_t (pe_ix ix_s (pv 0) pe_int (fun _ _ => rfl)) pe_int (fun _ _ => rfl)) pa_nil)) pk_nil)))) (pss_one ps_never) pss_nil)))), ?_⟩
  have hlen : (qs.map V.ref).length = ps.length := by rw [List.length_map]; exact hps.1
  have hne : 0 < ps.length := List.length_pos_iff.mpr hV.perms.ne
  have hfew := hV.few
  obtain ⟨p0, hp0⟩ : ∃ p0, ps[0]? = some p0 := ⟨_, List.getElem?_eq_getElem hne⟩
  obtain ⟨q0, u0, ho0, ht0, hq0, hq0t, hu0⟩ := hps.at hp0
  have hn0 := perm_len (hV.perms.perm p0 (List.mem_of_getElem? hp0))
  refine ⟨_, rfl, (by show 2 ≤ sizeLine; decide), fun p hp => ?_⟩
  have ha1 := ha.imp (keep hp (u := .tup [.ty "list", .ty "tuple"])) (keep hp (u := .tup [.ty "list", .ty "tuple"]))
  have s1 := same_new hp (o := .tup [.ty "list", .ty "tuple"])
  refine ⟨a, p, _, rfl, upd_same, ha1, true, rfl, iteF ?_⟩
  generalize upd H p (.tup [.ty "list", .ty "tuple"]) = H1 at s1 ha1
  refine ⟨_, rfl, a, _, rfl, .or ha1, _, _, rfl, rfl, _, rfl, ?_⟩
  have e1 : decide ((1 : Int) ≤ (((qs.map V.ref).length : Nat) : Int)) = true := decide_eq_true (by omega)
  have e2 : decide ((((qs.map V.ref).length : Nat) : Int) ≤ 20) = true := decide_eq_true (by omega)
  show if decide ((1 : Int) ≤ (((qs.map V.ref).length : Nat) : Int)) = true then _ else _
  rw [e1]
  refine iteT ⟨_, _, rfl, rfl, true, ?_, iteF ?_⟩
  · show V.bl (decide ((((qs.map V.ref).length : Nat) : Int) ≤ 20)) = _
    rw [e2]
  refine ⟨Nat.zero_le _, fun z hz => ?_⟩
  have hz0 : H z = none := s1.free hz
  have ha2 := ha1.imp (keep hz (u := .lst [])) (keep hz (u := .lst []))
  have haz : a ≠ z := fun e => by
    subst e
    rcases ha1 with e | e <;> rw [hz] at e <;> cases e
  refine for_enumS (K := K) (i := 0) (a := a) rfl ha2 (fun i σ H' => ∃ v2 v3, σ = [some (.ref a), some (.ref z), v2, v3] ∧ Same H1 H' ∧ H' z = some (lstN ((ps.map (·.1)).take i)))
    ⟨none, none, rfl, same_new hz, upd_same⟩ (fun i σ H' _ ⟨_, _, _, s, _⟩ o e => s _ _ (by rw [upd_ne haz] at e; exact e)) ?_ ?_
  · rintro i x σ H' T ey2 ⟨v2, v3, rfl, s2, h2⟩ hT
    obtain ⟨q1, hqi, rfl⟩ := map_at ey2
    have hi : i < ps.length := by rw [← hps.1]; exact (List.getElem?_eq_some_iff.mp hqi).1
    obtain ⟨pi, hpi⟩ : ∃ pi, ps[i]? = some pi := ⟨_, List.getElem?_eq_getElem hi⟩
    obtain ⟨q2, u2, ho2, ht2, hq2, hq2t, hu2⟩ := hps.at hpi
    rw [hqi] at hq2
    cases hq2
    have hmem := List.mem_of_getElem? hpi
    have hpn := hV.perms.perm pi hmem
    have s3 : Same H1 (upd H' T (.tup [.int (i : Nat), .ref q1])) := same_mut s2 (s2.free hT)
    have h3 := keep hT h2 (u := .tup [.int (i : Nat), .ref q1])
    refine ⟨T, _, rfl, SqT.of upd_same, rfl, _, _, rfl, _, _, rfl, rfl, ?_⟩
    generalize upd H' T (.tup [.int (i : Nat), .ref q1]) = H3 at s3 h3
    have s03 := s1.trans s3
    refine ⟨_, rfl, q1, u2, pi, n, rfl, s03 _ _ hq2t, ⟨ho2, ht2, s03 _ _ hu2⟩, hpn, hV.perms.pos, hV.size, (hV.lim pi hmem).1, (hV.lim pi hmem).2, fun H4 s4 => ⟨true, rfl, iteF ?_⟩⟩
    have s04 := s03.trans s4
    have hq4 := s04 _ _ hq2t
    have hu4 := s04 _ _ hu2
    have h4 := s4 _ _ h3
    have ha4 := ha.imp (s04 _ _) (s04 _ _)
    refine ⟨_, rfl, q1, _, 0, _, rfl, rfl, hq4, rfl, _, rfl, z, _, pi.1, rfl, rfl, h4, _, rfl, ?_⟩
    rw [decide_eq_false (nodup_take hV.diff (at_map hpi))]
    refine iteF ?_
    refine ⟨_, rfl, q1, _, 1, _, rfl, rfl, hq4, rfl, u2, _, rfl, .lg ⟨ho2, ht2, hu4⟩, ?_⟩
    refine ⟨_, rfl, a, _, 0, _, rfl, rfl, ha4, ix_ref (i := 0) hq0, q0, _, 1, _, rfl, rfl, s04 _ _ hq0t, rfl, u0, _, rfl, .lg ⟨ho0, ht0, s04 _ _ hu0⟩, rfl, _, rfl, ?_⟩
    rw [vn_len, vn_len, perm_len hpn, hn0, decide_eq_true rfl]
    refine iteF ?_
    refine ⟨_, rfl, .inl ⟨rfl, _, SqL.of h4⟩, _, rfl, q1, _, 0, _, rfl, rfl, hq4, rfl, z, _, _, rfl, rfl, h4, ?_, ?_⟩
    · rw [vn_len]
      have := (List.take_sublist i (ps.map (·.1))).length_le
      rw [List.length_map] at this
      exact smallT (by omega)
    · refine ⟨_, _, rfl, same_mut (s3.trans s4) hz, ?_⟩
      rw [upd_same, fst_take hpi, lst_snoc]
  · rintro σ H2 ⟨v2, v3, rfl, s2, h2⟩
    rw [hlen, show ps.length = (ps.map (·.1)).length by rw [List.length_map], List.take_length] at h2
    have s02 := s1.trans s2
    have ha4 := ha.imp (s02 _ _) (s02 _ _)
    refine ⟨_, rfl, _, rfl, a, _, 0, _, rfl, rfl, ha4, ix_ref (i := 0) hq0, q0, _, 1, _, rfl, rfl, s02 _ _ hq0t, rfl, u0, _, rfl, .lg ⟨ho0, ht0, s02 _ _ hu0⟩, rfl, rfl, z, ps.map (·.1), n, ?_, h2, hV.limOk, hV.det, true, rfl, iteF ?_⟩
    · rw [vn_len, hn0]
      rfl
    · exact q H2 s02
end
end SF
end

/-! SFg3 -/
section
set_option Elab.async false
set_option maxRecDepth 100000
set_option maxHeartbeats 4000000
/-! spots_of, first_difference_of, path_to, parent_by_logs. -/
namespace SF
open PySem PySem.Spec L2
open PyProof.Rows hiding St

theorem walk_zipT {K : PySem.W.Frag} {a b : Addr} {xs ys : List V} {n : Nat} (hn : n = min xs.length ys.length) : Walk (RZ.ItzT K a b) n (fun H => SqT K H a xs ∧ SqT K H b ys) (YPair (fun i => xs[i]?) (fun i => ys[i]?)) := by
  subst hn
  refine ⟨fun i _ hi q => ?_, fun _ q => ⟨xs, ys, q.1, q.2, by omega⟩, fun i H v H' _ q y => ?_⟩
  · have h1 : i < xs.length := by omega
    have h2 : i < ys.length := by omega
    exact ⟨xs, ys, xs[i], ys[i], q.1, q.2, by simp [h1], by simp [h2]⟩
  · obtain ⟨T, x, z, h1, h2, h3, h4, h5⟩ := y
    exact ⟨T, x, z, h1, h2, h3, h4 xs q.1, h5 ys q.2⟩
theorem for_enumZ {K : PySem.W.Frag} {H : Hp} {σ : St} {i : Nat} {a : Addr} {l : List Nat} {ho : HO} {g : TG} {tb : TS} {D : Ends} (hσ : σ[i]? = some (some (.ref a))) (ht : LT l ho) (hq : H a = some ho) (Pv : Nat → St → Hp → Prop) (h0 : Pv 0 σ H)
    (hG : ∀ i σ H', i ≤ (l.map vn).length → Pv i σ H' → H' a = some ho)
    (hs : ∀ i x σ H T, (l.map vn)[i]? = some x → Pv i σ H → H T = none → g (.ref T) σ (upd H T (.tup [.int (i : Nat), x])) fun σ2 H2 => tb { D with nx := Pv (i + 1), ct := Pv (i + 1), bk := D.nx } σ2 H2) (hd : ∀ σ H, Pv (l.map vn).length σ H → D.nx σ H) :
    tFor (iEnumS K (tCons (tVar i) tNil)) g tb D σ H :=
  ⟨_, hσ, a, l.map vn, rfl, .inr ⟨sqt_lt ht hq, for_it walk_enumT Pv h0 (fun i σ H' hi hp => sqt_lt ht (hG i σ H' hi hp)) (fun i x σ H H' hi hp hy => by
    obtain ⟨T, y1, y2, rfl, hT, rfl, e1, e2⟩ := hy
    cases e1
    exact hs i y2 σ H T e2 hp hT) hd⟩⟩
theorem cut1 (xs : List V) : cutV xs (some 1) none = xs.drop 1 := by
  unfold cutV
  rw [HT.sIx_none]
  have e : HT.sIx xs.length 0 (some 1) = min 1 xs.length := HT.sIx_nat xs.length 0 1
  rw [e]
  rcases Nat.lt_or_ge xs.length 1 with h | h
  · have : xs = [] := List.length_eq_zero_iff.mp (by omega)
    subst this
    rfl
  · rw [Nat.min_eq_left h, ← List.length_drop, List.take_length]
theorem take_snoc {α : Type} {l : List α} {i : Nat} {x : α} (h : l[i]? = some x) : l.take (i + 1) = l.take i ++ [x] := by
  rw [List.take_succ_eq_append_getElem (List.getElem?_eq_some_iff.mp h).1, (List.getElem?_eq_some_iff.mp h).2]
theorem at_lt {α : Type} {l : List α} {i : Nat} {x : α} (h : l[i]? = some x) : i < l.length := (List.getElem?_eq_some_iff.mp h).1
/-- the places, as far as they are written -/
def spotsTo (n : Nat) (l : List Nat) (i : Nat) : List Nat := (List.range n).map fun x => if x ∈ l.take i then l.idxOf x else 0
theorem spotsTo_len (n : Nat) (l : List Nat) (i : Nat) : (spotsTo n l i).length = n := by simp [spotsTo]
theorem spotsTo_zero (n : Nat) (l : List Nat) : spotsTo n l 0 = List.replicate n 0 := by
  unfold spotsTo
  rw [List.eq_replicate_iff]
  simp
theorem spotsTo_at {n x : Nat} {l : List Nat} {i : Nat} (h : x < n) : (spotsTo n l i)[x]? = some (if x ∈ l.take i then l.idxOf x else 0) := by
  unfold spotsTo
  rw [List.getElem?_map, List.getElem?_range h]
  rfl
theorem idx_at : ∀ {l : List Nat} {i x : Nat}, l.Nodup → l[i]? = some x → l.idxOf x = i
  | [], i, x, _, h => by simp at h
  | y :: l, 0, x, _, h => by
    have : y = x := by simpa using h
    subst this
    simp
  | y :: l, i + 1, x, hn, h => by
    have hn' := List.nodup_cons.mp hn
    have h' : l[i]? = some x := by simpa using h
    have hne : y ≠ x := fun e => hn'.1 (by rw [e]; exact List.mem_of_getElem? h')
    have hb : (y == x) = false := by rw [beq_eq_false_iff_ne]; exact hne
    rw [List.idxOf_cons, idx_at hn'.2 h', hb]
    rfl
theorem spotsTo_set {n x : Nat} {l : List Nat} {i : Nat} (hn : l.Nodup) (h : l[i]? = some x) (hx : x < n) : (spotsTo n l i).set x i = spotsTo n l (i + 1) := by
  refine List.ext_getElem? fun j => ?_
  by_cases hj : j < n
  · rw [spotsTo_at hj, take_snoc h]
    by_cases e : x = j
    · subst e
      rw [List.getElem?_set_self (by rw [spotsTo_len]; exact hx), idx_at hn h]
      simp
    · rw [List.getElem?_set_ne e, spotsTo_at hj]
      have : (j ∈ l.take i ++ [x]) ↔ j ∈ l.take i := by simp; intro q; exact absurd q.symm e
      simp only [this]
  · rw [List.getElem?_eq_none (by rw [List.length_set, spotsTo_len]; omega), List.getElem?_eq_none (by rw [spotsTo_len]; omega)]
theorem spotsTo_full {n : Nat} {l : List Nat} (hp : l.Perm (List.range n)) : spotsTo n l l.length = spots n l := by
  unfold spotsTo spots
  refine List.map_congr_left fun x hx => ?_
  rw [List.take_length, if_pos (hp.mem_iff.mpr hx)]
theorem Chain.drop {kvs : List (Key × V)} : ∀ (U : List Nat) {V : List Nat}, Chain kvs (U ++ V) → Chain kvs V
  | [], V, h => h
  | [x], [], _ => trivial
  | [x], y :: r, h => h.2
  | x :: y :: U, V, h => Chain.drop (y :: U) (V := V) h.2
theorem Chain.at {kvs : List (Key × V)} {x : Nat} {r : List Nat} (h : Chain kvs (x :: r)) : valV kvs (.inl (x : Int)) = some (match r with | [] => .non | y :: _ => vn y) := by
  cases r with
  | nil => exact h
  | cons y r => exact h.1
theorem last_rev (x0 : Nat) (A : List Nat) : ∃ r, (x0 :: A).reverse = lastOf x0 A :: r := by
  cases h : A.reverse with
  | nil =>
    have : A = [] := by simpa using h
    subst this
    exact ⟨[], rfl⟩
  | cons y r =>
    have e : A = r.reverse ++ [y] := by
      have := congrArg List.reverse h
      simpa using this
    refine ⟨r ++ [x0], ?_⟩
    rw [e, lastOf_snoc, List.reverse_cons, List.reverse_append, List.reverse_reverse]
    rfl
section
variable {P : Program} {w : World} {K : PySem.W.Frag} {mg : Str → Option Value} {base : Heap}
theorem d_spots_of (R : Raw K mg "spots_of" s_spots_of) (T : Txt mg) :
    Def P w K mg base 1 "spots_of" ["log"] sp_spots := by
  refine R.made sc_spots_of (fun vs H Q E h => ?_) (fun _ _ _ _ _ _ us hl => match us, hl with | [_], _ => rfl) fun f cdv A outer s H vs Q E hr h => ?_
  · obtain ⟨a, l, n, rfl, _⟩ := h
    rfl
  obtain ⟨a, l, n, rfl, ha, hp, hn, q⟩ := h
  refine ⟨_, pss_cons (ps_set (i := 1) sc_spots_of.nd rfl (Or.inl rfl) (pe_op op_rep (pe_lst (pa_cons pe_int pa_nil)) (pe_callB call_lenF (by rfl) T.len PySem.boot_len (pa_cons (pv 0) pa_nil))))
    (pss_cons (ps_for PassesOwn.never rfl (pi_enumS (by rfl) T.enumerate (pa_cons (pv 0) pa_nil)) (pg_tup (by rfl) (pgs_cons (pg_name (i := 2) sc_spots_of.nd rfl (Or.inl rfl)) (pgs_cons (pg_name (i := 3) sc_spots_of.nd rfl (Or.inl rfl)) pgs_nil))) (pss_one (ps_asg (pv 2) (pg_sub (pv 1) (pv 3) set_list))))
    (pss_one (ps_ret (pv 1)))), ?_⟩
  have hll := perm_len hp
  have hlen : (l.map vn).length = n := by rw [vn_len, hll]
  refine ⟨(by show 1 ≤ sizeLine; decide), fun p hp1 => ?_⟩
  refine ⟨_, rfl, a, _, rfl, .lg (ha.mono (same_new hp1)), p, _, _, rfl, rfl, upd_same, (by omega), (by omega), ?_, fun z hz => ?_⟩
  · rw [Int.toNat_natCast]
    exact small (by rw [List.length_singleton]; omega)
  have hz0 : H z = none := (same_new hp1).free hz
  have s0 : Same H (upd (upd H p (.lst [.int 0])) z (.lst (List.replicate ((l.map vn).length : Int).toNat [V.int 0]).flatten)) := same_mut (same_new hp1) hz0
  have e0 : (List.replicate ((l.map vn).length : Int).toNat [V.int 0]).flatten = (spotsTo n l 0).map vn := by
    rw [Int.toNat_natCast, rep_flat, hlen, spotsTo_zero, List.map_replicate]
    rfl
  rw [e0] at s0 ⊢
  obtain ⟨ho, hot, hoa⟩ := ha
  refine for_enumZ (K := K) (i := 0) (a := a) (l := l) rfl hot (s0 _ _ hoa) (fun i σ H' => ∃ v2 v3, σ = [some (.ref a), some (.ref z), v2, v3] ∧ Same H H' ∧ H' z = some (lstN (spotsTo n l i)))
    ⟨none, none, rfl, s0, upd_same⟩ (fun i σ H' _ ⟨_, _, _, s, _⟩ => s _ _ hoa) ?_ ?_
  · rintro i y σ H' T hi ⟨v2, v3, rfl, s1, h1⟩ hT
    obtain ⟨x, hx, rfl⟩ := map_at hi
    have hxn := perm_lt hp (List.mem_of_getElem? hx)
    refine ⟨T, _, rfl, SqT.of upd_same, rfl, _, _, rfl, _, _, rfl, rfl, ?_⟩
    refine ⟨_, rfl, _, rfl, _, rfl, z, _, _, x, rfl, rfl, keep hT h1, ixN_nat (by rw [vn_len, spotsTo_len]; exact hxn), ?_⟩
    refine ⟨_, _, rfl, same_mut (same_mut s1 (s1.free hT)) hz0, ?_⟩
    rw [upd_same, vn_set, spotsTo_set (perm_nodup hp) hx hxn]
  · rintro σ H' ⟨v2, v3, rfl, s1, h1⟩
    rw [vn_len, spotsTo_full hp] at h1
    exact ⟨_, rfl, q z H' s1 hz0 h1⟩
theorem d_first_difference_of (R : Raw K mg "first_difference_of" s_first_difference_of) (T : Txt mg) :
    Def P w K mg base 1 "first_difference_of" ["one", "other"] sp_first_difference_of := by
  refine R.made sc_first_difference_of (fun vs H Q E h => ?_) (fun _ _ _ _ _ _ us hl => match us, hl with | [_, _], _ => rfl) fun f cdv A outer s H vs Q E hr h => ?_
  · obtain ⟨a, b, la, lb, rfl, _⟩ := h
    rfl
  obtain ⟨a, b, la, lb, rfl, ha, hb, hl, h40, hne, q⟩ := h
  refine ⟨_, pss_one (ps_ret (pe_bm PySem.F.plainAttrs_list PySem.F.slot_list_index PySem.F.type_list_index mt_indexF (pe_lc (own := [("mine", 2), ("yours", 3)]) (g := (gTup K 2 (gCons (gName 2) (gCons (gName 3) gNil)))) (tt := tYes) rfl sc_first_difference_of.nd (RZ.pi_zipA (by rfl) T.zip (pa_cons (pv 0) (pa_cons (pv 1) pa_nil))) (blkOk_by (N := N_first_difference_of) (sc := defScope s_first_difference_of) (by decide +kernel)) (fun _ _ _ _ _ => (pg_tup (by rfl) (pgs_cons (pg_name (i := 2) sc_first_difference_of.nd rfl (Or.inl rfl)) (pgs_cons (pg_name (i := 3) sc_first_difference_of.nd rfl (Or.inl rfl)) pgs_nil)))) (fun _ _ _ _ _ => pts_nil) (fun _ _ _ _ _ => (pe_cmpR op_eq (pv 2) (pv 3) (nomark _)))) (pa_cons pe_bl pa_nil))), ?_⟩
  refine ⟨_, rfl, _, rfl, a, b, _, _, rfl, .inr ⟨ha.sq, hb.sq, fun D hD => ?_⟩⟩
  have hzl : (List.zipWith (fun x y => decide (x = y)) la lb).length = la.length := by rw [List.length_zipWith]; omega
  refine lc_it (walk_zipT (K := K) (a := a) (b := b) (xs := la.map vn) (ys := lb.map vn) (n := la.length) (by rw [vn_len, vn_len]; omega)) (fun i H' => Same H H' ∧ H' D = some (.lst (((List.zipWith (fun x y => decide (x = y)) la lb).take i).map V.bl)))
    ⟨same_new hD, upd_same⟩ (fun i H' _ q => ⟨(ha.mono q.1).sq, (hb.mono q.1).sq⟩) ?_ ?_
  · rintro i x H' H2 hi ⟨s1, h1⟩ ⟨T, y1, y2, rfl, hT, rfl, e1, e2⟩
    obtain ⟨n1, hn1, rfl⟩ := map_at e1
    obtain ⟨n2, hn2, rfl⟩ := map_at e2
    refine ⟨T, _, rfl, SqT.of upd_same, rfl, _, _, rfl, _, _, rfl, rfl, rfl, _, rfl, _, rfl, rfl, _, keep hT h1, ?_, same_mut (same_mut s1 (s1.free hT)) hD, ?_⟩
    · rw [List.length_map, List.length_take]
      exact smallT (by omega)
    · have hz : (List.zipWith (fun x y => decide (x = y)) la lb)[i]? = some (decide (n1 = n2)) := by rw [List.getElem?_zipWith, hn1, hn2]
      have e3 : decide (vn n1 = vn n2) = decide (n1 = n2) := decide_eq_decide.mpr vn_inj
      rw [upd_same, take_snoc hz, List.map_append, e3]
      rfl
  · rintro H' ⟨s1, h1⟩
    rw [← hzl, List.take_length] at h1
    obtain ⟨f1, f2, f3⟩ := fdiff_lt hl hne
    refine ⟨.inl ⟨rfl, _, SqL.of h1⟩, D, _, .bl false, fdiff la lb, .bl false, rfl, rfl, h1, rfl, ?_, at_map f2, rfl, fun m z hm hz => ?_, q H' s1⟩
    · rw [List.all_eq_true]
      intro x hx
      obtain ⟨_, _, rfl⟩ := List.mem_map.mp hx
      rfl
    · obtain ⟨c, hc, rfl⟩ := map_at hz
      rw [f3 m hm c hc]
      rfl
theorem d_path_to (R : Raw K mg "path_to" s_path_to) :
    Def P w K mg base 1 "path_to" ["above", "node"] sp_path_to := by
  refine R.made sc_path_to (fun vs H Q E h => ?_) (fun _ _ _ _ _ _ us hl => match us, hl with | [_, _], _ => rfl) fun f cdv A outer s H vs Q E hr h => ?_
  · obtain ⟨d, kvs, x, up, rfl, _⟩ := h
    rfl
  obtain ⟨d, kvs, x, up, rfl, hd, hC, hup, q⟩ := h
  have hu := hu_of hr
  refine ⟨_, pss_cons (ps_set (i := 2) sc_path_to.nd rfl (Or.inl rfl) (pe_lst (pa_cons (pv 1) pa_nil)))
    (pss_cons (ps_while PassesOwn.never (pt_cmpR op_notN (pe_dget hu (pv 0) (pe_ix ix_l (pv 2) (pe_un un_neg pe_int) (fun _ _ => rfl)) (fun _ _ => rfl)) pe_non (nomark _)) (pss_one (ps_expr (pe_bm PySem.F.plainAttrs_list PySem.F.slot_list_append PySem.F.type_list_append mt_append (pv 2) (pa_cons (pe_dget hu (pv 0) (pe_ix ix_l (pv 2) (pe_un un_neg pe_int) (fun _ _ => rfl)) (fun _ _ => rfl)) pa_nil)))))
    (pss_one (ps_ret (pe_revL (pv 2))))), ?_⟩
  refine ⟨_, rfl, (by show 1 ≤ sizeLine; decide), fun p hp => ?_⟩
  refine ⟨fun m σ H' => ∃ (done : List Nat) (y : Nat) (rest : List Nat), m = rest.length ∧ σ = [some (.ref d), some (vn x), some (.ref p)] ∧ Same H H' ∧ H' p = some (lstN (done ++ [y])) ∧ done ++ y :: rest = x :: up ∧ Chain kvs (y :: rest),
    ⟨_, [], x, up, rfl, rfl, same_new hp, upd_same, rfl, hC⟩, ?_⟩
  rintro m σ H' ⟨done, y, rest, rfl, rfl, s1, h1, he, hc⟩
  have hd1 := s1 _ _ hd
  have hlast : atI ((done ++ [y]).map vn) (-1) = some (vn y) := by
    rw [List.map_append]
    exact atI_last _ _
  have hv := hc.at
  refine ⟨_, rfl, _, rfl, 1, rfl, p, _, -1, _, rfl, rfl, h1, hlast, d, _, rfl, by rw [← hv]; exact DGet.k (k := .inl (y : Int)) hd1, rfl, _, rfl, ?_⟩
  cases rest with
  | nil =>
    refine iteF ?_
    refine ⟨_, rfl, p, _, rfl, SqL.of h1, fun z hz => q z _ (same_mut s1 (s1.free hz)) (s1.free hz) ?_⟩
    rw [upd_same, ← he, ← List.map_reverse]
  | cons z rest =>
    refine iteT ⟨_, fun σ' H'' n => n, ?_⟩
    have hlen := congrArg List.length he
    simp only [List.length_append, List.length_cons] at hlen
    refine ⟨_, rfl, .inl ⟨rfl, _, SqL.of h1⟩, _, rfl, _, rfl, 1, rfl, p, _, -1, _, rfl, rfl, h1, hlast, d, _, rfl, by rw [← hv]; exact DGet.k (k := .inl (y : Int)) hd1, p, _, _, rfl, rfl, h1, ?_, ?_⟩
    · rw [vn_len, List.length_append, List.length_singleton]
      exact smallT (by omega)
    · refine ⟨rest.length, Nat.lt_succ_self _, done ++ [y], z, rest, rfl, rfl, same_mut s1 hp, ?_, ?_, hc.2⟩
      · rw [upd_same]
        exact congrArg some (lst_snoc _ _)
      · rw [← he]
        simp
theorem takeWhile_stop {α : Type} {f : α → Bool} : ∀ {l : List α} {i : Nat} {c : α}, (∀ x ∈ l.take i, f x = true) → l[i]? = some c → f c = false → l.takeWhile f = l.take i
  | [], i, c, _, h, _ => by simp at h
  | y :: l, 0, c, _, h, hf => by
    have : y = c := by simpa using h
    subst this
    simp [List.takeWhile_cons, hf]
  | y :: l, i + 1, c, hA, h, hf => by
    have h1 : f y = true := hA y (by simp)
    rw [List.takeWhile_cons, h1, List.take_succ_cons]
    simp only [if_true]
    rw [takeWhile_stop (i := i) (c := c) (fun x hx => hA x (by rw [List.take_succ_cons]; exact List.mem_cons_of_mem _ hx)) (by simpa using h) hf]
theorem takeWhile_full {α : Type} {f : α → Bool} {l : List α} (h : ∀ x ∈ l, f x = true) : l.takeWhile f = l := by
  induction l with
  | nil => rfl
  | cons y l ih =>
    rw [List.takeWhile_cons, h y (by simp)]
    simp only [if_true]
    rw [ih fun x hx => h x (by simp [hx])]
theorem d_parent_by_logs (R : Raw K mg "parent_by_logs" s_parent_by_logs) (T : Txt mg) (D_path_to : Def P w K mg base 1 "path_to" ["above", "node"] sp_path_to) :
    Def P w K mg base 2 "parent_by_logs" ["above", "last", "node", "spots"] sp_parent_by_logs := by
  refine R.made sc_parent_by_logs (fun vs H Q E h => ?_) (fun _ _ _ _ _ _ us hl => match us, hl with | [_, _, _, _], _ => rfl) fun f cdv A outer s H vs Q E hr h => ?_
  · obtain ⟨d, S, kvs, ss, logs, n, x0, x, last, tl, rfl, _⟩ := h
    rfl
  obtain ⟨d, S, kvs, ss, logs, n, x0, x, last, tl, rfl, hd, hS, hss, hlast, hC, htl, hyn, hxn, hlogs, q⟩ := h
  have hu := hu_of hr
  have hr_path_to : Room 1 _ := hr.mono (by decide)
  refine ⟨_, pss_cons (ps_for PassesOwn.never rfl (pi_list (pe_slice sl_list (pe_fn D_path_to hr_path_to (by rfl) (pa_cons (pv 0) (pa_cons (pv 1) pa_nil))) (po_some pe_int) po_none)) (pg_name (i := 4) sc_parent_by_logs.nd rfl (Or.inr rfl)) (pss_one (ps_if (pt_val (pe_callB (call_anyF rfl) (by rfl) T.any (by decide +kernel) (pa_cons (pe_lc (own := [("spot", 5)]) (g := (gName 5)) (tt := tYes) rfl sc_parent_by_logs.nd (pi_list (pv 3)) (blkOk_by (N := N_parent_by_logs) (sc := defScope s_parent_by_logs) (by decide +kernel)) (fun _ _ _ _ _ => (pg_name (i := 5) sc_parent_by_logs.nd rfl (Or.inl rfl))) (fun _ _ _ _ _ => pts_nil) (fun _ _ _ _ _ => (pe_cmpR op_lt (pe_ix ix_l (pv 5) (pv 2) (fun _ _ => rfl)) (pe_ix ix_l (pv 5) (pv 4) (fun _ _ => rfl)) (nomark _)))) pa_nil))) (pss_one (ps_ret (pe_dget hu (pv 0) (pv 4) (fun _ _ => rfl)))) pss_nil)))
    (pss_one (ps_ret (pv 1))), ?_⟩
  obtain ⟨up, hup⟩ := last_rev x0 tl
  have hC' := hC
  rw [hup, ← hlast] at hC'
  refine ⟨_, rfl, _, rfl, d, kvs, last, up, rfl, hd, hC', ?_, fun p H1 s1 hp h1 => ?_⟩
  · have := congrArg List.length hup
    simp only [List.length_reverse, List.length_cons] at this
    omega
  rw [hlast, ← hup, List.reverse_reverse] at h1
  refine ⟨1, rfl, p, _, rfl, SqL.of h1, fun z hz => ?_⟩
  rw [cut1]
  have ez : ((x0 :: tl).map vn).drop 1 = tl.map vn := rfl
  rw [ez]
  have s2 : Same H (upd H1 z (.lst (tl.map vn))) := same_mut s1 (s1.free hz)
  generalize hH2 : upd H1 z (.lst (tl.map vn)) = H2 at s2
  have hz2 : H2 z = some (.lst (tl.map vn)) := by rw [← hH2, upd_same]
  refine ⟨z, rfl, ⟨_, SqL.of hz2⟩, for_list (K := K) (a := z) (xs := tl.map vn) (fun i σ H' => ∃ v4 v5, σ = [some (.ref d), some (vn last), some (vn x), some (.ref S), v4, v5] ∧ Same H2 H' ∧ ∀ c ∈ tl.take i, bfOf logs x c = false)
    ⟨none, none, rfl, Same.refl _, fun c hc => by simp at hc⟩ (fun i σ H' _ ⟨_, _, _, s, _⟩ => SqL.of (s _ _ hz2)) ?_ ?_⟩
  · rintro i y σ H3 hi ⟨v4, v5, rfl, s3, hb⟩
    obtain ⟨c, hc, rfl⟩ := map_at hi
    have hcn := hyn c (List.mem_cons_of_mem _ (List.mem_of_getElem? hc))
    have s03 := s2.trans s3
    have hS3 := s03 _ _ hS
    refine ⟨_, rfl, S, rfl, ⟨_, SqL.of hS3⟩, fun D hD => ?_⟩
    have hlen : (ss.map V.ref).length = logs.length := by rw [List.length_map, hss.1]
    refine lc_list (K := K) (a := S) (xs := ss.map V.ref) (fun j H' => Same H3 H' ∧ H' D = some (.lst (((logs.map fun l => decide (l.idxOf x < l.idxOf c)).take j).map V.bl)))
      ⟨same_new hD, upd_same⟩ (fun j H' _ q => SqL.of (q.1 _ _ hS3)) ?_ ?_
    · rintro j y H4 hj ⟨s4, h4⟩
      obtain ⟨b, hbj, rfl⟩ := map_at hj
      have hjl : j < logs.length := by rw [← hlen]; exact at_lt hj
      have hlj : logs[j]? = some logs[j] := List.getElem?_eq_getElem hjl
      have hsp := s4 _ _ (s03 _ _ (hss.2 j b _ hbj hlj))
      refine ⟨rfl, _, rfl, _, rfl, b, _, _, _, rfl, rfl, hsp, ix_at (spots_at hxn), _, rfl, _, rfl, b, _, _, _, rfl, rfl, hsp, ix_at (spots_at hcn), _, _, rfl, rfl, _, h4, ?_, same_mut s4 hD, ?_⟩
      · rw [List.length_map, List.length_take, List.length_map]
        exact smallT (by omega)
      · have he : (logs.map fun l => decide (l.idxOf x < l.idxOf c))[j]? = some (decide (logs[j].idxOf x < logs[j].idxOf c)) := at_map hlj
        have e3 : decide ((logs[j].idxOf x : Int) < (logs[j].idxOf c : Int)) = decide (logs[j].idxOf x < logs[j].idxOf c) := decide_eq_decide.mpr (by omega)
        rw [upd_same, take_snoc he, List.map_append]
        show some (HO.lst (_ ++ [V.bl (decide ((logs[j].idxOf x : Int) < (logs[j].idxOf c : Int)))])) = _
        rw [e3]
        rfl
    · rintro H4 ⟨s4, h4⟩
      have el : (ss.map V.ref).length = (logs.map fun l => decide (l.idxOf x < l.idxOf c)).length := by rw [hlen, List.length_map]
      rw [el, List.take_length] at h4
      refine ⟨D, _, rfl, h4, _, rfl, ?_⟩
      have eb : (logs.map fun l => decide (l.idxOf x < l.idxOf c)).any id = bfOf logs x c := by
        unfold bfOf
        rw [List.any_map]
        rfl
      rw [eb]
      cases hbc : bfOf logs x c with
      | true =>
        refine iteT ?_
        have s04 := s03.trans s4
        have hst : tl.takeWhile (fun c => !bfOf logs x c) = tl.take i := takeWhile_stop (fun y hy => by rw [hb y hy]; rfl) hc (by rw [hbc]; rfl)
        obtain ⟨r, hr⟩ := last_rev x0 (tl.take i)
        have hC2 : Chain kvs (c :: (x0 :: tl.take i).reverse) := by
          have e : (x0 :: tl).reverse = (tl.drop (i + 1)).reverse ++ (c :: (x0 :: tl.take i).reverse) := by
            have e2 : tl = tl.take i ++ c :: tl.drop (i + 1) := by
              have e3 : tl.take (i + 1) ++ tl.drop (i + 1) = tl := List.take_append_drop _ _
              rw [take_snoc hc, List.append_assoc] at e3
              exact e3.symm
            conv => lhs; rw [e2]
            simp
          rw [e] at hC
          exact hC.drop
        rw [hr] at hC2
        have hv := hC2.at
        refine ⟨_, rfl, _, rfl, d, _, rfl, by rw [← hv]; exact DGet.k (k := .inl (c : Int)) (s04 _ _ hd), ?_⟩
        have hq := q H4 s04
        rw [hst] at hq
        exact hq
      | false =>
        refine iteF ⟨_, _, rfl, s3.trans s4, fun y hy => ?_⟩
        rw [take_snoc hc] at hy
        rcases List.mem_append.mp hy with g | g
        · exact hb y g
        · rw [List.mem_singleton.mp g]
          exact hbc
  · rintro σ H3 ⟨v4, v5, rfl, s3, hb⟩
    rw [vn_len, List.take_length] at hb
    have hq := q H3 (s2.trans s3)
    rw [takeWhile_full fun y hy => by rw [hb y hy]; rfl] at hq
    rw [← hlast] at hq
    exact ⟨_, rfl, hq⟩
end
end SF
end

/-! SFg4 -/
section
set_option Elab.async false
set_option linter.all false
set_option maxRecDepth 100000
set_option maxHeartbeats 4000000
/-! forced_by_logs. -/
namespace SF
open PySem PySem.Spec L2
open PyProof.Rows hiding St

/-- a walk over a list or a tuple, whichever it is -/
def iSqU (tl : TE) : TI := fun σ H R => tl σ H fun x H1 => ∃ a xs, x = .ref a ∧ (H1 a = some (.lst xs) ∨ H1 a = some (.tup xs)) ∧
  ∀ J G, Walk J xs.length G (YAt xs) → (∀ H', (∀ o, H1 a = some o → H' a = some o) → G H') → R J H1
theorem mono_var {i : Nat} : ∀ σ H (Q Q' : VK), (∀ v H', Q v H' → Q' v H') → tVar i σ H Q → tVar i σ H Q' := fun σ H Q Q' h ⟨v, e, q⟩ => ⟨v, e, h _ _ q⟩
theorem pi_sqU {X : Cx} {tg l : Expr} {tl : TE} (hm : ∀ σ H (Q Q' : VK), (∀ v H', Q v H' → Q' v H') → tl σ H Q → tl σ H Q') (hl : PE X l tl) : PI X tg l (iSqU tl) :=
  ⟨fun pins s σ H R I h => (pi_sq hl).run pins s σ H R I (hm _ _ _ _ (fun v H1 ⟨a, xs, e, hq, k⟩ => ⟨a, xs, e, hq.elim (fun e => .inl ⟨e, k _ _ walk_list fun H' s => SqL.of (s _ e)⟩) (fun e => .inr ⟨e, k _ _ walk_tup fun H' s => SqT.of (s _ e)⟩)⟩) h)⟩
theorem nil_at {α : Type} {j : Nat} {b : α} (h : ([] : List α)[j]? = some b) : False := by simp at h
/-- tuples of numbers at the addresses -/
def LogsAt (H : Hp) : List Addr → List (List Nat) → Prop
  | [], [] => True
  | u :: us, l :: ls => (∃ o, LT l o ∧ H u = some o) ∧ LogsAt H us ls
  | _, _ => False
theorem LogsAt.mono {H H' : Hp} (k : TK H H') : ∀ {us : List Addr} {ls : List (List Nat)}, LogsAt H us ls → LogsAt H' us ls
  | [], [], _ => trivial
  | _ :: _, _ :: _, ⟨⟨o, t, h⟩, r⟩ => ⟨⟨o, t, k.lt t h⟩, r.mono k⟩
theorem LogsAt.append {H : Hp} : ∀ {us vs : List Addr} {ls ms : List (List Nat)}, LogsAt H us ls → LogsAt H vs ms → LogsAt H (us ++ vs) (ls ++ ms)
  | [], _, [], _, _, r => r
  | _ :: _, _, _ :: _, _, ⟨h, r⟩, q => ⟨h, r.append q⟩
theorem LogsAt.len {H : Hp} : ∀ {us : List Addr} {ls : List (List Nat)}, LogsAt H us ls → us.length = ls.length
  | [], [], _ => rfl
  | _ :: _, _ :: _, ⟨h, r⟩ => by simp [r.len]
theorem LogsAt.head {H : Hp} : ∀ {us : List Addr} {ls : List (List Nat)}, LogsAt H us ls → ls ≠ [] → ∃ u r, us = u :: r ∧ Lg H u (ls.headD [])
  | [], [], _, h => absurd rfl h
  | u :: us, l :: ls, ⟨h, r⟩, _ => ⟨u, us, rfl, h⟩
theorem filter_snoc {α : Type} {p : α → Bool} {l : List α} {i : Nat} {x : α} (h : l[i]? = some x) : (l.take (i + 1)).filter p = (l.take i).filter p ++ (if p x = true then [x] else []) := by
  rw [take_snoc h, List.filter_append]
  cases e : p x <;> simp [e]
/-- the run so far -/
def rs (bf : Nat → Nat → Bool) (x0 : Nat) (xs : List Nat) (i : Nat) : List Nat × G := run bf x0 (xs.take i) ([], fun _ => [])
theorem rs_succ {bf : Nat → Nat → Bool} {x0 x : Nat} {xs : List Nat} {i : Nat} (h : xs[i]? = some x) : rs bf x0 xs (i + 1) = step bf x0 (rs bf x0 xs i) x := by
  unfold rs run
  rw [take_snoc h, List.foldl_append]
  rfl
theorem tw_mem {α : Type} {p : α → Bool} {l : List α} {x : α} (h : x ∈ l.takeWhile p) : x ∈ l := (List.takeWhile_sublist p).subset h
theorem tw_len {α : Type} (p : α → Bool) (l : List α) : (l.takeWhile p).length ≤ l.length := (List.takeWhile_sublist p).length_le
theorem rs_facts (bf : Nat → Nat → Bool) (x0 : Nat) (xs : List Nat) : ∀ i, i ≤ xs.length → (∀ y ∈ (rs bf x0 xs i).1, y ∈ xs.take i) ∧ (rs bf x0 xs i).1.length ≤ i ∧ (x0 :: xs)[i]? = some (lastOf x0 (rs bf x0 xs i).1) ∧ ∀ j, ((rs bf x0 xs i).2 j).length ≤ i
  | 0, _ => ⟨fun y hy => by simp [rs, run] at hy, by simp [rs, run], rfl, fun j => by simp [rs, run]⟩
  | i + 1, hi => by
    obtain ⟨h1, h2, h3, h4⟩ := rs_facts bf x0 xs i (by omega)
    have hx : xs[i]? = some xs[i] := List.getElem?_eq_getElem (by omega)
    rw [rs_succ hx, take_snoc hx]
    generalize rs bf x0 xs i = r at h1 h2 h3 h4
    unfold step
    refine ⟨fun y hy => ?_, ?_, ?_, fun j => ?_⟩
    · rcases List.mem_append.mp hy with g | g
      · exact List.mem_append_left _ (h1 y (tw_mem g))
      · exact List.mem_append_right _ g
    · have := tw_len (fun c => !bf xs[i] c) r.1
      rw [List.length_append, List.length_singleton]
      omega
    · show (x0 :: xs)[i + 1]? = some (lastOf x0 (_ ++ [xs[i]]))
      rw [lastOf_snoc, List.getElem?_cons_succ]
      exact hx
    · show (put r.2 _ xs[i] j).length ≤ i + 1
      unfold put
      have := h4 j
      split
      · next e => rw [← e, List.length_cons]; omega
      · omega
theorem Chain.put {kvs : List (Key × V)} {x : Nat} {v : V} : ∀ {l : List Nat}, x ∉ l → Chain kvs l → Chain (putK kvs (.inl (x : Int)) v) l
  | [], _, _ => trivial
  | [y], hx, h => by
    have : ¬ (Sum.inl (y : Int) : Key) = .inl (x : Int) := fun e => hx (by injection e with e; simp; omega)
    show valV _ _ = _
    rw [valV_put, if_neg this]
    exact h
  | y :: z :: l, hx, h => by
    have : ¬ (Sum.inl (y : Int) : Key) = .inl (x : Int) := fun e => hx (by injection e with e; simp; omega)
    refine ⟨?_, h.2.put fun q => hx (List.mem_cons_of_mem _ q)⟩
    rw [valV_put, if_neg this]
    exact h.1
theorem tw_split {α : Type} (p : α → Bool) (l : List α) : ∃ r, l = l.takeWhile p ++ r := ⟨l.dropWhile p, (List.takeWhile_append_dropWhile).symm⟩
theorem tw_rev {α : Type} (p : α → Bool) (x0 : α) (l : List α) : ∃ U, (x0 :: l).reverse = U ++ (x0 :: l.takeWhile p).reverse := by
  obtain ⟨r, hr⟩ := tw_split p l
  refine ⟨r.reverse, ?_⟩
  conv => lhs; rw [hr]
  simp
theorem putK_len (kvs : List (Key × V)) (k : Key) (v : V) : (putK kvs k v).length ≤ kvs.length + 1 := by
  unfold putK
  split
  · rw [List.length_map]; omega
  · rw [List.length_append, List.length_singleton]; omega
section
variable {P : Program} {w : World} {K : PySem.W.Frag} {mg : Str → Option Value} {base : Heap}
theorem d_forced_by_logs (R : Raw K mg "forced_by_logs" s_forced_by_logs) (T : Txt mg) (D_parent_by_logs : Def P w K mg base 2 "parent_by_logs" ["above", "last", "node", "spots"] sp_parent_by_logs) (D_spots_of : Def P w K mg base 1 "spots_of" ["log"] sp_spots) :
    Def P w K mg base 3 "forced_by_logs" ["logs"] sp_forced_by_logs := by
  refine R.made sc_forced_by_logs (fun vs H Q E h => ?_) (fun _ _ _ _ _ _ us hl => match us, hl with | [_], _ => rfl) fun f cdv A outer s H vs Q E hr h => ?_
  · obtain ⟨v, ps, n, rfl, _⟩ := h
    rfl
  obtain ⟨v, ps, n, rfl, ⟨a, qs, rfl, ha, hps⟩, hV, q⟩ := h
  have hu := hu_of hr
  have hr_parent_by_logs : Room 2 _ := hr.mono (by decide)
  have hr_spots_of : Room 1 _ := hr.mono (by decide)
  refine ⟨_, pss_cons (ps_set (i := 1) sc_forced_by_logs.nd rfl (Or.inl rfl) (pe_op op_cat (pe_lc (own := [("limit", 7), ("log", 8)]) (g := (gTup K 2 (gCons (gName 7) (gCons (gName 8) gNil)))) rfl sc_forced_by_logs.nd (pi_sqU mono_var (pv 0)) (blkOk_by (N := N_forced_by_logs) (sc := defScope s_forced_by_logs) (by decide +kernel)) (fun _ _ _ _ _ => (pg_tup (by rfl) (pgs_cons (pg_name (i := 7) sc_forced_by_logs.nd rfl (Or.inl rfl)) (pgs_cons (pg_name (i := 8) sc_forced_by_logs.nd rfl (Or.inl rfl)) pgs_nil)))) (fun _ _ _ _ _ => pts_one (pt_cmpR op_eq (pv 7) pe_int (nomark _))) (fun _ _ _ _ _ => (pv 8))) (pe_lst (pa_cons (pe_ix ix_t (pe_ix ix_s (pv 0) pe_int (fun _ _ => rfl)) pe_int (fun _ _ => rfl)) pa_nil))))
    (pss_cons (ps_setLc (i := 2) (own := [("limit", 7), ("log", 8)]) (g := (gTup K 2 (gCons (gName 7) (gCons (gName 8) gNil)))) (tt := tYes) rfl sc_forced_by_logs.nd rfl rfl (sw_true rfl rfl rfl (by decide +kernel)) (pi_sqU mono_var (pv 0)) (blkOk_by (N := N_forced_by_logs) (sc := defScope s_forced_by_logs) (by decide +kernel)) (fun _ _ _ _ _ => (pg_tup (by rfl) (pgs_cons (pg_name (i := 7) sc_forced_by_logs.nd rfl (Or.inl rfl)) (pgs_cons (pg_name (i := 8) sc_forced_by_logs.nd rfl (Or.inl rfl)) pgs_nil)))) (fun _ _ _ _ _ => pts_nil) (fun _ _ _ _ _ => (pe_fn D_spots_of hr_spots_of (by rfl) (pa_cons (pv 8) pa_nil))))
    (pss_cons (ps_set (i := 3) sc_forced_by_logs.nd rfl (Or.inl rfl) (pe_disp (pps_cons (pe_ix ix_z (pe_ix ix_l (pv 1) pe_int (fun _ _ => rfl)) pe_int (fun _ _ => rfl)) pe_non pps_nil) (by rfl) (by rfl) (fun z => by cases z) (by decide)))
    (pss_cons (ps_setLc (i := 4) (own := [("node", 6)]) (g := (gName 6)) (tt := tYes) rfl sc_forced_by_logs.nd rfl rfl (sw_true rfl rfl rfl (by decide +kernel)) (pi_tup (pe_ix ix_l (pv 1) pe_int (fun _ _ => rfl))) (blkOk_by (N := N_forced_by_logs) (sc := defScope s_forced_by_logs) (by decide +kernel)) (fun _ _ _ _ _ => (pg_name (i := 6) sc_forced_by_logs.nd rfl (Or.inl rfl))) (fun _ _ _ _ _ => pts_nil) (fun _ _ _ _ _ => (pe_lst pa_nil)))
    (pss_cons (ps_for PassesOwn.never rfl (RZ.pi_zipA (by rfl) T.zip (pa_cons (pe_ix ix_l (pv 1) pe_int (fun _ _ => rfl)) (pa_cons (pe_slice sl_tup (pe_ix ix_l (pv 1) pe_int (fun _ _ => rfl)) (po_some pe_int) po_none) pa_nil))) (pg_tup (by rfl) (pgs_cons (pg_name (i := 5) sc_forced_by_logs.nd rfl (Or.inl rfl)) (pgs_cons (pg_name (i := 6) sc_forced_by_logs.nd rfl (Or.inl rfl)) pgs_nil))) (pss_cons (ps_dput hu (pv 3) (pv 6) (pe_fn D_parent_by_logs hr_parent_by_logs (by rfl) (pa_cons (pv 3) (pa_cons (pv 5) (pa_cons (pv 6) (pa_cons (pv 2) pa_nil))))) rfl)
      (pss_one (ps_expr (pe_bm PySem.F.plainAttrs_list PySem.F.slot_list_insert PySem.F.type_list_insert mt_insert (pe_ix ix_l (pv 4) (pe_dget hu (pv 3) (pv 6) (fun _ _ => rfl)) (fun _ _ => rfl)) (pa_cons pe_int (pa_cons (pv 6) pa_nil)))))))
    (pss_one (ps_ret (pe_callTy call_tupleF (by rfl) T.tuple (by decide +kernel) (pa_cons (pe_lc (own := [("row", 9)]) (g := (gName 9)) (tt := tYes) rfl sc_forced_by_logs.nd (pi_list (pv 4)) (blkOk_by (N := N_forced_by_logs) (sc := defScope s_forced_by_logs) (by decide +kernel)) (fun _ _ _ _ _ => (pg_name (i := 9) sc_forced_by_logs.nd rfl (Or.inl rfl))) (fun _ _ _ _ _ => pts_nil) (fun _ _ _ _ _ => (pe_callTy call_tupleF (by rfl) T.tuple (by decide +kernel) (pa_cons (pv 9) pa_nil)))) pa_nil)))))))), ?_⟩
  have hlen : (qs.map V.ref).length = ps.length := by rw [List.length_map]; exact hps.1
  have hne : 0 < ps.length := List.length_pos_iff.mpr hV.perms.ne
  have hfew := hV.few
  have hn40 := hV.size
  obtain ⟨p0, hp0⟩ : ∃ p0, ps[0]? = some p0 := ⟨_, List.getElem?_eq_getElem hne⟩
  obtain ⟨q0, u0, ho0, ht0, hq0, hq0t, hu0⟩ := hps.at hp0
  have hord : ordOf ps = ((ps.filter fun p => p.1 == 1).map (·.2) ++ [p0.2]).headD [] := by
    unfold ordOf
    have : (ps.map (·.2)).take 1 = [p0.2] := by
      cases ps with
      | nil => simp at hp0
      | cons p r =>
        have : p = p0 := by simpa using hp0
        subst this
        simp
    rw [this]
  have hordP := hV.perms.ordPerm
  have hordL := hV.perms.ordLen
  have hordC := hV.perms.ordCons
  have hpos := hV.perms.pos
  -- order
  refine ⟨_, rfl, a, _, rfl, ha, fun J G wk hG D hD => ?_⟩
  refine lc_it wk (fun i H' => Same H H' ∧ ∃ us, H' D = some (.lst (us.map V.ref)) ∧ LogsAt H us (((ps.take i).filter fun p => p.1 == 1).map (·.2)) ∧ us.length ≤ i)
    ⟨same_new hD, [], upd_same, trivial, Nat.le_refl _⟩ (fun i H' _ h => hG H' fun o e => h.1 _ _ e) ?_ ?_
  · rintro i y H1 _ hlt0 ⟨s1, us, h1, h2, h3⟩ ⟨rfl, hi⟩
    clear hlt0
    obtain ⟨q1, hqi, rfl⟩ := map_at hi
    have hi' : i < ps.length := by rw [← hps.1]; exact at_lt hqi
    obtain ⟨pi, hpi⟩ : ∃ pi, ps[i]? = some pi := ⟨_, List.getElem?_eq_getElem hi'⟩
    obtain ⟨q2, u2, ho2, ht2, hq2, hq2t, hu2⟩ := hps.at hpi
    rw [hqi] at hq2
    cases hq2
    refine ⟨q1, _, rfl, SqT.of (s1 _ _ hq2t), rfl, _, _, rfl, _, _, rfl, rfl, rfl, _, rfl, rfl, _, rfl, ?_⟩
    rw [filter_snoc hpi]
    by_cases e : pi.1 = 1
    · have e1 : decide (vn pi.1 = V.int 1) = true := decide_eq_true (by rw [e]; rfl)
      have e2 : (pi.1 == 1) = true := by rw [e]; rfl
      refine ite2 (fun _ => ?_) (fun c => absurd e1 c)
      simp only [if_pos e2, List.map_append]
      refine ⟨_, rfl, _, h1, smallT (by rw [List.length_map]; omega), same_mut s1 hD, us ++ [u2], by rw [upd_same, List.map_append]; rfl, h2.append ⟨⟨ho2, ht2, hu2⟩, trivial⟩, by rw [List.length_append, List.length_singleton]; omega⟩
    · have e1 : ¬ decide (vn pi.1 = V.int 1) = true := fun h => e (vn_inj.mp (of_decide_eq_true h : vn pi.1 = vn 1))
      have e2 : ¬ (pi.1 == 1) = true := by simpa using e
      refine ite2 (fun c => absurd c e1) (fun _ => ?_)
      simp only [if_neg e2, List.append_nil]
      exact ⟨s1, us, h1, h2, by omega⟩
  rintro H1 ⟨s1, us, h1, h2, h3⟩
  rw [hlen, List.take_length] at h2
  rw [hlen] at h3
  have ha1 := ha.imp (s1 _ _) (s1 _ _)
  refine ⟨_, rfl, a, _, 0, _, rfl, rfl, ha1, ix_ref (i := 0) hq0, q0, _, 1, _, rfl, rfl, s1 _ _ hq0t, rfl, (by show 1 ≤ sizeLine; decide), fun L hL => ?_⟩
  refine ⟨D, L, _, _, rfl, rfl, keep hL h1, upd_same, ?_, fun O hO => ?_⟩
  · rw [List.length_map]
    exact small (by show us.length + 1 ≤ _; omega)
  have hLA : LogsAt H (us ++ [u0]) ((ps.filter fun p => p.1 == 1).map (·.2) ++ [p0.2]) := h2.append ⟨⟨ho0, ht0, hu0⟩, trivial⟩
  obtain ⟨uo, uor, huo, huot⟩ := hLA.head (fun h => by have := congrArg List.length h; simp at this)
  rw [← hord] at huot
  have eO : us.map V.ref ++ [V.ref u0] = (uo :: uor).map V.ref := by rw [← huo, List.map_append]; rfl
  rw [eO]
  have s2 : Same H (upd (upd H1 L (.lst [.ref u0])) O (.lst ((uo :: uor).map V.ref))) := (s1.trans (same_new hL)).trans (same_new hO)
  have hO2 : upd (upd H1 L (.lst [.ref u0])) O (.lst ((uo :: uor).map V.ref)) O = some (.lst ((uo :: uor).map V.ref)) := upd_same
  generalize upd (upd H1 L (.lst [.ref u0])) O (.lst ((uo :: uor).map V.ref)) = H2 at s2 hO2
  clear h1 h2 h3 eO
  -- spots
  refine ⟨_, rfl, a, _, rfl, ha.imp (s2 _ _) (s2 _ _), fun J G wk hG S hS => ?_⟩
  refine lc_it wk (fun i H' => Same H2 H' ∧ ∃ ss : List Addr, H' S = some (.lst (ss.map V.ref)) ∧ ss.length = i ∧ ∀ j b l, ss[j]? = some b → (ps.map (·.2))[j]? = some l → H' b = some (lstN (spots n l)) ∧ b ≠ S)
    ⟨same_new hS, [], upd_same, rfl, fun j b l e => (nil_at e).elim⟩ (fun i H' _ h => hG H' fun o e => h.1 _ _ e) ?_ ?_
  · rintro i y H3 _ hlt0 ⟨s3, ss, h1, h2, h3⟩ ⟨rfl, hi⟩
    clear hlt0
    obtain ⟨q1, hqi, rfl⟩ := map_at hi
    have hi' : i < ps.length := by rw [← hps.1]; exact at_lt hqi
    obtain ⟨pi, hpi⟩ : ∃ pi, ps[i]? = some pi := ⟨_, List.getElem?_eq_getElem hi'⟩
    obtain ⟨q2, u2, ho2, ht2, hq2, hq2t, hu2⟩ := hps.at hpi
    rw [hqi] at hq2
    cases hq2
    have s03 := s2.trans s3
    refine ⟨q1, _, rfl, SqT.of (s03 _ _ hq2t), rfl, _, _, rfl, _, _, rfl, rfl, rfl, _, rfl, u2, pi.2, n, rfl, ⟨ho2, ht2, s03 _ _ hu2⟩, hV.perms.perm pi (List.mem_of_getElem? hpi), hn40, fun p H4 s4 hp h4 => ?_⟩
    have hSp : S ≠ p := ne_of_none h1 hp
    refine ⟨_, s4 _ _ h1, smallT (by rw [List.length_map]; omega), same_mut (s3.trans s4) hS, ss ++ [p], by rw [upd_same, List.map_append]; rfl, by rw [List.length_append, h2]; rfl, fun j b l e1 e2 => ?_⟩
    rcases Nat.lt_or_ge j ss.length with hj | hj
    · rw [List.getElem?_append_left hj] at e1
      obtain ⟨g1, g2⟩ := h3 j b l e1 e2
      exact ⟨keepN g2 (s4 _ _ g1), g2⟩
    · rw [List.getElem?_append_right hj] at e1
      have hj0 : j - ss.length = 0 := by
        have := at_lt e1
        rw [List.length_singleton] at this
        omega
      rw [hj0] at e1
      cases e1
      have ej : j = i := by omega
      subst ej
      rw [at_map hpi] at e2
      cases e2
      exact ⟨keepN (Ne.symm hSp) h4, Ne.symm hSp⟩
  rintro H3 ⟨s3, ss, hS3, hssl, hss⟩
  rw [hlen] at hssl
  have hSpots : SpotsAt H3 ss n (ps.map (·.2)) := ⟨by rw [hssl, List.length_map], fun i b l e1 e2 => (hss i b l e1 e2).1⟩
  have s03 := s2.trans s3
  have hO3 := s3 _ _ hO2
  have huo3 := huot.mono s03
  clear hss hssl
  generalize hx0 : (ordOf ps).headD 0 = x0 at hordC
  generalize hxs : (ordOf ps).drop 1 = xs at hordC
  have hxl : xs.length + 1 = n := by
    have := congrArg List.length hordC
    rw [hordL] at this
    rw [this, List.length_cons]
  have hnd : (x0 :: xs).Nodup := by rw [← hordC]; exact hordP.nodup_iff.mpr List.nodup_range
  have hmn : ∀ y ∈ x0 :: xs, y < n := fun y hy => perm_lt hordP (by rw [hordC]; exact hy)
  have hFT : FT ps = arr n (rs (bfOf (ps.map (·.2))) x0 xs xs.length).2 := by
    unfold FT forced rs
    rw [hordL, hx0, hxs, List.take_length]
  rw [hordC] at huo3
  -- above
  have hpl : (ps.map (·.2)).length ≤ 20 := by rw [List.length_map]; exact hfew
  refine fun d hd => ⟨_, rfl, O, _, 0, _, rfl, rfl, keep hd hO3, ix_ref (i := 0) rfl, uo, _, 0, _, rfl, rfl, huo3.mono (same_new hd), ix_at (i := 0) rfl, upd_same, [(.inl (x0 : Int), .non)], rfl, (by show 1 ≤ 15; decide), ?_⟩
  have sd : Same H3 (upd (upd H3 d (.dK [])) d (.dK (mergeK [] [(.inl (x0 : Int), .non)]))) := same_mut (same_new hd) hd
  have hdd : upd (upd H3 d (.dK [])) d (.dK (mergeK [] [(.inl (x0 : Int), .non)])) d = some (.dK [(.inl (x0 : Int), .non)]) := upd_same
  generalize upd (upd H3 d (.dK [])) d (.dK (mergeK [] [(.inl (x0 : Int), .non)])) = Hd at sd hdd
  -- found
  refine ⟨_, rfl, O, _, 0, _, rfl, rfl, sd _ _ hO3, ix_ref (i := 0) rfl, uo, rfl, ⟨_, (huo3.mono sd).sq⟩, fun F hF => ?_⟩
  refine lc_tup (K := K) (a := uo) (xs := (x0 :: xs).map vn) (fun i H' => Same Hd H' ∧ ∃ fs : List Addr, H' F = some (.lst (fs.map V.ref)) ∧ fs.length = i ∧ fs.Nodup ∧ ∀ b ∈ fs, Hd b = none ∧ b ≠ F ∧ H' b = some (.lst []))
    ⟨same_new hF, [], upd_same, rfl, List.nodup_nil, fun b hb => by cases hb⟩ (fun i H' _ q => (huo3.mono (sd.trans q.1)).sq) ?_ ?_
  · rintro i y H4 hi ⟨s4, fs, h1, h2, h3, h4⟩
    have hil := at_lt hi
    rw [vn_len, List.length_cons] at hil
    refine ⟨rfl, Nat.zero_le _, fun b hb => ⟨_, keep hb h1, smallT (by rw [List.length_map]; omega), same_mut (s4.trans (same_new hb)) hF, fs ++ [b], by rw [upd_same, List.map_append]; rfl, by rw [List.length_append, h2]; rfl, ?_, fun c hc => ?_⟩⟩
    · rw [List.nodup_append]
      refine ⟨h3, List.nodup_cons.mpr ⟨by simp, List.nodup_nil⟩, fun c hc c' hc' e => ?_⟩
      rw [List.mem_singleton.mp hc'] at e
      subst e
      have := (h4 c hc).2.2
      rw [hb] at this
      cases this
    · rcases List.mem_append.mp hc with g | g
      · obtain ⟨g1, g2, g3⟩ := h4 c g
        exact ⟨g1, g2, keepN g2 (keep hb g3)⟩
      · rw [List.mem_singleton.mp g]
        have hne2 : b ≠ F := Ne.symm (ne_of_none h1 hb)
        exact ⟨s4.free hb, hne2, keepN hne2 upd_same⟩
  rintro H5 ⟨s5, fs, hF5, hfl, hfn, hfs⟩
  rw [vn_len, List.length_cons, hxl] at hfl
  have s35 := sd.trans s5
  have hO5 := s35 _ _ hO3
  have huo5 := huo3.mono s35
  have hd5 := s5 _ _ hdd
  have hF3 : H3 F = none := sd.free hF
  have hfs3 : ∀ b ∈ fs, H3 b = none := fun b hb => sd.free (hfs b hb).1
  have hnw : ¬ (HT.sIx ((x0 :: xs).map vn).length 0 (some 1) = 0 ∧ HT.sIx ((x0 :: xs).map vn).length ((x0 :: xs).map vn).length none = ((x0 :: xs).map vn).length) := by
    have e : HT.sIx ((x0 :: xs).map vn).length 0 (some 1) = min 1 ((x0 :: xs).map vn).length := HT.sIx_nat _ 0 1
    rw [e, vn_len, List.length_cons]
    omega
  refine ⟨_, rfl, O, _, 0, _, rfl, rfl, hO5, ix_ref (i := 0) rfl, _, rfl, O, _, 0, _, rfl, rfl, hO5, ix_ref (i := 0) rfl, 1, rfl, uo, _, rfl, huo5.sq, hnw, fun z hz => ?_⟩
  rw [cut1]
  have ez : ((x0 :: xs).map vn).drop 1 = xs.map vn := rfl
  rw [ez]
  have s6 : Same H5 (upd H5 z (tupN xs)) := same_new hz
  have hz6 : upd H5 z (tupN xs) z = some (tupN xs) := upd_same
  generalize upd H5 z (tupN xs) = H6 at s6 hz6
  refine ⟨uo, z, _, _, rfl, .inr ⟨(huo5.mono s6).sq, SqT.of hz6, ?_⟩⟩
  refine for_it (walk_zipT (K := K) (a := uo) (b := z) (xs := (x0 :: xs).map vn) (ys := xs.map vn) (n := xs.length) (by rw [vn_len, vn_len, List.length_cons]; omega))
    (fun i σ H' => ∃ v5 v6 kvs, σ = [some (.ref a), some (.ref O), some (.ref S), some (.ref d), some (.ref F), v5, v6, none, none, none] ∧ Same H3 H' ∧ H' z = some (tupN xs) ∧ H' d = some (.dK kvs) ∧ kvs.length ≤ i + 1 ∧
      H' F = some (.lst (fs.map V.ref)) ∧ (∀ j b, fs[j]? = some b → H' b = some (lstN ((rs (bfOf (ps.map (·.2))) x0 xs i).2 j))) ∧ Chain kvs (x0 :: (rs (bfOf (ps.map (·.2))) x0 xs i).1).reverse)
    ⟨none, none, _, rfl, s35.trans s6, hz6, s6 _ _ hd5, Nat.le_refl _, s6 _ _ hF5, fun j b e => s6 _ _ (hfs b (List.mem_of_getElem? e)).2.2, (valV_pos rfl : valV [((.inl (x0 : Int) : Key), V.non)] (.inl (x0 : Int)) = some .non)⟩ (fun i σ H' _ ⟨_, _, _, _, s, hz', _⟩ => ⟨(huo3.mono s).sq, SqT.of hz'⟩) ?_ ?_
  · rintro i v σ H7 H8 hi ⟨v5, v6, kvs, rfl, s7, hz7, hd7, hk7, hF7, hf7, hC7⟩ ⟨T, y1, y2, rfl, hT, rfl, e1, e2⟩
    obtain ⟨nl, hnl, rfl⟩ := map_at e1
    obtain ⟨x, hx, rfl⟩ := map_at e2
    obtain ⟨f1, f2, f3, f4⟩ := rs_facts (bfOf (ps.map (·.2))) x0 xs i (by omega)
    rw [hnl] at f3
    have f3' := Option.some.inj f3
    have hrs := rs_succ (bf := bfOf (ps.map (·.2))) (x0 := x0) hx
    refine ⟨T, _, rfl, SqT.of upd_same, rfl, _, _, rfl, _, _, rfl, rfl, ?_⟩
    have s8 : Same H3 (upd H7 T (.tup [vn nl, vn x])) := same_mut s7 (s7.free hT)
    have hz8 := keep hT hz7 (u := .tup [vn nl, vn x])
    have hd8 := keep hT hd7 (u := .tup [vn nl, vn x])
    have hF8 := keep hT hF7 (u := .tup [vn nl, vn x])
    have hf8 : ∀ j b, fs[j]? = some b → upd H7 T (.tup [vn nl, vn x]) b = _ := fun j b e => keep hT (hf7 j b e) (u := .tup [vn nl, vn x])
    generalize upd H7 T (.tup [vn nl, vn x]) = H8 at s8 hz8 hd8 hF8 hf8
    generalize rs (bfOf (ps.map (·.2))) x0 xs i = r at f1 f2 f3' f4 hrs hf8 hC7
    have hxm : x ∈ xs := List.mem_of_getElem? hx
    have htl : ∀ y ∈ x0 :: r.1, y ∈ x0 :: xs := fun y hy => by
      rcases List.mem_cons.mp hy with g | g
      · rw [g]; simp
      · exact List.mem_cons_of_mem _ (List.mem_of_mem_take (f1 y g))
    have hxn : x ∉ x0 :: r.1 := fun hy => by
      have hnd' := List.nodup_cons.mp hnd
      rcases List.mem_cons.mp hy with g | g
      · rw [g] at hxm
        exact hnd'.1 hxm
      · exact nodup_take hnd'.2 hx (f1 x g)
    -- above[node] = parent_by_logs(..)
    refine ⟨_, rfl, _, rfl, _, rfl, _, rfl, d, S, kvs, ss, ps.map (·.2), n, x0, x, nl, r.1, rfl, hd8, s8 _ _ hS3, ⟨hSpots.1, fun i b l e1 e2 => s8 _ _ (hSpots.2 i b l e1 e2)⟩, f3', hC7, by omega, fun y hy => hmn y (htl y hy), hmn x (List.mem_cons_of_mem _ hxm), hpl, fun H9 s9 => ?_⟩
    have hd9 := s9 _ _ hd8
    have hF9 := s9 _ _ hF8
    have hz9 := s9 _ _ hz8
    have s39 := s8.trans s9
    generalize hp : lastOf x0 (r.1.takeWhile fun c => !bfOf (ps.map (·.2)) x c) = p at hrs ⊢
    have hpm : p ∈ x0 :: r.1 := by
      rw [← hp]
      rcases lastOf_mem x0 (r.1.takeWhile fun c => !bfOf (ps.map (·.2)) x c) with g | g
      · rw [g]; simp
      · exact List.mem_cons_of_mem _ (tw_mem g)
    have hpn := hmn p (htl p hpm)
    obtain ⟨bp, hbp⟩ : ∃ b, fs[p]? = some b := ⟨_, List.getElem?_eq_getElem (by rw [hfl]; exact hpn)⟩
    refine ⟨_, rfl, _, rfl, d, _, rfl, .inl ⟨kvs, .inl (x : Int), hd9, rfl, smallT (by omega), rfl⟩, ?_⟩
    have s10 : Same H3 (upd H9 d (.dK (putK kvs (.inl (x : Int)) (vn p)))) := same_mut s39 hd
    have hd10 : upd H9 d (.dK (putK kvs (.inl (x : Int)) (vn p))) d = some (.dK (putK kvs (.inl (x : Int)) (vn p))) := upd_same
    have dF : F ≠ d := ne_of hF9 hd9 (by intro q; cases q)
    have dz : z ≠ d := ne_of hz9 hd9 (by intro q; cases q)
    have hF10 := keepN dF hF9 (u := .dK (putK kvs (.inl (x : Int)) (vn p)))
    have hz10 := keepN dz hz9 (u := .dK (putK kvs (.inl (x : Int)) (vn p)))
    have hf10 : ∀ j b, fs[j]? = some b → upd H9 d (.dK (putK kvs (.inl (x : Int)) (vn p))) b = some (lstN (r.2 j)) := fun j b e => by
      have g := s9 _ _ (hf8 j b e)
      exact keepN (ne_of g hd9 (by intro q; cases q)) g
    generalize upd H9 d (.dK (putK kvs (.inl (x : Int)) (vn p))) = H10 at s10 hd10 hF10 hz10 hf10
    have hval : valV (putK kvs (.inl (x : Int)) (vn p)) (.inl (x : Int)) = some (vn p) := by rw [valV_put, if_pos rfl]
    have hb10 := hf10 p bp hbp
    have f4p := f4 p
    refine ⟨_, rfl, _, rfl, _, rfl, d, _, rfl, by rw [← hval]; exact DGet.k (k := .inl (x : Int)) hd10, F, _, _, _, rfl, rfl, hF10, ix_ref hbp, .inl ⟨rfl, _, SqL.of hb10⟩, _, rfl, bp, _, 0, _, rfl, rfl, hb10, smallT (by rw [vn_len]; omega), by decide, by decide, ?_⟩
    have hbF : bp ≠ F := (hfs bp (List.mem_of_getElem? hbp)).2.1
    have hbd : bp ≠ d := ne_of hb10 hd10 (by intro q; cases q)
    have hbz : bp ≠ z := ne_of hb10 hz10 (by intro q; cases q)
    refine ⟨_, _, putK kvs (.inl (x : Int)) (vn p), rfl, same_mut s10 (hfs3 bp (List.mem_of_getElem? hbp)), keepN (Ne.symm hbz) hz10, keepN (Ne.symm hbd) hd10, ?_, keepN (Ne.symm hbF) hF10, fun j b e => ?_, ?_⟩
    · have := putK_len kvs (.inl (x : Int)) (vn p)
      omega
    · rw [hrs]
      show _ = some (lstN (put r.2 (lastOf x0 (r.1.takeWhile fun c => !bfOf (ps.map (·.2)) x c)) x j))
      rw [hp]
      unfold put
      by_cases hjp : j = p
      · subst hjp
        rw [hbp] at e
        cases e
        rw [if_pos rfl, upd_same]
        rfl
      · rw [if_neg hjp]
        have : b ≠ bp := fun q => hjp (by
          subst q
          exact ((List.getElem?_inj (at_lt e) hfn).mp (by rw [e, hbp])))
        exact keepN this (hf10 j b e)
    · rw [hrs]
      show Chain _ (x0 :: (r.1.takeWhile (fun c => !bfOf (ps.map (·.2)) x c) ++ [x])).reverse
      obtain ⟨U, hU⟩ := tw_rev (fun c => !bfOf (ps.map (·.2)) x c) x0 r.1
      rw [hU] at hC7
      have hC8 := hC7.drop
      obtain ⟨rr, hrr⟩ := last_rev x0 (r.1.takeWhile fun c => !bfOf (ps.map (·.2)) x c)
      have e3 : (x0 :: (r.1.takeWhile (fun c => !bfOf (ps.map (·.2)) x c) ++ [x])).reverse = x :: (x0 :: r.1.takeWhile fun c => !bfOf (ps.map (·.2)) x c).reverse := by simp
      rw [e3]
      have hxw : x ∉ (x0 :: r.1.takeWhile fun c => !bfOf (ps.map (·.2)) x c).reverse := fun g => by
        rw [List.mem_reverse] at g
        rcases List.mem_cons.mp g with g | g
        · exact hxn (by rw [g]; simp)
        · exact hxn (List.mem_cons_of_mem _ (tw_mem g))
      have hC9 := hC8.put (v := vn p) hxw
      rw [hrr] at hC9 ⊢
      rw [hp] at hC9 ⊢
      exact ⟨hval, hC9⟩
  -- return
  rintro σ H7 ⟨v5, v6, kvs, rfl, s7, hz7, hd7, hk7, hF7, hf7, hC7⟩
  obtain ⟨f1, f2, f3, f4⟩ := rs_facts (bfOf (ps.map (·.2))) x0 xs xs.length (Nat.le_refl _)
  generalize rs (bfOf (ps.map (·.2))) x0 xs xs.length = r at hf7 hFT f4
  refine ⟨_, rfl, F, rfl, ⟨_, SqL.of hF7⟩, fun D2 hD2 => ?_⟩
  refine lc_list (K := K) (a := F) (xs := fs.map V.ref) (fun i H' => Same H7 H' ∧ ∃ us : List Addr, H' D2 = some (.lst (us.map V.ref)) ∧ us.length = i ∧ ∀ j b, us[j]? = some b → H' b = some (tupN (r.2 j)))
    ⟨same_new hD2, [], upd_same, rfl, fun j b e => (nil_at e).elim⟩ (fun i H' _ q => SqL.of (q.1 _ _ hF7)) ?_ ?_
  · rintro i y H8 hi ⟨s8, us, h1, h2, h3⟩
    obtain ⟨b, hb, rfl⟩ := map_at hi
    have hil := at_lt hb
    refine ⟨rfl, _, rfl, b, _, rfl, s8 _ _ (hf7 i b hb), fun u hu => ⟨_, keep hu h1, smallT (by rw [List.length_map]; omega), same_mut (s8.trans (same_new hu)) hD2, us ++ [u], by rw [upd_same, List.map_append]; rfl, by rw [List.length_append, h2]; rfl, fun j c e => ?_⟩⟩
    rcases Nat.lt_or_ge j us.length with hj | hj
    · rw [List.getElem?_append_left hj] at e
      exact keepT (keep hu h1) (keep hu (h3 j c e))
    · rw [List.getElem?_append_right hj] at e
      have hj0 : j - us.length = 0 := by
        have := at_lt e
        rw [List.length_singleton] at this
        omega
      rw [hj0] at e
      cases e
      have ej : j = i := by omega
      subst ej
      exact keepT (keep hu h1) upd_same
  · rintro H8 ⟨s8, us, h1, h2, h3⟩
    rw [List.length_map, hfl] at h2
    refine ⟨D2, _, rfl, h1, fun u hu => ?_⟩
    have s08 := (s03.trans s7).trans s8
    refine q (.ref u) _ (same_mut s08 (s08.free hu)) ⟨u, us, rfl, upd_same, ?_, fun i b e => ?_⟩
    · rw [hFT, arr_len, h2]
    · have hi : i < n := by rw [← h2]; exact at_lt e
      have eg : (FT ps).getD i [] = r.2 i := by rw [hFT]; exact gt_arr hi
      rw [eg]
      exact keep hu (h3 i b e)
end
end SF
end

/-! SFg5 -/
section
set_option Elab.async false
set_option linter.all false
set_option maxRecDepth 100000
set_option maxHeartbeats 4000000
/-! tree_from_logs. -/
namespace SF
open PySem PySem.Spec L2
open PyProof.Rows hiding St

section
variable {P : Program} {w : World} {K : PySem.W.Frag} {mg : Str → Option Value} {base : Heap}
theorem d_tree_from_logs (R : Raw K mg "tree_from_logs" s_tree_from_logs) (D_first_difference_of : Def P w K mg base 1 "first_difference_of" ["one", "other"] sp_first_difference_of) (D_forced_by_logs : Def P w K mg base 3 "forced_by_logs" ["logs"] sp_forced_by_logs) (D_log_of : DefK P w K mg base 3 "log_of" ["tree", "limit"] 1 ["limit"] sp_log) (D_require_logs : Def P w K mg base 5 "require_logs" ["logs"] sp_require_logs) :
    Def P w K mg base 6 "tree_from_logs" ["logs"] sp_tree_from_logs := by
  refine R.made sc_tree_from_logs (fun vs H Q E h => ?_) (fun _ _ _ _ _ _ us hl => match us, hl with | [_], _ => rfl) fun f cdv A outer s H vs Q E hr h => ?_
  · obtain ⟨v, ps, n, rfl, _⟩ := h
    rfl
  obtain ⟨v, ps, n, rfl, hP, hV, q⟩ := h
  have hP0 := hP
  obtain ⟨a, qs, rfl, ha, hps⟩ := hP
  have hu64 := hr.units
  have hr_first_difference_of : Room 1 _ := hr.mono (by decide)
  have hr_forced_by_logs : Room 3 _ := hr.mono (by decide)
  have hr_log_of : Room 3 _ := hr.mono (by decide)
  have hr_require_logs : Room 5 _ := hr.mono (by decide)
  refine ⟨_, pss_cons (ps_expr (pe_fn D_require_logs hr_require_logs (by rfl) (pa_cons (pv 0) pa_nil)))
    (pss_cons (ps_set (i := 1) sc_tree_from_logs.nd rfl (Or.inl rfl) (pe_fn D_forced_by_logs hr_forced_by_logs (by rfl) (pa_cons (pv 0) pa_nil)))
    (pss_cons (ps_for PassesOwn.never rfl (pi_sqU mono_var (pv 0)) (pg_tup (by rfl) (pgs_cons (pg_name (i := 2) sc_tree_from_logs.nd rfl (Or.inl rfl)) (pgs_cons (pg_name (i := 3) sc_tree_from_logs.nd rfl (Or.inl rfl)) pgs_nil))) (pss_cons (ps_set (i := 4) sc_tree_from_logs.nd rfl (Or.inl rfl) (pe_fnK D_log_of hr_log_of (by rfl) (pa_cons (pv 1) pa_nil) (pk_cons (pv 2) pk_nil)))
      (pss_one (ps_if (pt_cmpR (op_neT hu64) (pv 4) (pv 3) (nomark _)) (pss_one (ps_ret (pe_tup (pa_cons pe_str (pa_cons (pv 2) (pa_cons (pe_fn D_first_difference_of hr_first_difference_of (by rfl) (pa_cons (pv 4) (pa_cons (pv 3) pa_nil))) pa_nil)))))) pss_nil))))
    (pss_one (ps_ret (pe_tup (pa_cons pe_str (pa_cons (pv 1) pa_nil))))))), ?_⟩
  have hlen : (qs.map V.ref).length = ps.length := by rw [List.length_map]; exact hps.1
  obtain ⟨r, k, hR, hRn⟩ := hV.rep
  have h40 := hV.size
  refine ⟨_, rfl, .ref a, ps, n, rfl, hP0, hV, fun H1 s1 => ?_⟩
  refine ⟨_, rfl, .ref a, ps, n, rfl, hP0.same s1, hV, fun u H2 s2 hu => ?_⟩
  have s02 := s1.trans s2
  refine ⟨_, rfl, a, _, rfl, ha.imp (s02 _ _) (s02 _ _), fun J G wk hG => ?_⟩
  refine for_it wk (fun i σ H' => ∃ v2 v3 v4, σ = [some (.ref a), some u, v2, v3, v4] ∧ Same H2 H' ∧ ∀ p ∈ ps.take i, logT p.1 (FT ps) = p.2)
    ⟨none, none, none, rfl, Same.refl _, fun p hp => by cases hp⟩ (fun i σ H' _ ⟨_, _, _, _, s, _⟩ => hG H' fun o e => s _ _ e) ?_ ?_
  · rintro i y σ H3 _ hlt0 ⟨v2, v3, v4, rfl, s3, hb⟩ ⟨rfl, hi⟩
    obtain ⟨q1, hqi, rfl⟩ := map_at hi
    have hi' : i < ps.length := by rw [← hps.1]; exact at_lt hqi
    obtain ⟨pi, hpi⟩ : ∃ pi, ps[i]? = some pi := ⟨_, List.getElem?_eq_getElem hi'⟩
    obtain ⟨q2, u2, ho2, ht2, hq2, hq2t, hu2⟩ := hps.at hpi
    rw [hqi] at hq2
    cases hq2
    have hmem := List.mem_of_getElem? hpi
    have hpp := hV.perms.perm pi hmem
    have s03 := s02.trans s3
    refine ⟨q1, _, rfl, SqT.of (s03 _ _ hq2t), rfl, _, _, rfl, _, _, rfl, rfl, ?_⟩
    refine ⟨_, rfl, _, rfl, rfl, rfl, u, FT ps, r, k, pi.1, rfl, hu.mono (tk_same s3), hR, by omega, (hV.lim pi hmem).1, fun w2 H4 s4 hw => ?_⟩
    obtain ⟨uo, rfl, huo⟩ := hw
    rw [← logT_eq hR] at huo
    have s04 := s03.trans s4
    refine ⟨_, rfl, _, rfl, uo, u2, _, _, rfl, rfl, lg_tup huo, ⟨ho2, ht2, s04 _ _ hu2⟩, _, rfl, ?_⟩
    by_cases e : logT pi.1 (FT ps) = pi.2
    · rw [decide_eq_true e]
      refine iteF ⟨_, _, _, rfl, s3.trans s4, fun p hp => ?_⟩
      rw [take_snoc hpi] at hp
      rcases List.mem_append.mp hp with g | g
      · exact hb p g
      · rw [List.mem_singleton.mp g]
        exact e
    · rw [decide_eq_false e]
      refine iteT ?_
      have hl1 := perm_len (logT_perm hR pi.1)
      have hl2 := perm_len hpp
      refine ⟨_, rfl, _, rfl, _, rfl, uo, u2, _, _, rfl, lg_tup huo, ⟨ho2, ht2, s04 _ _ hu2⟩, by omega, by omega, e, fun H5 s5 => ⟨(by show 3 ≤ sizeLine; decide), fun p hp => ?_⟩⟩
      have s05 := s04.trans s5
      refine q (.ref p) _ (same_mut s05 (s05.free hp)) ?_
      have hf : ps.find? (fun p => !decide (logT p.1 (FT ps) = p.2)) = some pi := by
        have e2 : ps = ps.take i ++ pi :: ps.drop (i + 1) := by
          have e3 : ps.take (i + 1) ++ ps.drop (i + 1) = ps := List.take_append_drop _ _
          rw [take_snoc hpi, List.append_assoc] at e3
          exact e3.symm
        have e4 : (ps.take i).find? (fun p => !decide (logT p.1 (FT ps) = p.2)) = none := by
          rw [List.find?_eq_none]
          intro p hp
          rw [hb p hp]
          simp
        generalize FT ps = t at e4 e ⊢
        rw [e2, List.find?_append, e4, List.find?_cons]
        simp [e]
      unfold resOf
      rw [hf]
      exact ⟨p, rfl, upd_same⟩
  · rintro σ H3 ⟨v2, v3, v4, rfl, s3, hb⟩
    rw [hlen, List.take_length] at hb
    refine ⟨_, rfl, (by show 2 ≤ sizeLine; decide), fun p hp => ?_⟩
    have s03 := s02.trans s3
    refine q (.ref p) _ (same_mut s03 (s03.free hp)) ?_
    have hf : ps.find? (fun p => !decide (logT p.1 (FT ps) = p.2)) = none := by
      rw [List.find?_eq_none]
      intro p hp
      rw [hb p hp]
      simp
    unfold resOf
    rw [hf]
    exact ⟨p, u, rfl, upd_same, (hu.mono (tk_same s3)).mono (tk_new hp)⟩
theorem d_tree_from_logs_kw (R : Raw K mg "tree_from_logs" s_tree_from_logs) (D_first_difference_of : Def P w K mg base 1 "first_difference_of" ["one", "other"] sp_first_difference_of) (D_forced_by_logs : Def P w K mg base 3 "forced_by_logs" ["logs"] sp_forced_by_logs) (D_log_of : DefK P w K mg base 3 "log_of" ["tree", "limit"] 1 ["limit"] sp_log) (D_require_logs : Def P w K mg base 5 "require_logs" ["logs"] sp_require_logs) :
    DefK P w K mg base 6 "tree_from_logs" ["logs"] 0 ["logs"] sp_tree_from_logs := by
  refine R.madeK sc_tree_from_logs (fun vs H Q E h => ?_) (fun _ _ _ _ _ _ us ws hl hw => match us, ws, hl, hw with | [], [_], _, _ => rfl) fun f cdv A outer s H vs Q E hr h => ?_
  · obtain ⟨v, ps, n, rfl, _⟩ := h
    rfl
  obtain ⟨v, ps, n, rfl, hP, hV, q⟩ := h
  have hP0 := hP
  obtain ⟨a, qs, rfl, ha, hps⟩ := hP
  have hu64 := hr.units
  have hr_first_difference_of : Room 1 _ := hr.mono (by decide)
  have hr_forced_by_logs : Room 3 _ := hr.mono (by decide)
  have hr_log_of : Room 3 _ := hr.mono (by decide)
  have hr_require_logs : Room 5 _ := hr.mono (by decide)
  refine ⟨_, pss_cons (ps_expr (pe_fn D_require_logs hr_require_logs (by rfl) (pa_cons (pv 0) pa_nil)))
    (pss_cons (ps_set (i := 1) sc_tree_from_logs.nd rfl (Or.inl rfl) (pe_fn D_forced_by_logs hr_forced_by_logs (by rfl) (pa_cons (pv 0) pa_nil)))
    (pss_cons (ps_for PassesOwn.never rfl (pi_sqU mono_var (pv 0)) (pg_tup (by rfl) (pgs_cons (pg_name (i := 2) sc_tree_from_logs.nd rfl (Or.inl rfl)) (pgs_cons (pg_name (i := 3) sc_tree_from_logs.nd rfl (Or.inl rfl)) pgs_nil))) (pss_cons (ps_set (i := 4) sc_tree_from_logs.nd rfl (Or.inl rfl) (pe_fnK D_log_of hr_log_of (by rfl) (pa_cons (pv 1) pa_nil) (pk_cons (pv 2) pk_nil)))
      (pss_one (ps_if (pt_cmpR (op_neT hu64) (pv 4) (pv 3) (nomark _)) (pss_one (ps_ret (pe_tup (pa_cons pe_str (pa_cons (pv 2) (pa_cons (pe_fn D_first_difference_of hr_first_difference_of (by rfl) (pa_cons (pv 4) (pa_cons (pv 3) pa_nil))) pa_nil)))))) pss_nil))))
    (pss_one (ps_ret (pe_tup (pa_cons pe_str (pa_cons (pv 1) pa_nil))))))), ?_⟩
  have hlen : (qs.map V.ref).length = ps.length := by rw [List.length_map]; exact hps.1
  obtain ⟨r, k, hR, hRn⟩ := hV.rep
  have h40 := hV.size
  refine ⟨_, rfl, .ref a, ps, n, rfl, hP0, hV, fun H1 s1 => ?_⟩
  refine ⟨_, rfl, .ref a, ps, n, rfl, hP0.same s1, hV, fun u H2 s2 hu => ?_⟩
  have s02 := s1.trans s2
  refine ⟨_, rfl, a, _, rfl, ha.imp (s02 _ _) (s02 _ _), fun J G wk hG => ?_⟩
  refine for_it wk (fun i σ H' => ∃ v2 v3 v4, σ = [some (.ref a), some u, v2, v3, v4] ∧ Same H2 H' ∧ ∀ p ∈ ps.take i, logT p.1 (FT ps) = p.2)
    ⟨none, none, none, rfl, Same.refl _, fun p hp => by cases hp⟩ (fun i σ H' _ ⟨_, _, _, _, s, _⟩ => hG H' fun o e => s _ _ e) ?_ ?_
  · rintro i y σ H3 _ hlt0 ⟨v2, v3, v4, rfl, s3, hb⟩ ⟨rfl, hi⟩
    obtain ⟨q1, hqi, rfl⟩ := map_at hi
    have hi' : i < ps.length := by rw [← hps.1]; exact at_lt hqi
    obtain ⟨pi, hpi⟩ : ∃ pi, ps[i]? = some pi := ⟨_, List.getElem?_eq_getElem hi'⟩
    obtain ⟨q2, u2, ho2, ht2, hq2, hq2t, hu2⟩ := hps.at hpi
    rw [hqi] at hq2
    cases hq2
    have hmem := List.mem_of_getElem? hpi
    have hpp := hV.perms.perm pi hmem
    have s03 := s02.trans s3
    refine ⟨q1, _, rfl, SqT.of (s03 _ _ hq2t), rfl, _, _, rfl, _, _, rfl, rfl, ?_⟩
    refine ⟨_, rfl, _, rfl, rfl, rfl, u, FT ps, r, k, pi.1, rfl, hu.mono (tk_same s3), hR, by omega, (hV.lim pi hmem).1, fun w2 H4 s4 hw => ?_⟩
    obtain ⟨uo, rfl, huo⟩ := hw
    rw [← logT_eq hR] at huo
    have s04 := s03.trans s4
    refine ⟨_, rfl, _, rfl, uo, u2, _, _, rfl, rfl, lg_tup huo, ⟨ho2, ht2, s04 _ _ hu2⟩, _, rfl, ?_⟩
    by_cases e : logT pi.1 (FT ps) = pi.2
    · rw [decide_eq_true e]
      refine iteF ⟨_, _, _, rfl, s3.trans s4, fun p hp => ?_⟩
      rw [take_snoc hpi] at hp
      rcases List.mem_append.mp hp with g | g
      · exact hb p g
      · rw [List.mem_singleton.mp g]
        exact e
    · rw [decide_eq_false e]
      refine iteT ?_
      have hl1 := perm_len (logT_perm hR pi.1)
      have hl2 := perm_len hpp
      refine ⟨_, rfl, _, rfl, _, rfl, uo, u2, _, _, rfl, lg_tup huo, ⟨ho2, ht2, s04 _ _ hu2⟩, by omega, by omega, e, fun H5 s5 => ⟨(by show 3 ≤ sizeLine; decide), fun p hp => ?_⟩⟩
      have s05 := s04.trans s5
      refine q (.ref p) _ (same_mut s05 (s05.free hp)) ?_
      have hf : ps.find? (fun p => !decide (logT p.1 (FT ps) = p.2)) = some pi := by
        have e2 : ps = ps.take i ++ pi :: ps.drop (i + 1) := by
          have e3 : ps.take (i + 1) ++ ps.drop (i + 1) = ps := List.take_append_drop _ _
          rw [take_snoc hpi, List.append_assoc] at e3
          exact e3.symm
        have e4 : (ps.take i).find? (fun p => !decide (logT p.1 (FT ps) = p.2)) = none := by
          rw [List.find?_eq_none]
          intro p hp
          rw [hb p hp]
          simp
        generalize FT ps = t at e4 e ⊢
        rw [e2, List.find?_append, e4, List.find?_cons]
        simp [e]
      unfold resOf
      rw [hf]
      exact ⟨p, rfl, upd_same⟩
  · rintro σ H3 ⟨v2, v3, v4, rfl, s3, hb⟩
    rw [hlen, List.take_length] at hb
    refine ⟨_, rfl, (by show 2 ≤ sizeLine; decide), fun p hp => ?_⟩
    have s03 := s02.trans s3
    refine q (.ref p) _ (same_mut s03 (s03.free hp)) ?_
    have hf : ps.find? (fun p => !decide (logT p.1 (FT ps) = p.2)) = none := by
      rw [List.find?_eq_none]
      intro p hp
      rw [hb p hp]
      simp
    unfold resOf
    rw [hf]
    exact ⟨p, u, rfl, upd_same, (hu.mono (tk_same s3)).mono (tk_new hp)⟩
end
end SF
end

/-! SFk2 -/
section
set_option Elab.async false
set_option linter.all false
set_option maxRecDepth 100000
set_option maxHeartbeats 4000000
/-! Methods in a comprehension's block; tuples whose object is known. -/
namespace SF
open PySem PySem.Spec L2
open PyProof.Rows hiding St

section
variable {X : Cx} {o e : Expr} {es : List Expr} {to : TE} {t : TA} {name : Str} {apos cpos : Pos} {id : String} {r : V → List V → Hp → VK → Prop}
def tBML (r : V → List V → Hp → VK → Prop) (to : TE) (t : TA) : TE := fun σ H Q => to σ H fun x H1 => (∃ p xs, x = .ref p ∧ H1 p = some (.lst xs)) ∧ t σ H1 fun xs H2 => r x xs H2 Q
theorem pe_bmL (slot : Slot "list" name id) (hty : typeOf (.builtin id) = pure (.type "method_descriptor")) (hm : MtR X id r) (ho : PE X o to) (ha : PA X (e :: es) t)
    (hbase : attributeBase o name X.env (eval o X.env) = eval o X.env := by rfl)
    (hfew : ((backTo cpos (starEach (e :: es) X.env)).all (fun x => !x.1) && (backToKw cpos (keywordEach [] X.env)).all (fun x => x.1.isSome)
      && decide ((e :: es).length + ([] : List Keyword).length + (if ([] : List Keyword).isEmpty then 0 else 1) < 30)) = true := by rfl)
    (hline : (apos.endLine == cpos.line) = true := by rfl) (hs : starEach (e :: es) X.env = (false, eval e X.env) :: starEach es X.env := by rfl) (hplain : (backTo cpos (starEach es X.env)).any (·.1) = false := by rfl) :
    PE X (.Call (.Attribute o name apos) (e :: es) [] cpos) (tBML r to t) := by
  refine ⟨fun pins s σ H Q I h => ?_⟩
  refine wpAny_Call_method_late hbase hfew hline rfl (thn (ho.run pins s σ H _ I h) fun v s1 ⟨x, H1, I1, r1, ⟨p, xs, e1, e2⟩, q1⟩ => ?_)
  have ty : tyV X.K "list" x H1 := by subst e1; exact .inl ⟨rfl, xs, SqL.of e2⟩
  obtain ⟨h1, h2⟩ := tyV_is I1 r1 ty
  refine ⟨"list", id, PySem.F.plainAttrs_list, slot, hty, h1, h2, ?_⟩
  have hA := ha.run cpos pins s1 σ H1 _ I1 q1
  rw [hs] at hA ⊢
  refine Calls.callWith_builtin (by show (false || (backTo cpos (starEach es X.env)).any (·.1)) = false; rw [hplain] <;> rfl) (Calls.evalArgs_plain ?_)
  exact thn hA fun us s2 ⟨vs, H2, I2, r2, q2⟩ => hm pins s2 σ H2 x vs v us Q I2 r1 r2 q2
/-- a method of a tuple whose object is known -/
def tBMT (r : V → List V → Hp → VK → Prop) (to : TE) (t : TA) : TE := fun σ H Q => to σ H fun x H1 => (∃ p l ho, x = .ref p ∧ Lz l ho ∧ H1 p = some ho) ∧ t σ H1 fun xs H2 => r x xs H2 Q
theorem pe_bmT (slot : Slot "tuple" name id) (hty : typeOf (.builtin id) = pure (.type "method_descriptor")) (hm : MtR X id r) (ho : PE X o to) (ha : PA X (e :: es) t)
    (hbase : attributeBase o name X.env (eval o X.env) = eval o X.env := by rfl)
    (hfew : ((backTo cpos (starEach (e :: es) X.env)).all (fun x => !x.1) && (backToKw cpos (keywordEach [] X.env)).all (fun x => x.1.isSome)
      && decide ((e :: es).length + ([] : List Keyword).length + (if ([] : List Keyword).isEmpty then 0 else 1) < 30)) = true := by rfl)
    (hline : (apos.endLine == cpos.line) = true := by rfl) (hs : starEach (e :: es) X.env = (false, eval e X.env) :: starEach es X.env := by rfl) (hplain : (backTo cpos (starEach es X.env)).any (·.1) = false := by rfl) :
    PE X (.Call (.Attribute o name apos) (e :: es) [] cpos) (tBMT r to t) := by
  refine ⟨fun pins s σ H Q I h => ?_⟩
  refine wpAny_Call_method_late hbase hfew hline rfl (thn (ho.run pins s σ H _ I h) fun v s1 ⟨x, H1, I1, r1, ⟨p, l, ho, e1, ⟨u, hc, hd, e0⟩, e2⟩, q1⟩ => ?_)
  subst e0
  subst e1
  have hu : s1.heap.get? p = some u := (I1.hok p _ e2).1
  have r1' := r1
  cases r1'
  refine ⟨"tuple", id, PySem.F.plainAttrs_tuple, slot, hty, ⟨u, hu, hc⟩, fun a ea => ?_, ?_⟩
  · cases ea
    exact ⟨u, hu, hd⟩
  have hA := ha.run cpos pins s1 σ H1 _ I1 q1
  rw [hs] at hA ⊢
  refine Calls.callWith_builtin (by show (false || (backTo cpos (starEach es X.env)).any (·.1)) = false; rw [hplain] <;> rfl) (Calls.evalArgs_plain ?_)
  exact thn hA fun us s2 ⟨vs, H2, I2, r2, q2⟩ => hm pins s2 σ H2 _ vs _ us Q I2 r1 r2 q2
/-- t.index(n), the first place -/
def rTIx : V → List V → Hp → VK → Prop := fun x vs H Q => ∃ (p : Addr) (l : List Nat) (n j : Nat), x = .ref p ∧ vs = [vn n] ∧ Lg H p l ∧ l[j]? = some n ∧ (∀ m, m < j → l[m]? ≠ some n) ∧ Q (vn j) H
theorem mt_tindex : MtR X "tuple.index" rTIx := by
  intro pins s σ H x xs v us Q I rx rs h
  obtain ⟨p, l, n, j, rfl, rfl, hq, hy, hno, q⟩ := h
  cases rx
  obtain ⟨u, rfl, t, rfl⟩ := vals1 rs
  obtain ⟨its, r, pl, hz⟩ := I.tuple hq.sq
  obtain ⟨⟨cls, dd, dt, sl⟩, ho, hc, nn, hd⟩ := pl
  simp only at hc hd
  subst hc
  subst hd
  have hl : its.toArray.size = l.length := by rw [List.size_toArray, ← r.length, List.length_map]
  have hj : j < its.toArray.size := by rw [hl]; exact (List.getElem?_eq_some_iff.mp hy).1
  have at' : ∀ (m : Nat) (hm : m < its.toArray.size), ∃ y t', l[m]? = some y ∧ its.toArray[m] = Value.int (y : Int) t' := fun m hm => by
    have hm' : m < l.length := by rw [← hl]; exact hm
    obtain ⟨w, hw, t', hw'⟩ := r.get (i := m) (x := vn l[m]) (by simp [hm'])
    refine ⟨l[m], t', List.getElem?_eq_getElem hm', ?_⟩
    have e := (List.getElem?_eq_some_iff.mp hw).2
    rw [← hw', ← e]
    simp
  refine call_meets PySem.F.slot_tuple_index ⟨_, ho, rfl⟩ PySem.F.entry_tuple_index (PySem.F.args_tuple_index_2 _ _) (TI.tuple_indexAt p its.toArray nn dd sl (.int (n : Int) t) (eqU (vn n)) j hj ?_ ?_)
    ⟨ho, fun w hw => mem_eqAt (x := vn n) ⟨t, rfl⟩ rfl r (flat_vn l) w (by simpa using hw), ⟨.int (j : Nat), H, I.tok _, ⟨_, rfl⟩, q⟩⟩
  · obtain ⟨y, t', h1, h2⟩ := at' j hj
    rw [hy] at h1
    cases h1
    rw [h2]
    show eqV (vn n) (vn n) = true
    rw [eqV_nn]
    simp
  · intro m hm2 hm
    obtain ⟨y, t', h1, h2⟩ := at' m hm2
    rw [h2]
    show eqV (vn y) (vn n) = false
    rw [eqV_nn]
    refine decide_eq_false fun e => hno m hm ?_
    rw [h1, e]
/-- tuple(list): the new object is known -/
def rTupleZ : List V → Hp → VK → Prop := fun xs H Q => ∃ p l, xs = [.ref p] ∧ H p = some (lstN l) ∧ ∀ a ho, Lz l ho → H a = none → Q (.ref a) (upd H a ho)
theorem call_tupleZ : CallR X (.type "tuple") rTupleZ := by
  intro pins s σ H xs us Q I r h
  obtain ⟨p, l, rfl, hp, q⟩ := h
  obtain ⟨u, rfl, rx⟩ := vals1 r
  cases rx
  obtain ⟨its, r', pl, hz⟩ := I.list (SqL.of hp)
  have hlen := r'.length
  refine call_tuple_list pl.isList (fun h' kp => ?_) (by simp only [List.size_toArray] <;> omega)
  have I1 : Inv X pins σ H { s with heap := h' } := I.kept (t' := s.toks) kp
  have I2 : Inv X pins σ (upd H h'.objs.size (.frz { cls := .type "tuple", data := .seq its.toArray } (tupN l))) { s with heap := h'.push { cls := .type "tuple", data := .seq its.toArray } } :=
    I1.laid (t' := s.toks) (fun b o e => Heap.get?_push_of_some _ e) (Nat.le_refl _) (show ObjOk X.prog X.w _ _ _ (.frz _ (tupN l)) from ⟨Heap.get?_push_size _ rfl, hz, its, r', IsTup.new _ _⟩)
  exact ⟨.ref h'.objs.size, _, I2, rfl, q _ _ ⟨_, rfl, rfl, rfl⟩ (I1.hok.fresh (Nat.le_refl _))⟩
end
end SF
end

/-! SFh1 -/
section
set_option Elab.async false
set_option linter.all false
set_option maxRecDepth 100000
set_option maxHeartbeats 4000000
/-! _law_source, _law_draw, _law_permutation, _law_size. -/
namespace SF
open PySem PySem.Spec L2
open PyProof.Rows hiding St

/-- D is not the list of the source's cells -/
def NotIn (H : Hp) (S D : Addr) : Prop := ∃ C pl re, H S = some (.lst [.ref C, vn pl, vn re]) ∧ C ≠ D
theorem Src.notIn {H : Hp} {S : Addr} {N : Nat} (h : Src H S N) {D : Addr} (hD : H D = none) : NotIn H S D := let ⟨C, _, pl, re, h1, h2, _⟩ := h; ⟨C, pl, re, h1, ne_of_none h2 hD⟩
theorem NotIn.put {H : Hp} {S D E : Addr} {o : HO} (h : NotIn H S D) (e : E ≠ S) : NotIn (upd H E o) S D := let ⟨C, pl, re, h1, h2⟩ := h; ⟨C, pl, re, keepN (Ne.symm e) h1, h2⟩
theorem NotIn.dr {H H' : Hp} {S D : Addr} (h : NotIn H S D) (d : Dr S H H') : NotIn H' S D := let ⟨C, pl, re, h1, h2⟩ := h; let ⟨a', b', e⟩ := d.cell C pl re h1; ⟨C, a', b', e, h2⟩
theorem Src.put {H : Hp} {S D : Addr} {N : Nat} {o : HO} (h : Src H S N) (n : NotIn H S D) (e : D ≠ S) : Src (upd H D o) S N := by
  obtain ⟨C, cells, pl, re, h1, h2, h3⟩ := h
  obtain ⟨C', pl', re', g1, g2⟩ := n
  rw [h1] at g1
  injection g1 with g1
  injection g1 with g1
  injection g1 with g1
  injection g1 with g1
  subst g1
  exact ⟨C, cells, pl, re, keepN (Ne.symm e) h1, keepN g2 h2, h3⟩
theorem Src.new {H : Hp} {S D : Addr} {N : Nat} {o : HO} (h : Src H S N) (hD : H D = none) : Src (upd H D o) S N := let ⟨C, cells, pl, re, h1, h2, h3⟩ := h; ⟨C, cells, pl, re, keep hD h1, keep hD h2, h3⟩
theorem Src.same {H H' : Hp} {S : Addr} {N : Nat} (h : Src H S N) (k : Same H H') : Src H' S N := let ⟨C, cells, pl, re, h1, h2, h3⟩ := h; ⟨C, cells, pl, re, k _ _ h1, k _ _ h2, h3⟩
theorem Src.le {H : Hp} {S : Addr} {N M : Nat} (h : Src H S N) (l : N ≤ M) : Src H S M := let ⟨C, cells, pl, re, h1, h2, h3, h4⟩ := h; ⟨C, cells, pl, re, h1, h2, h3, Nat.le_trans h4 l⟩
theorem Src.at {H : Hp} {S : Addr} {N : Nat} (h : Src H S N) : ∃ o, H S = some o := let ⟨_, _, _, _, h1, _⟩ := h; ⟨_, h1⟩
theorem perm_erase {l : List Nat} : ∀ {v y : Nat}, l[v]? = some y → l.Perm (y :: l.eraseIdx v) := by
  induction l with
  | nil => intro v y h; simp at h
  | cons x l ih =>
    intro v y h
    cases v with
    | zero =>
      have : x = y := by simpa using h
      subst this
      simp
    | succ v =>
      rw [List.eraseIdx_cons_succ]
      exact ((ih (by simpa using h)).cons x).trans (List.Perm.swap y x _)
theorem erase_map {α β : Type} (f : α → β) : ∀ (l : List α) (i : Nat), (l.map f).eraseIdx i = (l.eraseIdx i).map f
  | [], _ => rfl
  | _ :: _, 0 => rfl
  | x :: l, i + 1 => by rw [List.map_cons, List.eraseIdx_cons_succ, List.eraseIdx_cons_succ, List.map_cons, erase_map f l i]
theorem cutTo (xs : List V) (k : Nat) : cutV xs none (some (k : Int)) = xs.take k := by
  unfold cutV
  rw [HT.sIx_none, HT.sIx_nat, List.drop_zero, Nat.sub_zero]
  rcases Nat.le_total k xs.length with h | h
  · rw [Nat.min_eq_left h]
  · rw [Nat.min_eq_right h, List.take_length, List.take_of_length_le h]
theorem rg_nat (n : Nat) : rgV 0 (n : Int) = (List.range n).map vn := by
  unfold rgV
  have e : ((n : Int) - 0).toNat = n := by omega
  rw [e]
  refine List.map_congr_left fun i _ => ?_
  show V.int (0 + (i : Int)) = V.int (i : Int)
  rw [Int.zero_add]
abbrev dZ (l : List Int) : List PyData := l.map PyData.int
theorem dp_zs {K : PySem.W.Frag} {H : Hp} : ∀ l : List Int, DpAll K H (l.map V.int) (dZ l)
  | [] => .nil
  | x :: l => .cons (.int _) (dp_zs l)
theorem lay_dZ : ∀ l : List Int, PyData.canLayAll0 (dZ l) = true
  | [] => rfl
  | x :: l => by
    show (PyData.canLay0 (.int x) && PyData.canLayAll0 (dZ l)) = true
    rw [lay_dZ l]
    rfl
theorem depth_dZ : ∀ l : List Int, PyData.depthAll (dZ l) = 0
  | [] => rfl
  | x :: l => by
    show max (PyData.depth (.int x)) (PyData.depthAll (dZ l)) = 0
    rw [depth_dZ l]
    rfl
theorem shaped_zs (l : List Int) : SeqAt.shaped (.list (dZ l)) = true := by
  unfold SeqAt.shaped
  simp only [PyData.canLay0, PyData.depth, lay_dZ, depth_dZ]
  decide
theorem nat_of {z : Int} (h : 0 ≤ z) : V.int z = vn z.toNat := by
  show V.int z = V.int (z.toNat : Int)
  rw [Int.toNat_of_nonneg h]
section
variable {P : Program} {w : World} {K : PySem.W.Frag} {mg : Str → Option Value} {base : Heap}
theorem d_Lsource (R : Raw K mg "_law_source" s_Lsource) (T : Txt mg) :
    Def P w K mg base 1 "_law_source" ["_law_script"] (sp_source K) := by
  refine R.made sc_Lsource (fun vs H Q E h => ?_) (fun _ _ _ _ _ _ us hl => match us, hl with | [_], _ => rfl) fun f cdv A outer s H vs Q E hr h => ?_
  · obtain ⟨a, ns, rfl, _⟩ := h
    rfl
  obtain ⟨a, ns, rfl, hs, hl, q⟩ := h
  refine ⟨_, pss_one (ps_ret (pe_lst (pa_cons (pe_callTy call_listF (by rfl) T.list (by decide +kernel) (pa_cons (pe_slice sl_list (pv 0) po_none (po_some pe_int)) pa_nil)) (pa_cons pe_int (pa_cons pe_int pa_nil))))), ?_⟩
  refine ⟨_, rfl, 63, rfl, a, _, rfl, hs, fun p hp => ⟨p, _, rfl, .inl upd_same, fun l hl2 => ⟨(by show 3 ≤ sizeLine; decide), fun S hS => ?_⟩⟩⟩
  have e : cutV (ns.map V.int) none (some 63) = ns.map V.int := by
    have := cutTo (ns.map V.int) 63
    rw [List.take_of_length_le (by rw [List.length_map]; exact hl)] at this
    exact this
  rw [e] at hl2 hS ⊢
  have s1 : Same H (upd (upd H p (.lst (ns.map V.int))) l (.lst (ns.map V.int))) := same_mut (same_new hp) ((same_new hp).free hl2)
  refine q S _ (s1.free hS) (same_mut s1 (s1.free hS)) ⟨l, ns, 0, 0, upd_same, keep hS upd_same, hl, Nat.zero_le _⟩
theorem d_Ldraw (R : Raw K mg "_law_draw" s_Ldraw) (T : Txt mg) :
    Def P w K mg base 1 "_law_draw" ["_law_source_here", "_law_bound"] sp_draw := by
  refine R.made sc_Ldraw (fun vs H Q E h => ?_) (fun _ _ _ _ _ _ us hl => match us, hl with | [_, _], _ => rfl) fun f cdv A outer s H vs Q E hr h => ?_
  · obtain ⟨S, N, b, rfl, _⟩ := h
    rfl
  obtain ⟨S, N, b, rfl, ⟨C, cells, place, rest, hS, hC, hlen, hplace⟩, hN, hb1, hb2, q⟩ := h
  have hu64 := hr.units
  refine ⟨_, pss_cons (ps_if (pt_cmpR op_gt (pe_ix ix_l (pv 0) pe_int (fun _ _ => rfl)) pe_int (nomark _)) (pss_cons (ps_set (i := 2) sc_Ldraw.nd rfl (Or.inl rfl) (pe_op op_mod (pe_ix ix_l (pv 0) pe_int (fun _ _ => rfl)) (pv 1)))
      (pss_cons (ps_asg (pe_op op_fdivW (pe_ix ix_l (pv 0) pe_int (fun _ _ => rfl)) (pv 1)) (pg_sub (pv 0) pe_int set_list))
      (pss_one (ps_ret (pv 2))))) pss_nil)
    (pss_cons (ps_set (i := 3) sc_Ldraw.nd rfl (Or.inl rfl) (pe_ix ix_l (pv 0) pe_int (fun _ _ => rfl)))
    (pss_cons (ps_asg (pe_op op_add (pv 3) pe_int) (pg_sub (pv 0) pe_int set_list))
    (pss_cons (ps_set (i := 4) sc_Ldraw.nd rfl (Or.inl rfl) (pe_op op_add (pe_op op_mul pe_int (pv 3)) pe_int))
    (pss_cons (ps_if (pt_cmpR (op_neD hu64) (pe_ix ix_l (pv 0) pe_int (fun _ _ => rfl)) (pe_lst pa_nil) (nomark _)) (pss_one (ps_set (i := 4) sc_Ldraw.nd rfl (Or.inl rfl) (pe_ix ix_l (pe_ix ix_l (pv 0) pe_int (fun _ _ => rfl)) (pe_op op_mod (pv 3) (pe_callB call_lenF (by rfl) T.len PySem.boot_len (pa_cons (pe_ix ix_l (pv 0) pe_int (fun _ _ => rfl)) pa_nil))) (fun _ _ => rfl)))) pss_nil)
    (pss_cons (ps_if (PW.pt (pw_and (pt_cmpR op_lt (pv 3) (pe_callB call_lenF (by rfl) T.len PySem.boot_len (pa_cons (pe_ix ix_l (pv 0) pe_int (fun _ _ => rfl)) pa_nil)) (nomark _)) (pw_and1 (pt_cmpR op_ge (pe_callB call_abs (by rfl) T.abs (by decide +kernel) (pa_cons (pv 4) pa_nil)) (pe_op op_pow pe_int pe_int) (nomark _))))) (pss_cons (ps_set (i := 5) sc_Ldraw.nd rfl (Or.inl rfl) (pe_op op_add (pe_op op_mul pe_int (pe_callB call_abs (by rfl) T.abs (by decide +kernel) (pa_cons (pv 4) pa_nil))) (pe_callTy call_int1 (by rfl) T.int (by decide +kernel) (pa_cons (pe_cmpR op_lt (pv 4) pe_int (nomark _)) pa_nil))))
      (pss_cons (ps_asg (pe_op op_fdivW (pv 5) (pv 1)) (pg_sub (pv 0) pe_int set_list))
      (pss_one (ps_ret (pe_op op_mod (pv 5) (pv 1)))))) pss_nil)
    (pss_cons (ps_set (i := 6) sc_Ldraw.nd rfl (Or.inl rfl) (pe_op op_mod (pe_op op_pow (pe_op op_add (pe_op op_add (pe_op op_mod (pv 4) pe_int) (pe_op op_mul pe_int (pv 3))) pe_int) pe_int) pe_int))
    (pss_cons (ps_set (i := 6) sc_Ldraw.nd rfl (Or.inl rfl) (pe_op op_mod (pe_op op_pow (pe_op op_add (pe_op op_add (pe_op op_mul (pv 6) (pe_op op_add (pe_op op_mul pe_int (pv 3)) pe_int)) (pe_op op_mul (pe_op op_mul pe_int (pv 3)) (pv 3))) pe_int) pe_int) pe_int))
    (pss_one (ps_ret (pe_op op_mod (pe_op op_fdivW (pv 6) pe_int) (pv 1))))))))))), ?_⟩
  have hSC : C ≠ S := fun e => by
    subst e
    rw [hS] at hC
    injection hC with hC
    injection hC with hC
    cases cells <;> simp at hC
  have hbi : (0 : Int) < (b : Int) := by omega
  have hbw : ∀ i : Int, CDivW i (b : Int) := fun i => wide_div (b := 100) hbi (by rw [Int.natAbs_natCast]; exact Nat.lt_of_le_of_lt hb2 (by decide)) (by decide) (by decide)
  refine ⟨_, rfl, S, _, 2, _, rfl, rfl, hS, rfl, _, _, rfl, rfl, _, rfl, ite2 (fun c => ?_) (fun c => ?_)⟩
  · refine ⟨_, rfl, S, _, 2, _, rfl, rfl, hS, rfl, _, rfl, _, _, rfl, rfl, hbi, ?_⟩
    refine ⟨_, rfl, S, _, 2, _, rfl, rfl, hS, rfl, _, rfl, _, _, rfl, rfl, hbw _, ?_⟩
    refine ⟨_, rfl, S, _, 2, 2, rfl, rfl, hS, rfl, ?_⟩
    refine ⟨_, rfl, ?_⟩
    have e1 : V.int ((rest : Int) % (b : Int)) = vn (rest % b) := by show V.int _ = V.int _; rw [Int.natCast_emod]
    have e2 : V.int ((rest : Int) / (b : Int)) = vn (rest / b) := by show V.int _ = V.int _; rw [Int.natCast_ediv]
    show Q (V.int ((rest : Int) % (b : Int))) (upd H S (.lst [.ref C, vn place, V.int ((rest : Int) / (b : Int))]))
    rw [e1, e2]
    exact q _ _ (Nat.mod_lt _ (by omega)) (Dr.set hS) ⟨C, cells, place, rest / b, upd_same, keepN hSC hC, hlen, by omega⟩
  refine ⟨_, rfl, S, _, 1, _, rfl, rfl, hS, rfl, ?_⟩
  refine ⟨_, rfl, _, _, rfl, rfl, _, rfl, S, _, 1, 1, rfl, rfl, hS, rfl, ?_⟩
  have hb0 : Dr S H (upd H S (.lst [.ref C, vn (place + 1), vn rest])) := Dr.set hS
  have hS1 : upd H S (.lst [.ref C, vn (place + 1), vn rest]) S = some (.lst [.ref C, vn (place + 1), vn rest]) := upd_same
  have hC1 := keepN hSC hC (u := .lst [.ref C, vn (place + 1), vn rest])
  show tSeq _ _ _ _ (upd H S (.lst [.ref C, vn (place + 1), vn rest]))
  generalize upd H S (.lst [.ref C, vn (place + 1), vn rest]) = H1 at hb0 hS1 hC1
  refine ⟨_, rfl, _, _, rfl, rfl, .inl ⟨by decide, by decide⟩, _, _, rfl, rfl, ?_⟩
  have hpl : (place : Int) ≤ 1000000 := by omega
  have hp0 : (0 : Int) ≤ place := by omega
  -- what the two ends come to
  have great : ∀ (cc : Int) (H4 : Hp), Dr S H H4 → H4 S = some (.lst [.ref C, vn (place + 1), vn rest]) → H4 C = some (.lst (cells.map V.int)) → ∀ (k : Bool), k = decide (cc < 0) →
      Q (V.int ((2 * (if cc < 0 then -cc else cc) + (if k = true then 1 else 0)) % (b : Int))) (upd H4 S (.lst [.ref C, vn (place + 1), V.int ((2 * (if cc < 0 then -cc else cc) + (if k = true then 1 else 0)) / (b : Int))])) := by
    intro cc H4 b4 hS4 hC4 k hk
    have hg : 0 ≤ 2 * (if cc < 0 then -cc else cc) + (if k = true then 1 else 0 : Int) := by split <;> split <;> omega
    generalize 2 * (if cc < 0 then -cc else cc) + (if k = true then 1 else 0 : Int) = g at hg
    have h1 := Int.emod_nonneg g (Int.ne_of_gt hbi)
    have h2 := Int.emod_lt_of_pos g hbi
    rw [nat_of h1, nat_of (Int.ediv_nonneg hg (Int.le_of_lt hbi))]
    exact q _ _ (by omega) (b4.trans (Dr.set hS4)) ⟨C, cells, place + 1, _, upd_same, keepN hSC hC4, hlen, by omega⟩
  have mixed : ∀ (z : Int) (H4 : Hp), 0 ≤ z → Dr S H H4 → H4 S = some (.lst [.ref C, vn (place + 1), vn rest]) → H4 C = some (.lst (cells.map V.int)) → Q (V.int (z / 32 % (b : Int))) H4 := by
    intro z H4 hz b4 hS4 hC4
    have h1 := Int.emod_nonneg (z / 32) (Int.ne_of_gt hbi)
    have h2 := Int.emod_lt_of_pos (z / 32) hbi
    rw [nat_of h1]
    exact q _ _ (by omega) b4 ⟨C, cells, place + 1, _, hS4, hC4, hlen, by omega⟩
  refine ⟨_, rfl, S, _, 0, _, rfl, rfl, hS1, rfl, Nat.zero_le _, fun p hp => ⟨_, _, .lst (SqL.of (keep hp hC1)) (dp_zs cells), .lst (SqL.of upd_same) .nil, shaped_zs _, shaped_nil, ?_⟩⟩
  have hb2' : Dr S H (upd H1 p (.lst [])) := hb0.trans (Dr.same (same_new hp))
  have hS2 := keep hp hS1 (u := .lst [])
  have hC2 := keep hp hC1 (u := .lst [])
  generalize upd H1 p (.lst []) = H2 at hb2' hS2 hC2
  rw [eqv_nil]
  refine ⟨_, rfl, ite2 (fun c0 => ?_) (fun c0 => ?_)⟩
  · have hcl : 0 < cells.length := by
      cases cells with
      | nil => exact absurd c0 (by decide)
      | cons _ _ => simp
    have hcl2 : (0 : Int) < ((cells.map V.int).length : Int) := by rw [List.length_map]; omega
    have hm1 := Int.emod_nonneg (place : Int) (Int.ne_of_gt hcl2)
    have hm2 := Int.emod_lt_of_pos (place : Int) hcl2
    obtain ⟨cc, hcc⟩ : ∃ cc, cells[((place : Int) % ((cells.map V.int).length : Int)).toNat]? = some cc := ⟨_, List.getElem?_eq_getElem (by rw [List.length_map] at hm1 hm2 ⊢; omega)⟩
    have hat : atI (cells.map V.int) ((place : Int) % ((cells.map V.int).length : Int)) = some (V.int cc) := by
      have := atI_nat (at_map (f := V.int) hcc)
      rw [Int.toNat_of_nonneg hm1] at this
      exact this
    refine ⟨_, rfl, S, _, 0, _, rfl, rfl, hS2, rfl, _, rfl, _, rfl, S, _, 0, _, rfl, rfl, hS2, rfl, C, _, rfl, .inl hC2, _, _, rfl, rfl, hcl2, C, _, _, _, rfl, rfl, hC2, hat, ?_⟩
    have b4 := hb2'
    have hS4 := hS2
    have hC4 := hC2
    generalize H2 = H4 at b4 hS4 hC4
    refine ⟨_, rfl, _, rfl, S, _, 0, _, rfl, rfl, hS4, rfl, C, _, rfl, .inl hC4, _, _, rfl, rfl, _, rfl, ite2 (fun c1 => ?_) (fun c1 => ?_)⟩
    · refine ⟨_, rfl, cc, rfl, 10, 18, rfl, rfl, ⟨by decide, by decide, by decide⟩, _, _, rfl, rfl, _, rfl, ite2 (fun c2 => ?_) (fun c2 => ?_)⟩
      · refine ⟨_, rfl, cc, rfl, _, _, rfl, rfl, .inl ⟨by decide, by decide⟩, _, rfl, _, _, rfl, rfl, .inr ⟨_, rfl, _, _, rfl, rfl, ?_⟩⟩
        refine ⟨_, rfl, _, rfl, _, _, rfl, rfl, hbw _, _, rfl, S, _, 2, 2, rfl, rfl, hS4, rfl, ?_⟩
        refine ⟨_, rfl, _, rfl, _, _, rfl, rfl, hbi, ?_⟩
        exact great cc H4 b4 hS4 hC4 _ rfl
      · -- mixed
        have m1a := Int.emod_nonneg cc (show (2147483549 : Int) ≠ 0 by decide)
        have m1b := Int.emod_lt_of_pos cc (show (0 : Int) < 2147483549 by decide)
        refine ⟨_, rfl, _, _, rfl, rfl, (show (0 : Int) < 2147483549 by decide), _, rfl, _, _, rfl, rfl, .inl ⟨by decide, by decide⟩, _, _, rfl, rfl, _, _, rfl, rfl, _, _, rfl, rfl, ⟨by decide, by decide, by omega⟩, _, _, rfl, rfl, (show (0 : Int) < 2147483647 by decide), ?_⟩
        have m2a := Int.emod_nonneg ((cc % 2147483549 + 70001 * (place : Int) + 29) ^ (5 : Int).toNat) (show (2147483647 : Int) ≠ 0 by decide)
        have m2b := Int.emod_lt_of_pos ((cc % 2147483549 + 70001 * (place : Int) + 29) ^ (5 : Int).toNat) (show (0 : Int) < 2147483647 by decide)
        refine ⟨_, rfl, ?_⟩
        obtain ⟨mx, hmx⟩ : ∃ mx, mx = (cc % 2147483549 + 70001 * (place : Int) + 29) ^ (5 : Int).toNat % 2147483647 := ⟨_, rfl⟩
        have q4 : ((cc % 2147483549 + 70001 * (place : Int) + 29) ^ (5 : Int).toNat % 2147483647 * (2 * (place : Int) + 13) + 90007 * (place : Int) * (place : Int) + 7).natAbs < 2 ^ 64 := by
          rw [← hmx] at m2a m2b ⊢
          have q1 : mx * (2 * (place : Int) + 13) ≤ 2147483647 * 2000013 := Int.mul_le_mul (by omega) (by omega) (by omega) (by decide)
          have q0 : 0 ≤ mx * (2 * (place : Int) + 13) := Int.mul_nonneg m2a (by omega)
          have q3 : 90007 * (place : Int) * (place : Int) ≤ 90007000000 * 1000000 := Int.mul_le_mul (by omega) (by omega) (by omega) (by decide)
          have q2 : 0 ≤ 90007 * (place : Int) * (place : Int) := Int.mul_nonneg (by omega) (by omega)
          omega
        refine ⟨_, rfl, _, _, rfl, rfl, .inl ⟨by decide, by decide⟩, _, _, rfl, rfl, _, _, rfl, rfl, .inl ⟨by omega, by omega⟩, _, rfl, _, _, rfl, rfl, .inl ⟨by decide, by decide⟩, _, rfl, _, _, rfl, rfl, .inl ⟨by omega, by omega⟩, _, _, rfl, rfl, _, _, rfl, rfl, _, _, rfl, rfl, ⟨by decide, by decide, q4⟩, _, _, rfl, rfl, (show (0 : Int) < 2147483399 by decide), ?_⟩
        refine ⟨_, rfl, _, _, rfl, rfl, wide_div (b := 10) (by decide) (by decide) (by decide) (by decide), _, rfl, _, _, rfl, rfl, hbi, ?_⟩
        exact mixed _ H4 (Int.emod_nonneg _ (by decide)) b4 hS4 hC4
    · refine iteF ?_
      -- mixed
      have m1a := Int.emod_nonneg cc (show (2147483549 : Int) ≠ 0 by decide)
      have m1b := Int.emod_lt_of_pos cc (show (0 : Int) < 2147483549 by decide)
      refine ⟨_, rfl, _, _, rfl, rfl, (show (0 : Int) < 2147483549 by decide), _, rfl, _, _, rfl, rfl, .inl ⟨by decide, by decide⟩, _, _, rfl, rfl, _, _, rfl, rfl, _, _, rfl, rfl, ⟨by decide, by decide, by omega⟩, _, _, rfl, rfl, (show (0 : Int) < 2147483647 by decide), ?_⟩
      have m2a := Int.emod_nonneg ((cc % 2147483549 + 70001 * (place : Int) + 29) ^ (5 : Int).toNat) (show (2147483647 : Int) ≠ 0 by decide)
      have m2b := Int.emod_lt_of_pos ((cc % 2147483549 + 70001 * (place : Int) + 29) ^ (5 : Int).toNat) (show (0 : Int) < 2147483647 by decide)
      refine ⟨_, rfl, ?_⟩
      obtain ⟨mx, hmx⟩ : ∃ mx, mx = (cc % 2147483549 + 70001 * (place : Int) + 29) ^ (5 : Int).toNat % 2147483647 := ⟨_, rfl⟩
      have q4 : ((cc % 2147483549 + 70001 * (place : Int) + 29) ^ (5 : Int).toNat % 2147483647 * (2 * (place : Int) + 13) + 90007 * (place : Int) * (place : Int) + 7).natAbs < 2 ^ 64 := by
        rw [← hmx] at m2a m2b ⊢
        have q1 : mx * (2 * (place : Int) + 13) ≤ 2147483647 * 2000013 := Int.mul_le_mul (by omega) (by omega) (by omega) (by decide)
        have q0 : 0 ≤ mx * (2 * (place : Int) + 13) := Int.mul_nonneg m2a (by omega)
        have q3 : 90007 * (place : Int) * (place : Int) ≤ 90007000000 * 1000000 := Int.mul_le_mul (by omega) (by omega) (by omega) (by decide)
        have q2 : 0 ≤ 90007 * (place : Int) * (place : Int) := Int.mul_nonneg (by omega) (by omega)
        omega
      refine ⟨_, rfl, _, _, rfl, rfl, .inl ⟨by decide, by decide⟩, _, _, rfl, rfl, _, _, rfl, rfl, .inl ⟨by omega, by omega⟩, _, rfl, _, _, rfl, rfl, .inl ⟨by decide, by decide⟩, _, rfl, _, _, rfl, rfl, .inl ⟨by omega, by omega⟩, _, _, rfl, rfl, _, _, rfl, rfl, _, _, rfl, rfl, ⟨by decide, by decide, q4⟩, _, _, rfl, rfl, (show (0 : Int) < 2147483399 by decide), ?_⟩
      refine ⟨_, rfl, _, _, rfl, rfl, wide_div (b := 10) (by decide) (by decide) (by decide) (by decide), _, rfl, _, _, rfl, rfl, hbi, ?_⟩
      exact mixed _ H4 (Int.emod_nonneg _ (by decide)) b4 hS4 hC4
  · have := hb2'
    have b4 := hb2'
    have hS4 := hS2
    have hC4 := hC2
    generalize H2 = H4 at b4 hS4 hC4
    refine ⟨_, rfl, _, rfl, S, _, 0, _, rfl, rfl, hS4, rfl, C, _, rfl, .inl hC4, _, _, rfl, rfl, _, rfl, ite2 (fun c1 => ?_) (fun c1 => ?_)⟩
    · refine ⟨_, rfl, (30103 * (place : Int) + 97), rfl, 10, 18, rfl, rfl, ⟨by decide, by decide, by decide⟩, _, _, rfl, rfl, _, rfl, ite2 (fun c2 => ?_) (fun c2 => ?_)⟩
      · refine ⟨_, rfl, (30103 * (place : Int) + 97), rfl, _, _, rfl, rfl, .inl ⟨by decide, by decide⟩, _, rfl, _, _, rfl, rfl, .inr ⟨_, rfl, _, _, rfl, rfl, ?_⟩⟩
        refine ⟨_, rfl, _, rfl, _, _, rfl, rfl, hbw _, _, rfl, S, _, 2, 2, rfl, rfl, hS4, rfl, ?_⟩
        refine ⟨_, rfl, _, rfl, _, _, rfl, rfl, hbi, ?_⟩
        exact great (30103 * (place : Int) + 97) H4 b4 hS4 hC4 _ rfl
      · -- mixed
        have m1a := Int.emod_nonneg (30103 * (place : Int) + 97) (show (2147483549 : Int) ≠ 0 by decide)
        have m1b := Int.emod_lt_of_pos (30103 * (place : Int) + 97) (show (0 : Int) < 2147483549 by decide)
        refine ⟨_, rfl, _, _, rfl, rfl, (show (0 : Int) < 2147483549 by decide), _, rfl, _, _, rfl, rfl, .inl ⟨by decide, by decide⟩, _, _, rfl, rfl, _, _, rfl, rfl, _, _, rfl, rfl, ⟨by decide, by decide, by omega⟩, _, _, rfl, rfl, (show (0 : Int) < 2147483647 by decide), ?_⟩
        have m2a := Int.emod_nonneg (((30103 * (place : Int) + 97) % 2147483549 + 70001 * (place : Int) + 29) ^ (5 : Int).toNat) (show (2147483647 : Int) ≠ 0 by decide)
        have m2b := Int.emod_lt_of_pos (((30103 * (place : Int) + 97) % 2147483549 + 70001 * (place : Int) + 29) ^ (5 : Int).toNat) (show (0 : Int) < 2147483647 by decide)
        refine ⟨_, rfl, ?_⟩
        obtain ⟨mx, hmx⟩ : ∃ mx, mx = ((30103 * (place : Int) + 97) % 2147483549 + 70001 * (place : Int) + 29) ^ (5 : Int).toNat % 2147483647 := ⟨_, rfl⟩
        have q4 : (((30103 * (place : Int) + 97) % 2147483549 + 70001 * (place : Int) + 29) ^ (5 : Int).toNat % 2147483647 * (2 * (place : Int) + 13) + 90007 * (place : Int) * (place : Int) + 7).natAbs < 2 ^ 64 := by
          rw [← hmx] at m2a m2b ⊢
          have q1 : mx * (2 * (place : Int) + 13) ≤ 2147483647 * 2000013 := Int.mul_le_mul (by omega) (by omega) (by omega) (by decide)
          have q0 : 0 ≤ mx * (2 * (place : Int) + 13) := Int.mul_nonneg m2a (by omega)
          have q3 : 90007 * (place : Int) * (place : Int) ≤ 90007000000 * 1000000 := Int.mul_le_mul (by omega) (by omega) (by omega) (by decide)
          have q2 : 0 ≤ 90007 * (place : Int) * (place : Int) := Int.mul_nonneg (by omega) (by omega)
          omega
        refine ⟨_, rfl, _, _, rfl, rfl, .inl ⟨by decide, by decide⟩, _, _, rfl, rfl, _, _, rfl, rfl, .inl ⟨by omega, by omega⟩, _, rfl, _, _, rfl, rfl, .inl ⟨by decide, by decide⟩, _, rfl, _, _, rfl, rfl, .inl ⟨by omega, by omega⟩, _, _, rfl, rfl, _, _, rfl, rfl, _, _, rfl, rfl, ⟨by decide, by decide, q4⟩, _, _, rfl, rfl, (show (0 : Int) < 2147483399 by decide), ?_⟩
        refine ⟨_, rfl, _, _, rfl, rfl, wide_div (b := 10) (by decide) (by decide) (by decide) (by decide), _, rfl, _, _, rfl, rfl, hbi, ?_⟩
        exact mixed _ H4 (Int.emod_nonneg _ (by decide)) b4 hS4 hC4
    · refine iteF ?_
      -- mixed
      have m1a := Int.emod_nonneg (30103 * (place : Int) + 97) (show (2147483549 : Int) ≠ 0 by decide)
      have m1b := Int.emod_lt_of_pos (30103 * (place : Int) + 97) (show (0 : Int) < 2147483549 by decide)
      refine ⟨_, rfl, _, _, rfl, rfl, (show (0 : Int) < 2147483549 by decide), _, rfl, _, _, rfl, rfl, .inl ⟨by decide, by decide⟩, _, _, rfl, rfl, _, _, rfl, rfl, _, _, rfl, rfl, ⟨by decide, by decide, by omega⟩, _, _, rfl, rfl, (show (0 : Int) < 2147483647 by decide), ?_⟩
      have m2a := Int.emod_nonneg (((30103 * (place : Int) + 97) % 2147483549 + 70001 * (place : Int) + 29) ^ (5 : Int).toNat) (show (2147483647 : Int) ≠ 0 by decide)
      have m2b := Int.emod_lt_of_pos (((30103 * (place : Int) + 97) % 2147483549 + 70001 * (place : Int) + 29) ^ (5 : Int).toNat) (show (0 : Int) < 2147483647 by decide)
      refine ⟨_, rfl, ?_⟩
      obtain ⟨mx, hmx⟩ : ∃ mx, mx = ((30103 * (place : Int) + 97) % 2147483549 + 70001 * (place : Int) + 29) ^ (5 : Int).toNat % 2147483647 := ⟨_, rfl⟩
      have q4 : (((30103 * (place : Int) + 97) % 2147483549 + 70001 * (place : Int) + 29) ^ (5 : Int).toNat % 2147483647 * (2 * (place : Int) + 13) + 90007 * (place : Int) * (place : Int) + 7).natAbs < 2 ^ 64 := by
        rw [← hmx] at m2a m2b ⊢
        have q1 : mx * (2 * (place : Int) + 13) ≤ 2147483647 * 2000013 := Int.mul_le_mul (by omega) (by omega) (by omega) (by decide)
        have q0 : 0 ≤ mx * (2 * (place : Int) + 13) := Int.mul_nonneg m2a (by omega)
        have q3 : 90007 * (place : Int) * (place : Int) ≤ 90007000000 * 1000000 := Int.mul_le_mul (by omega) (by omega) (by omega) (by decide)
        have q2 : 0 ≤ 90007 * (place : Int) * (place : Int) := Int.mul_nonneg (by omega) (by omega)
        omega
      refine ⟨_, rfl, _, _, rfl, rfl, .inl ⟨by decide, by decide⟩, _, _, rfl, rfl, _, _, rfl, rfl, .inl ⟨by omega, by omega⟩, _, rfl, _, _, rfl, rfl, .inl ⟨by decide, by decide⟩, _, rfl, _, _, rfl, rfl, .inl ⟨by omega, by omega⟩, _, _, rfl, rfl, _, _, rfl, rfl, _, _, rfl, rfl, ⟨by decide, by decide, q4⟩, _, _, rfl, rfl, (show (0 : Int) < 2147483399 by decide), ?_⟩
      refine ⟨_, rfl, _, _, rfl, rfl, wide_div (b := 10) (by decide) (by decide) (by decide) (by decide), _, rfl, _, _, rfl, rfl, hbi, ?_⟩
      exact mixed _ H4 (Int.emod_nonneg _ (by decide)) b4 hS4 hC4
theorem d_Lpermutation (R : Raw K mg "_law_permutation" s_Lpermutation) (T : Txt mg) (D_Ldraw : Def P w K mg base 1 "_law_draw" ["_law_source_here", "_law_bound"] sp_draw) :
    Def P w K mg base 2 "_law_permutation" ["_law_source_here", "_law_size_here"] sp_permutation := by
  refine R.made sc_Lpermutation (fun vs H Q E h => ?_) (fun _ _ _ _ _ _ us hl => match us, hl with | [_, _], _ => rfl) fun f cdv A outer s H vs Q E hr h => ?_
  · obtain ⟨S, N, n, rfl, _⟩ := h
    rfl
  obtain ⟨S, N, n, rfl, hsrc, hN, hn, q⟩ := h
  have hr_Ldraw : Room 1 _ := hr.mono (by decide)
  refine ⟨_, pss_cons (ps_set (i := 2) sc_Lpermutation.nd rfl (Or.inr rfl) (pe_listRg rfl (by rfl) T.list (prg_1 (by rfl) T.range (pv 1))))
    (pss_one (ps_ret (pe_callTy call_tupleF (by rfl) T.tuple (by decide +kernel) (pa_cons (pe_lc (own := [("_law_entry", 3)]) (g := (gName 3)) (tt := tYes) rfl sc_Lpermutation.nd (pi_range1 (by rfl) T.range (pa_cons (pv 1) pa_nil)) (blkOk_by (N := N_Lpermutation) (sc := defScope s_Lpermutation) (by decide +kernel)) (fun _ _ _ _ _ => (pg_name (i := 3) sc_Lpermutation.nd rfl (Or.inl rfl))) (fun _ _ _ _ _ => pts_nil) (fun _ _ _ _ _ => (pe_bmL PySem.F.slot_list_pop PySem.F.type_list_pop mt_popAt (pv 2) (pa_cons (pe_fn D_Ldraw hr_Ldraw (by rfl) (pa_cons (pv 0) (pa_cons (pe_callB call_lenF (by rfl) T.len PySem.boot_len (pa_cons (pv 2) pa_nil)) pa_nil))) pa_nil)))) pa_nil)))), ?_⟩
  refine ⟨_, rfl, _, rfl, RgOk.of_le (by omega) (by omega) (by omega) (by omega), fun L hL => ?_⟩
  rw [rg_nat]
  have hSL : S ≠ L := by
    obtain ⟨_, _, _, _, g, _⟩ := hsrc
    exact ne_of_none g hL
  have b1 : Dr S H (upd H L (lstN (List.range n))) := Dr.same (same_new hL)
  refine ⟨_, rfl, _, rfl, by omega, by omega, fun D hD => ?_⟩
  have hD0 : H D = none := (same_new hL).free hD
  have hLD : L ≠ D := ne_of_none upd_same hD
  have hSD : S ≠ D := by
    obtain ⟨_, _, _, _, g, _⟩ := hsrc
    exact ne_of_none g hD0
  obtain ⟨C0, cells0, pl0, re0, hS0, hC0, hc0, hp0⟩ := id hsrc
  refine lc_range (lo := 0) (n := ((n : Nat) : Int).toNat) (fun i H' => ∃ (R A : List Nat), Dr S H H' ∧ Src H' S (N + i) ∧ H' L = some (lstN R) ∧ H' D = some (lstN A) ∧ (A ++ R).Perm (List.range n) ∧ A.length = i ∧ NotIn H' S L ∧ NotIn H' S D)
    ⟨List.range n, [], b1.mut hD0, ⟨C0, cells0, pl0, re0, keep hD (keep hL hS0), keep hD (keep hL hC0), hc0, hp0⟩, keep hD upd_same, upd_same, List.Perm.refl _, rfl,
      ⟨C0, _, _, keep hD (keep hL hS0), ne_of_none hC0 hL⟩, ⟨C0, _, _, keep hD (keep hL hS0), ne_of_none hC0 hD0⟩⟩ ?_ ?_
  · rintro i H1 hi ⟨R, A, b2, src, hL1, hD1, hper, hA, n1, n2⟩
    rw [Int.toNat_natCast] at hi
    have hlen := hper.length_eq
    rw [List.length_append, List.length_range] at hlen
    refine ⟨rfl, _, rfl, ⟨L, _, rfl, hL1⟩, _, rfl, _, rfl, L, _, rfl, .inl hL1, S, N + i, R.length, ?_, src, by omega, by omega, Nat.le_trans (by omega : R.length ≤ 40) (by decide), fun v H2 hv b3 src3 => ?_⟩
    · rw [vn_len]
      rfl
    have hL2 := b3.but L _ (Ne.symm hSL) hL1
    have hD2 := b3.but D _ (Ne.symm hSD) hD1
    obtain ⟨y, hy⟩ : ∃ y, R[v]? = some y := ⟨_, List.getElem?_eq_getElem hv⟩
    have hseq : seqIndex? (v : Int) (R.map vn).length = some v := by
      rw [seqIndex_of (by omega) (by rw [vn_len]; omega), Int.toNat_natCast]
    refine ⟨L, _, (v : Int), v, vn y, rfl, rfl, hL2, by omega, by omega, hseq, at_map hy, ?_⟩
    have b4 : Dr S H H2 := b2.trans b3
    have n3 := n1.dr b3
    have n4 := n2.dr b3
    refine ⟨_, keepN (Ne.symm hLD) hD2, smallT (by rw [vn_len]; omega), R.eraseIdx v, A ++ [y], (b4.mut hL).mut hD0, ?_, ?_, by rw [upd_same, lst_snoc], ?_, by rw [List.length_append, hA]; rfl, ?_, ?_⟩
    · exact (src3.put n3 (Ne.symm hSL)).put (n4.put (Ne.symm hSL)) (Ne.symm hSD)
    · rw [upd_ne hLD, upd_same, erase_map]
    · refine List.Perm.trans ?_ hper
      rw [List.append_assoc]
      refine List.Perm.append_left A ?_
      exact (perm_erase hy).symm
    · exact (n3.put (Ne.symm hSL)).put (Ne.symm hSD)
    · exact (n4.put (Ne.symm hSL)).put (Ne.symm hSD)
  · rintro H1 ⟨R, A, b2, src, hL1, hD1, hper, hA, n1, n2⟩
    rw [Int.toNat_natCast] at hA src
    have hlen := hper.length_eq
    rw [List.length_append, List.length_range] at hlen
    have hR : R = [] := List.length_eq_zero_iff.mp (by omega)
    subst hR
    rw [List.append_nil] at hper
    refine ⟨D, _, rfl, hD1, fun u hu => ?_⟩
    exact q (.ref u) A _ hper (b2.trans (Dr.same (same_new hu))) ((src.new hu).le (by omega)) ⟨u, rfl, upd_same⟩
theorem d_Lsize (R : Raw K mg "_law_size" s_Lsize) (D_Ldraw : Def P w K mg base 1 "_law_draw" ["_law_source_here", "_law_bound"] sp_draw) :
    Def P w K mg base 2 "_law_size" ["_law_source_here", "_law_most"] sp_size := by
  refine R.made sc_Lsize (fun vs H Q E h => ?_) (fun _ _ _ _ _ _ us hl => match us, hl with | [_, _], _ => rfl) fun f cdv A outer s H vs Q E hr h => ?_
  · obtain ⟨S, N, m, rfl, _⟩ := h
    rfl
  obtain ⟨S, N, m, rfl, hsrc, hN, hm, q⟩ := h
  have hr_Ldraw : Room 1 _ := hr.mono (by decide)
  refine ⟨_, pss_cons (ps_set (i := 2) sc_Lsize.nd rfl (Or.inl rfl) (pe_fn D_Ldraw hr_Ldraw (by rfl) (pa_cons (pv 0) (pa_cons pe_int pa_nil))))
    (pss_cons (ps_set (i := 3) sc_Lsize.nd rfl (Or.inl rfl) (pe_fn D_Ldraw hr_Ldraw (by rfl) (pa_cons (pv 0) (pa_cons (pv 1) pa_nil))))
    (pss_one (ps_ret (pe_ifExp (pt_cmpR op_gt (pv 1) pe_int (nomark _)) (pe_ix ix_l (pe_lst (pa_cons (pv 1) (pa_cons (pe_op op_add pe_int (pv 3)) (pa_cons (pe_op op_add pe_int (pe_op op_mod (pv 3) pe_int)) pa_nil)))) (pv 2) (fun _ _ => rfl)) (pe_ix ix_l (pe_lst (pa_cons (pv 1) (pa_cons (pe_op op_add pe_int (pv 3)) (pa_cons (pe_op op_add pe_int (pv 3)) pa_nil)))) (pv 2) (fun _ _ => rfl)))))), ?_⟩
  refine ⟨_, rfl, S, N, 3, rfl, hsrc, by omega, by decide, by decide, fun way H1 hw b1 src1 => ?_⟩
  refine ⟨_, rfl, _, rfl, S, N + 1, m, rfl, src1, by omega, by omega, by rcases hm with rfl | rfl <;> decide, fun v H2 hv b2 src2 => ?_⟩
  have bb := b1.trans b2
  have src3 := src2.le (show N + 1 + 1 ≤ N + 100 by omega)
  have hm5 : 5 ≤ m := by omega
  refine ⟨_, rfl, _, _, rfl, rfl, _, rfl, ite2 (fun c => ?_) (fun c => ?_)⟩
  · refine ⟨_, rfl, _, rfl, _, _, rfl, rfl, _, rfl, _, _, rfl, rfl, (show (0 : Int) < 6 by decide), _, _, rfl, rfl, (by show 3 ≤ sizeLine; decide), fun p hp => ?_⟩
    have e1 : V.int (1 + (v : Int)) = vn (1 + v) := by show V.int _ = V.int _; rw [Int.natCast_add]; rfl
    have e2 : V.int (1 + (v : Int) % 6) = vn (1 + v % 6) := by show V.int _ = V.int _; rw [Int.natCast_add, Int.natCast_emod]; rfl
    have b4 := bb.trans (Dr.same (same_new (o := .lst [vn m, V.int (1 + (v : Int)), V.int (1 + (v : Int) % 6)]) hp))
    have s4 := src3.new (o := .lst [vn m, V.int (1 + (v : Int)), V.int (1 + (v : Int) % 6)]) hp
    match way, hw with
    | 0, _ => exact ⟨_, rfl, p, _, _, _, rfl, rfl, upd_same, rfl, q m _ (by omega) (Nat.le_refl _) b4 s4⟩
    | 1, _ =>
      refine ⟨_, rfl, p, _, _, _, rfl, rfl, upd_same, rfl, ?_⟩
      have := q (1 + v) _ (by omega) (by omega) b4 s4
      rw [← e1] at this
      exact this
    | 2, _ =>
      refine ⟨_, rfl, p, _, _, _, rfl, rfl, upd_same, rfl, ?_⟩
      have := q (1 + v % 6) _ (by omega) (by omega) b4 s4
      rw [← e2] at this
      exact this
  · refine ⟨_, rfl, _, rfl, _, _, rfl, rfl, _, rfl, _, _, rfl, rfl, (by show 3 ≤ sizeLine; decide), fun p hp => ?_⟩
    have e1 : V.int (1 + (v : Int)) = vn (1 + v) := by show V.int _ = V.int _; rw [Int.natCast_add]; rfl
    have b4 := bb.trans (Dr.same (same_new (o := .lst [vn m, V.int (1 + (v : Int)), V.int (1 + (v : Int))]) hp))
    have s4 := src3.new (o := .lst [vn m, V.int (1 + (v : Int)), V.int (1 + (v : Int))]) hp
    have q1 := q (1 + v) _ (by omega) (by omega) b4 s4
    rw [← e1] at q1
    match way, hw with
    | 0, _ => exact ⟨_, rfl, p, _, _, _, rfl, rfl, upd_same, rfl, q m _ (by omega) (Nat.le_refl _) b4 s4⟩
    | 1, _ => exact ⟨_, rfl, p, _, _, _, rfl, rfl, upd_same, rfl, q1⟩
    | 2, _ => exact ⟨_, rfl, p, _, _, _, rfl, rfl, upd_same, rfl, q1⟩
end
end SF
end

/-! SFh2 -/
section
set_option Elab.async false
set_option linter.all false
set_option maxRecDepth 100000
set_option maxHeartbeats 4000000
/-! _law_root, _law_destroy, _law_log, _law_deciding, _law_determines, _law_places. -/
namespace SF
open PySem PySem.Spec L2
open PyProof.Rows hiding St

theorem paired_imp {α β : Type} {F G : α → β → Prop} : ∀ {l : List α} {r : List β}, (∀ a b, a ∈ l → F a b → G a b) → Paired F l r → Paired G l r
  | _, _, _, .nil => .nil
  | _, _, h, .cons f t => .cons (h _ _ (by simp) f) (paired_imp (fun a b ha => h a b (by simp [ha])) t)
theorem nr_flat (l : Nat) : ∀ (f : F) (d : Nat), nr l d f = f.trees.flatMap (fun e => if d < l then e.1 :: nr l (d + 1) e.2 else [])
  | .nil, d => rfl
  | .cons v k r, d => by
    rw [F.trees, List.flatMap_cons, ← nr_flat l r d]
    by_cases h : d < l
    · simp [nr, h]
    · simp [nr, h, nr_far h]
theorem fa_flat (l : Nat) : ∀ (f : F) (d : Nat), fa l d f = f.trees.flatMap (fun e => if d < l then fa l (d + 1) e.2 else [e])
  | .nil, d => rfl
  | .cons v k r, d => by
    rw [F.trees, List.flatMap_cons, ← fa_flat l r d]
    rfl
theorem nr_fa (l : Nat) : ∀ (f : F) (d : Nat), (nr l d f).length + sizeW (fa l d f) = f.size
  | .nil, _ => rfl
  | .cons v k r, d => by
    have i1 := nr_fa l r d
    have i2 := nr_fa l k (d + 1)
    simp only [fa, F.size]
    rw [sizeW_append]
    by_cases h : d < l
    · simp only [nr, if_pos h, List.length_cons, List.length_append]
      omega
    · rw [nr_far h] at i1 ⊢
      have e : sizeW [(v, k)] = k.size + 1 := by simp [sizeW]
      simp only [if_neg h]
      rw [e]
      simp only [List.length_nil] at i1 ⊢
      omega
theorem fa_sub {t : Tree} (l : Nat) : ∀ (f : F) (d : Nat), (∀ e ∈ f.trees, Sub t e.1 e.2) → ∀ e ∈ fa l d f, Sub t e.1 e.2
  | .nil, d, _, e, he => by simp [fa] at he
  | .cons v k r, d, h, e, he => by
    have hv := h (v, k) (by simp [F.trees])
    simp only [fa] at he
    rcases List.mem_append.mp he with g | g
    · by_cases hd : d < l
      · rw [if_pos hd] at g
        exact fa_sub l k (d + 1) hv.kids e g
      · rw [if_neg hd] at g
        rw [List.mem_singleton.mp g]
        exact hv
    · exact fa_sub l r d (fun e he => h e (by simp [F.trees, he])) e g
theorem size_tree {f : F} {i : Nat} {e : Nat × F} (h : f.trees[i]? = some e) : sizeW (f.trees.take i) + e.2.size + 1 ≤ f.size := by
  have h1 : f.trees = f.trees.take i ++ e :: f.trees.drop (i + 1) := by
    have e3 : f.trees.take (i + 1) ++ f.trees.drop (i + 1) = f.trees := List.take_append_drop _ _
    rw [take_snoc h, List.append_assoc] at e3
    exact e3.symm
  have h2 := sizeW_trees f
  rw [h1, sizeW_append, sizeW_cons] at h2
  omega
theorem len_nr (l d : Nat) (S : List (Nat × F)) : (S.flatMap (fun e => if d < l then e.1 :: nr l (d + 1) e.2 else [])).length ≤ sizeW S := by
  induction S with
  | nil => exact Nat.le_refl _
  | cons e S ih =>
    rw [List.flatMap_cons, List.length_append, sizeW_cons]
    have : (if d < l then e.1 :: nr l (d + 1) e.2 else []).length ≤ e.2.size + 1 := by
      by_cases h : d < l
      · rw [if_pos h, List.length_cons]
        have h1 := (perm_pr l e.2 (d + 1)).length_eq
        unfold pr at h1
        rw [List.length_append, F.all_length] at h1
        omega
      · rw [if_neg h]; simp
    omega
theorem len_fa (l d : Nat) (S : List (Nat × F)) : (S.flatMap (fun e => if d < l then fa l (d + 1) e.2 else [e])).length ≤ sizeW S := by
  induction S with
  | nil => exact Nat.le_refl _
  | cons e S ih =>
    rw [List.flatMap_cons, List.length_append, sizeW_cons]
    have : (if d < l then fa l (d + 1) e.2 else [e]).length ≤ e.2.size + 1 := by
      by_cases h : d < l
      · rw [if_pos h]
        have h1 := len_sizeW (fa l (d + 1) e.2)
        have h2 := sizeW_fa l e.2 (d + 1)
        omega
      · rw [if_neg h]; simp
    omega
theorem flat_snoc {α β : Type} {f : α → List β} {l : List α} {i : Nat} {x : α} (h : l[i]? = some x) : (l.take (i + 1)).flatMap f = (l.take i).flatMap f ++ f x := by
  rw [take_snoc h, List.flatMap_append]
  simp
theorem mem_flat_root {t : Tree} {r x : Nat} {k : F} (h : Rep t r k) (hx : x < t.length) : x ∈ t.flatten ↔ x ≠ r := by
  have := h.count hx
  rw [← List.count_pos_iff, this]
  by_cases e : x = r <;> simp [e]
theorem range_filter_root {n r : Nat} (h : r < n) {p : Nat → Bool} (hp : ∀ i, i < n → p i = decide (i = r)) : (List.range n).filter p = [r] := by
  rw [← filt_root h]
  refine List.filter_congr fun i hi => hp i (List.mem_range.mp hi)
section
variable {P : Program} {w : World} {K : PySem.W.Frag} {mg : Str → Option Value} {base : Heap}
theorem d_Lroot (R : Raw K mg "_law_root" s_Lroot) (T : Txt mg) :
    Def P w K mg base 1 "_law_root" ["_law_tree_here"] sp_root := by
  refine R.made sc_Lroot (fun vs H Q E h => ?_) (fun _ _ _ _ _ _ us hl => match us, hl with | [_], _ => rfl) fun f cdv A outer s H vs Q E hr h => ?_
  · obtain ⟨v, t, r, k, rfl, _⟩ := h
    rfl
  obtain ⟨v, t, r, k, rfl, ⟨a, as, rfl, ha, hrow⟩, hR, hn, q⟩ := h
  refine ⟨_, pss_cons (ps_set (i := 1) sc_Lroot.nd rfl (Or.inr rfl) (pe_callB (cr_sumL rfl) (by rfl) T.sum (by decide +kernel) (pa_cons (pe_lc (own := [("_law_row", 2)]) (g := (gName 2)) (tt := tYes) rfl sc_Lroot.nd (pi_tup (pv 0)) (blkOk_by (N := N_Lroot) (sc := defScope s_Lroot) (by decide +kernel)) (fun _ _ _ _ _ => (pg_name (i := 2) sc_Lroot.nd rfl (Or.inl rfl))) (fun _ _ _ _ _ => pts_nil) (fun _ _ _ _ _ => (pe_callTy call_listF (by rfl) T.list (by decide +kernel) (pa_cons (pv 2) pa_nil)))) (pa_cons (pe_lst pa_nil) pa_nil))))
    (pss_one (ps_ret (pe_ix ix_l (pe_lc (own := [("_law_node", 3)]) (g := (gName 3)) rfl sc_Lroot.nd (pi_range1 (by rfl) T.range (pa_cons (pe_callB call_lenF (by rfl) T.len PySem.boot_len (pa_cons (pv 0) pa_nil)) pa_nil)) (blkOk_by (N := N_Lroot) (sc := defScope s_Lroot) (by decide +kernel)) (fun _ _ _ _ _ => (pg_name (i := 3) sc_Lroot.nd rfl (Or.inl rfl))) (fun _ _ _ _ _ => pts_one (pt_cmpR op_notInN (pv 3) (pv 1) (by rfl))) (fun _ _ _ _ _ => (pv 3))) pe_int (fun _ _ => rfl)))), ?_⟩
  have hlen : (as.map V.ref).length = t.length := by rw [List.length_map]; exact hrow.1
  have hpos := hR.root_lt
  refine ⟨_, rfl, a, rfl, ⟨_, SqT.of ha⟩, fun D hD => ?_⟩
  refine lc_tup (K := K) (a := a) (xs := as.map V.ref) (fun i H' => Same H H' ∧ ∃ bs : List Addr, H' D = some (.lst (bs.map V.ref)) ∧ bs.length = i ∧ (∀ b ∈ bs, b ≠ D) ∧ Paired (fun b r => H' b = some (.lst r)) bs ((t.take i).map fun l => l.map vn))
    ⟨same_new hD, [], upd_same, rfl, fun b hb => (by cases hb), .nil⟩ (fun i H' _ q => SqT.of (q.1 _ _ ha)) ?_ ?_
  · rintro i y H1 hi ⟨s1, bs, h1, h2, h3, h4⟩
    obtain ⟨b, hb, rfl⟩ := map_at hi
    have hbt := hrow.2 i b hb
    have hit : i < t.length := by rw [← hrow.1]; exact at_lt hb
    refine ⟨rfl, _, rfl, b, _, rfl, .inr (s1 _ _ hbt), fun c hc => ⟨_, keep hc h1, smallT (by rw [List.length_map]; omega), same_mut (s1.trans (same_new hc)) hD, bs ++ [c], by rw [upd_same, List.map_append]; rfl, by rw [List.length_append, h2]; rfl, ?_, ?_⟩⟩
    · intro b' hb'
      rcases List.mem_append.mp hb' with g | g
      · exact h3 b' g
      · rw [List.mem_singleton.mp g]
        exact Ne.symm (ne_of_none h1 hc)
    · rw [take_snoc (at_getD [] hit), List.map_append]
      have hcD : c ≠ D := Ne.symm (ne_of_none h1 hc)
      refine (paired_imp (fun b r hb g => keepN (h3 b hb) (keep hc g)) h4).snoc ?_
      exact keepN hcD upd_same
  rintro H1 ⟨s1, bs, h1, h2, h3, h4⟩
  have ht : (t.take (as.map V.ref).length).map (fun l => l.map vn) = t.map fun l => l.map vn := by rw [hlen, List.take_length]
  rw [ht] at h4
  have hfl : (t.map fun l => l.map vn).flatten = t.flatten.map vn := by rw [List.map_flatten]
  have hfz : t.flatten.length ≤ 40 := by
    have := hR.flat.length_eq
    rw [F.all_length] at this
    have := hR.size
    omega
  refine ⟨Nat.zero_le _, fun Z hZ => ⟨D, Z, bs, _, rfl, keep hZ h1, upd_same, Ne.symm (ne_of_none h1 hZ), paired_imp (fun b r _ g => keep hZ g) h4, ?_, ?_, fun p hp => ?_⟩⟩
  · intro e
    have h0 : (as.map V.ref).length = 0 := by rw [← h2, e]; rfl
    omega
  · rw [hfl, vn_len]
    exact small (by omega)
  rw [hfl]
  have hZ0 : H Z = none := s1.free hZ
  have s2 : Same H (upd H1 Z (.lst [])) := same_mut s1 hZ0
  have s3 : Same H (upd (upd H1 Z (.lst [])) p (.lst (t.flatten.map vn))) := same_mut s2 (s2.free hp)
  have hp3 : upd (upd H1 Z (.lst [])) p (.lst (t.flatten.map vn)) p = some (lstN t.flatten) := upd_same
  generalize upd (upd H1 Z (.lst [])) p (.lst (t.flatten.map vn)) = H3 at s3 hp3
  refine ⟨_, rfl, a, _, rfl, .inr (s3 _ _ ha), _, rfl, by omega, by omega, fun D2 hD2 => ?_⟩
  rw [hlen]
  refine lc_range (lo := 0) (n := ((t.length : Nat) : Int).toNat) (fun i H' => Same H3 H' ∧ H' D2 = some (lstN ((List.range i).filter fun j => decide (j = r)))) ⟨same_new hD2, upd_same⟩ ?_ ?_
  · rintro i H4 hi ⟨s4, h5⟩
    rw [Int.toNat_natCast] at hi
    have e0 : (0 : Int) + (i : Int) = (i : Int) := Int.zero_add _
    refine ⟨rfl, _, rfl, _, rfl, p, _, i, (by rw [e0]), rfl, s4 _ _ hp3, _, rfl, ?_⟩
    have hm := mem_flat_root hR hi
    by_cases er : i = r
    · have e1 : decide (i ∈ t.flatten) = false := decide_eq_false fun q => (hm.mp q) er
      rw [e1]
      refine iteT ⟨_, rfl, _, h5, ?_, same_mut s4 hD2, ?_⟩
      · have := List.length_filter_le (fun j => decide (j = r)) (List.range i)
        rw [List.length_range] at this
        rw [vn_len]
        exact smallT (by omega)
      · rw [upd_same, e0, lst_snoc, List.range_succ, List.filter_append]
        simp [er]
    · have e1 : decide (i ∈ t.flatten) = true := decide_eq_true (hm.mpr er)
      rw [e1]
      refine iteF ⟨s4, ?_⟩
      rw [h5, List.range_succ, List.filter_append]
      simp [er]
  · rintro H4 ⟨s4, h5⟩
    rw [Int.toNat_natCast, filt_root hpos] at h5
    exact ⟨D2, _, 0, _, rfl, rfl, h5, ix_at (l := [r]) (i := 0) rfl, q H4 (s3.trans s4)⟩
theorem d_Ldestroy (R : Raw K mg "_law_destroy" s_Ldestroy) : ∀ fuel, Def P w K mg base (fuel + 1) "_law_destroy" ["_law_tree_here", "_law_node", "_law_depth", "_law_limit", "_law_log_here", "_law_shelf"] (sp_destroy fuel)
  | 0 => by
    refine R.made sc_Ldestroy (fun vs H Q E h => ?_) (fun _ _ _ _ _ _ us hl => match us, hl with | [_, _, _, _, _, _], _ => rfl) fun f cdv A outer s H vs Q E hr h => ?_
    · obtain ⟨v, t, x, k, d, l, A, B, xs, ss, rfl, _⟩ := h
      rfl
    · obtain ⟨v, t, x, k, d, l, A, B, xs, ss, rfl, _, _, _, _, _, _, hf, _⟩ := h
      omega
  | fuel + 1 => by
    have D_Ldestroy : Def P w K mg base (fuel + 1) "_law_destroy" ["_law_tree_here", "_law_node", "_law_depth", "_law_limit", "_law_log_here", "_law_shelf"] (sp_destroy fuel) := d_Ldestroy R fuel
    refine R.made sc_Ldestroy (fun vs H Q E h => ?_) (fun _ _ _ _ _ _ us hl => match us, hl with | [_, _, _, _, _, _], _ => rfl) fun f cdv A outer s H vs Q E hr h => ?_
    · obtain ⟨v, t, x, k, d, l, A, B, xs, ss, rfl, _⟩ := h
      rfl
    obtain ⟨v, t, x, k, d, l, La, Lb, xs, ss, rfl, hT, hHas, hlt, hA, hB, hne, hf, hdl, hx1, hs1, q⟩ := h
    have hT0 := hT
    obtain ⟨a, as, rfl, ha, hrow⟩ := hT
    have hr_Ldestroy : Room (fuel + 1) _ := hr
    have hsub : Sub t x k := ⟨hHas, hlt⟩
    refine ⟨_, pss_cons (ps_expr (pe_bm PySem.F.plainAttrs_list PySem.F.slot_list_append PySem.F.type_list_append mt_append (pv 4) (pa_cons (pv 1) pa_nil)))
      (pss_one (ps_for PassesOwn.never rfl (pi_tup (pe_ix ix_t (pv 0) (pv 1) (fun _ _ => rfl))) (pg_name (i := 6) sc_Ldestroy.nd rfl (Or.inl rfl)) (pss_one (ps_if (pt_cmpR op_lt (pe_op op_add (pv 2) pe_int) (pv 3) (nomark _)) (pss_one (ps_expr (pe_fn D_Ldestroy hr_Ldestroy (by rfl) (pa_cons (pv 0) (pa_cons (pv 6) (pa_cons (pe_op op_add (pv 2) pe_int) (pa_cons (pv 3) (pa_cons (pv 4) (pa_cons (pv 5) pa_nil))))))))) (pss_one (ps_expr (pe_bm PySem.F.plainAttrs_list PySem.F.slot_list_append PySem.F.type_list_append mt_append (pv 5) (pa_cons (pv 6) pa_nil)))))))), ?_⟩
    have haA : a ≠ La := ne_of ha hA (by intro q; cases q)
    have haB : a ≠ Lb := ne_of ha hB (by intro q; cases q)
    refine ⟨_, rfl, .inl ⟨rfl, _, SqL.of hA⟩, _, rfl, La, _, _, rfl, rfl, hA, smallT (by rw [vn_len]; omega), ?_⟩
    rw [lst_snoc]
    have hA1 : upd H La (lstN (xs ++ [x])) La = some (lstN (xs ++ [x])) := upd_same
    have hB1 := keepN (Ne.symm hne) hB (u := lstN (xs ++ [x]))
    have k1 : ∀ b o, b ≠ La → b ≠ Lb → H b = some o → upd H La (lstN (xs ++ [x])) b = some o := fun b o n1 _ e => keepN n1 e
    generalize upd H La (lstN (xs ++ [x])) = H1 at hA1 hB1 k1
    have tk : ∀ {H' : Hp}, (∀ b o, b ≠ La → b ≠ Lb → H b = some o → H' b = some o) → TK H H' := fun kk b o ys t e =>
      kk b o (ne_of e hA (by intro q; rw [q] at t; rcases t with t | ⟨u, t⟩ <;> cases t)) (ne_of e hB (by intro q; rw [q] at t; rcases t with t | ⟨u, t⟩ <;> cases t)) e
    obtain ⟨b, hb, hbt⟩ := hrow.at hsub.lt
    rw [hsub.row] at hbt
    have hlen : (k.tops.map vn).length = k.trees.length := by rw [vn_len, ← F.trees_fst, List.length_map]
    refine ⟨_, rfl, _, rfl, a, _, _, _, rfl, rfl, k1 _ _ haA haB ha, ix_ref hb, b, rfl, ⟨_, SqT.of ((tk k1).tup hbt)⟩, for_tup (K := K) (a := b) (xs := k.tops.map vn)
      (fun i σ H' => ∃ v6, σ = [some (.ref a), some (vn x), some (vn d), some (vn l), some (.ref La), some (.ref Lb), v6] ∧ (∀ b o, b ≠ La → b ≠ Lb → H b = some o → H' b = some o) ∧
        H' La = some (lstN (xs ++ x :: (k.trees.take i).flatMap fun e => if d + 1 < l then e.1 :: nr l (d + 1 + 1) e.2 else [])) ∧ H' Lb = some (lstN (ss ++ ((k.trees.take i).flatMap fun e => if d + 1 < l then fa l (d + 1 + 1) e.2 else [e]).map (·.1))))
      ⟨none, rfl, k1, hA1, by simpa using hB1⟩ (fun i σ H' _ ⟨_, _, kk, _⟩ => SqT.of ((tk kk).tup hbt)) ?_ ?_⟩
    · rintro i y σ H2 hi ⟨v6, rfl, k2, hA2, hB2⟩
      have hi2 := at_lt hi
      rw [hlen] at hi2
      obtain ⟨e, he⟩ : ∃ e, k.trees[i]? = some e := ⟨_, List.getElem?_eq_getElem hi2⟩
      have ey : y = vn e.1 := by
        rw [← F.trees_fst, List.map_map, List.getElem?_map, he] at hi
        exact (Option.some.inj hi).symm
      subst ey
      have hes := hsub.kids e (List.mem_of_getElem? he)
      have hsz := size_tree he
      have l1 := len_nr l (d + 1) (k.trees.take i)
      have l2 := len_fa l (d + 1) (k.trees.take i)
      refine ⟨_, rfl, _, _, rfl, rfl, _, rfl, _, _, rfl, rfl, _, rfl, ?_⟩
      by_cases hd : d + 1 < l
      · have ed : decide ((d : Int) + 1 < (l : Int)) = true := decide_eq_true (by omega)
        show if decide ((d : Int) + 1 < (l : Int)) = true then _ else _
        rw [ed]
        refine iteT ⟨_, rfl, _, rfl, _, rfl, _, _, rfl, rfl, _, rfl, _, rfl, _, rfl, .ref a, t, e.1, e.2, d + 1, l, La, Lb, _, _, rfl, hT0.mono (tk k2), hes.1, hes.2, hA2, hB2, hne, by omega, hd, ?_, ?_, fun H3 k3 hA3 hB3 => ?_⟩
        · rw [List.length_append, List.length_cons]
          omega
        · rw [List.length_append, List.length_map]
          omega
        · refine ⟨_, rfl, fun b o n1 n2 g => k3 b o n1 n2 (k2 b o n1 n2 g), ?_, ?_⟩
          · rw [hA3, flat_snoc he, if_pos hd]
            simp
          · rw [hB3, flat_snoc he, if_pos hd]
            simp
      · have ed : decide ((d : Int) + 1 < (l : Int)) = false := decide_eq_false (by omega)
        show if decide ((d : Int) + 1 < (l : Int)) = true then _ else _
        rw [ed]
        refine iteF ⟨_, rfl, .inl ⟨rfl, _, SqL.of hB2⟩, _, rfl, Lb, _, _, rfl, rfl, hB2, smallT (by rw [vn_len, List.length_append, List.length_map]; omega), ?_⟩
        rw [lst_snoc]
        refine ⟨_, rfl, fun b o n1 n2 g => keepN n2 (k2 b o n1 n2 g), ?_, ?_⟩
        · rw [upd_ne hne, hA2, flat_snoc he, if_neg hd]
          simp
        · rw [upd_same, flat_snoc he, if_neg hd]
          simp
    · rintro σ H2 ⟨v6, rfl, k2, hA2, hB2⟩
      rw [hlen, List.take_length, ← nr_flat] at hA2
      rw [hlen, List.take_length, ← fa_flat] at hB2
      exact q H2 k2 hA2 hB2
theorem d_Llog (R : Raw K mg "_law_log" s_Llog) (T : Txt mg) (D_Ldestroy : Def P w K mg base 41 "_law_destroy" ["_law_tree_here", "_law_node", "_law_depth", "_law_limit", "_law_log_here", "_law_shelf"] (sp_destroy 40)) (D_Lroot : Def P w K mg base 1 "_law_root" ["_law_tree_here"] sp_root) :
    Def P w K mg base 42 "_law_log" ["_law_tree_here", "_law_limit"] sp_log := by
  refine R.made sc_Llog (fun vs H Q E h => ?_) (fun _ _ _ _ _ _ us hl => match us, hl with | [_, _], _ => rfl) fun f cdv A outer s H vs Q E hr h => ?_
  · obtain ⟨v, t, r, k, l, rfl, _⟩ := h
    rfl
  obtain ⟨v, t, r, k, l, rfl, hT, hR, hn, hl, q⟩ := h
  have hT0 := hT
  obtain ⟨a, as, rfl, ha, hrow⟩ := hT
  have hu64 := hr.units
  have hr_Ldestroy : Room 41 _ := hr.mono (by decide)
  have hr_Lroot : Room 1 _ := hr.mono (by decide)
  refine ⟨_, pss_cons (ps_set (i := 2) sc_Llog.nd rfl (Or.inl rfl) (pe_lst pa_nil))
    (pss_cons (ps_set (i := 3) sc_Llog.nd rfl (Or.inl rfl) (pe_lst (pa_cons (pe_fn D_Lroot hr_Lroot (by rfl) (pa_cons (pv 0) pa_nil)) pa_nil)))
    (pss_cons (ps_while PassesOwn.never (pt_cmpR (op_neD hu64) (pv 3) (pe_lst pa_nil) (nomark _)) (pss_one (ps_expr (pe_fn D_Ldestroy hr_Ldestroy (by rfl) (pa_cons (pv 0) (pa_cons (pe_bm0 PySem.F.plainAttrs_list PySem.F.slot_list_pop PySem.F.type_list_pop mt_pop (pv 3)) (pa_cons pe_int (pa_cons (pv 1) (pa_cons (pv 2) (pa_cons (pv 3) pa_nil))))))))))
    (pss_one (ps_ret (pe_callTy call_tupleF (by rfl) T.tuple (by decide +kernel) (pa_cons (pv 2) pa_nil)))))), ?_⟩
  refine ⟨Nat.zero_le _, fun p hp => ?_⟩
  refine ⟨.ref a, rfl, .ref a, t, r, k, rfl, hT0.mono (tk_same (same_new hp)), hR, hn, fun H1 s1 => ?_⟩
  have h1p : H1 p = some (.lst []) := s1 _ _ upd_same
  have s1' : Same H H1 := (same_new hp).trans s1
  refine ⟨(by show 1 ≤ sizeLine; decide), fun z hz => ?_⟩
  have hz0 : H z = none := s1'.free hz
  have hpz : p ≠ z := ne_of_none h1p hz
  have tot : k.size + 1 = t.length := hR.size
  refine ⟨fun m σ H' => ∃ (S : List (Nat × F)) (xs : List Nat), m = (lgS l S).length ∧ σ = [some (.ref a), some (vn l), some (.ref p), some (.ref z)] ∧ Same H H' ∧ H' p = some (lstN xs) ∧ H' z = some (lstN (S.map (·.1)).reverse) ∧
      xs ++ lgS l S = lg l r k ∧ (∀ e ∈ S, Sub t e.1 e.2) ∧ sizeW S + xs.length ≤ t.length,
    ⟨_, [(r, k)], [], rfl, rfl, same_mut s1' hz0, keep hz h1p, upd_same, by simp [lgS], fun e he => (by rw [List.mem_singleton.mp he]; exact hR.sub), by rw [sizeW_cons]; simp [sizeW]; omega⟩, ?_⟩
  rintro m σ H2 ⟨S, xs, rfl, rfl, s2, h2p, h2z, hx, hS, hsz⟩
  refine ⟨_, rfl, test_ne h2z fun H3 s3 => ⟨_, rfl, ?_⟩⟩
  have h3p := s3 _ _ h2p
  have h3z := s3 _ _ h2z
  have s03 := s2.trans s3
  cases S with
  | nil =>
    refine iteF ⟨_, rfl, p, _, rfl, h3p, fun u hu => ?_⟩
    have e : xs = lg l r k := by simpa [lgS] using hx
    subst e
    exact q (.ref u) _ (same_mut s03 (s03.free hu)) ⟨u, rfl, upd_same⟩
  | cons e S =>
    obtain ⟨x, kx⟩ := e
    have hne : (List.map (·.1) ((x, kx) :: S)).reverse.isEmpty = false := by simp
    rw [hne]
    refine iteT ?_
    refine ⟨_, fun σ' H'' n => n, ?_⟩
    have er : ((List.map (·.1) ((x, kx) :: S)).reverse).map vn = ((S.map (·.1)).reverse).map vn ++ [vn x] := by simp
    have hsub := hS (x, kx) (by simp)
    rw [sizeW_cons] at hsz
    dsimp only at hsz hsub
    have lS := len_sizeW S
    refine ⟨_, rfl, _, rfl, .inl ⟨rfl, _, SqL.of h3z⟩, z, _, vn x, rfl, rfl, h3z, (by rw [er]; exact last_at _ _), ?_⟩
    rw [er, List.dropLast_concat]
    have h4z : upd H3 z (lstN (S.map (·.1)).reverse) z = some (lstN (S.map (·.1)).reverse) := upd_same
    have h4p := keepN hpz h3p (u := lstN (S.map (·.1)).reverse)
    have s04 : Same H (upd H3 z (lstN (S.map (·.1)).reverse)) := same_mut s03 hz0
    show ∃ v, _
    generalize upd H3 z (lstN (S.map (·.1)).reverse) = H4 at h4z h4p s04
    refine ⟨_, rfl, _, rfl, _, rfl, .ref a, t, x, kx, 0, l, p, z, xs, _, rfl, hT0.mono (tk_same s04), hsub.1, hsub.2, h4p, h4z, hpz, by omega, by omega, by omega, by rw [List.length_reverse, List.length_map]; omega, fun H5 k5 h5p h5z => ?_⟩
    refine ⟨(lgS l ((fa l 1 kx).reverse ++ S)).length, ?_, (fa l 1 kx).reverse ++ S, xs ++ x :: nr l 1 kx, rfl, rfl, fun b o g => k5 b o (ne_of_none g hp) (ne_of_none g hz0) (s04 b o g), h5p, ?_, ?_, ?_, ?_⟩
    · rw [lgS_append, lgS_fa, lgS_cons]
      simp [lg]
      omega
    · rw [h5z]
      simp
    · rw [← hx, lgS_append, lgS_fa, lgS_cons]
      simp [lg]
    · intro e he
      rcases List.mem_append.mp he with g | g
      · exact fa_sub l kx 1 hsub.kids e (List.mem_reverse.mp g)
      · exact hS e (by simp [g])
    · have h1 := (perm_lg l x kx).length_eq
      unfold lg at h1
      rw [List.length_cons, List.length_append, List.length_cons, F.all_length] at h1
      have h2 := sizeW_fa l kx 1
      have h4 : sizeW (fa l 1 kx).reverse = sizeW (fa l 1 kx) := by
        unfold sizeW
        exact ((List.reverse_perm _).map _).sum_nat
      have h5' := nr_fa l kx 1
      rw [sizeW_append, h4, List.length_append, List.length_cons]
      omega
end
end SF
end

/-! SFh3 -/
section
set_option Elab.async false
set_option linter.all false
set_option maxRecDepth 100000
set_option maxHeartbeats 4000000
/-! _law_deciding, _law_determines, _law_places, _law_some_limits. -/
namespace SF
open PySem PySem.Spec L2
open PyProof.Rows hiding St

def DecP (ls : List Nat) (j : Nat) (y : V) : Prop := (y = .non ∧ ∀ l ∈ ls, l ∣ j + 1) ∨ ((∃ z : Nat, y = vn z) ∧ ∃ l ∈ ls, ¬ l ∣ j + 1)
theorem dec_dvd {l i : Nat} (hl : 0 < l) : decide (V.int ((1 + (i : Int)) / (l : Int) * (l : Int)) = V.int (1 + (i : Int))) = decide (l ∣ i + 1) := by
  have e1 : (1 + (i : Int)) = ((i + 1 : Nat) : Int) := by omega
  rw [e1, ← Int.natCast_ediv, ← Int.natCast_mul]
  refine decide_eq_decide.mpr ?_
  have h := Nat.div_mul_le_self (i + 1) l
  constructor
  · intro e
    injection e with e
    have e' : (i + 1) / l * l = i + 1 := by omega
    exact ⟨(i + 1) / l, by rw [Nat.mul_comm]; exact e'.symm⟩
  · intro hd
    rw [Nat.div_mul_cancel hd]
theorem div_bits {i l : Nat} (hi : i ≤ 40) (hl : l ≤ 10 ^ 30) : CMulW ((1 + (i : Int)) / (l : Int)) (l : Int) := by
  have e1 : (1 + (i : Int)) = ((i + 1 : Nat) : Int) := by omega
  rw [e1, ← Int.natCast_ediv]
  refine wide_mul (a := 10) (b := 100) ?_ ?_ (by decide) (by decide) (by decide)
  · rw [Int.natAbs_natCast]
    have := Nat.div_le_self (i + 1) l
    omega
  · rw [Int.natAbs_natCast]
    exact lim_lt hl
section
variable {P : Program} {w : World} {K : PySem.W.Frag} {mg : Str → Option Value} {base : Heap}
theorem d_Ldeciding (R : Raw K mg "_law_deciding" s_Ldeciding) (T : Txt mg) :
    Def P w K mg base 1 "_law_deciding" ["_law_limits", "_law_size_here"] sp_deciding := by
  refine R.made sc_Ldeciding (fun vs H Q E h => ?_) (fun _ _ _ _ _ _ us hl => match us, hl with | [_, _], _ => rfl) fun f cdv A outer s H vs Q E hr h => ?_
  · obtain ⟨a, ls, n, rfl, _⟩ := h
    rfl
  obtain ⟨a, ls, n, rfl, ha, ⟨hlen, hlim⟩, hn, q⟩ := h
  have hu64 := hr.units
  refine ⟨_, pss_cons (ps_set (i := 2) sc_Ldeciding.nd rfl (Or.inl rfl) (pe_lst pa_nil))
    (pss_cons (ps_for PassesOwn.never rfl (pi_range2 (by rfl) T.range (pa_cons pe_int (pa_cons (pe_op op_sub (pv 1) pe_int) pa_nil))) (pg_name (i := 3) sc_Ldeciding.nd rfl (Or.inr rfl)) (pss_cons (ps_setLc (i := 4) (own := [("_law_limit", 5)]) (g := (gName 5)) rfl sc_Ldeciding.nd rfl rfl (sw_true rfl rfl rfl (by decide +kernel)) (pi_list (pv 0)) (blkOk_by (N := N_Ldeciding) (sc := defScope s_Ldeciding) (by decide +kernel)) (fun _ _ _ _ _ => (pg_name (i := 5) sc_Ldeciding.nd rfl (Or.inl rfl))) (fun _ _ _ _ _ => pts_one (pt_cmpR op_ne (pe_op op_mulW (pe_op op_fdivW (pv 3) (pv 5)) (pv 5)) (pv 3) (nomark _))) (fun _ _ _ _ _ => (pv 5)))
      (pss_one (ps_expr (pe_bm PySem.F.plainAttrs_list PySem.F.slot_list_append PySem.F.type_list_append mt_append (pv 2) (pa_cons (pe_ifExp (pt_cmpR (op_neD hu64) (pv 4) (pe_lst pa_nil) (nomark _)) (pe_callB (cr_min rfl) (by rfl) T.min (by decide +kernel) (pa_cons (pv 4) pa_nil)) pe_non) pa_nil))))))
    (pss_one (ps_ret (pe_callTy call_tupleF (by rfl) T.tuple (by decide +kernel) (pa_cons (pv 2) pa_nil))))), ?_⟩
  refine ⟨Nat.zero_le _, fun F0 hF => ?_⟩
  have s0 : Same H (upd H F0 (.lst [])) := same_new hF
  refine ⟨_, rfl, _, _, rfl, rfl, 1, _, rfl, ⟨by decide, by decide, by omega, by omega⟩, ?_⟩
  refine for_range (lo := 1) (n := ((n : Int) - 1 - 1).toNat) (fun i σ H' => ∃ v3 v4 xs, σ = [some (.ref a), some (vn n), some (.ref F0), v3, v4, none] ∧ Same H H' ∧ H' F0 = some (.lst xs) ∧ xs.length = i ∧ ∀ j y, xs[j]? = some y → DecP ls j y)
    ⟨none, none, [], rfl, s0, upd_same, rfl, fun j y e => (nil_at e).elim⟩ ?_ ?_
  · rintro i σ H1 hi ⟨v3, v4, xs, rfl, s1, h1, h2, h3⟩
    have hin : i < n - 2 := by omega
    refine ⟨_, rfl, a, rfl, ⟨_, SqL.of (s1 _ _ ha)⟩, fun D hD => ?_⟩
    have hD0 : H D = none := s1.free hD
    refine lc_list (K := K) (a := a) (xs := ls.map vn) (fun j H' => Same H1 H' ∧ H' D = some (lstN ((ls.take j).filter fun l => !decide (l ∣ i + 1)))) ⟨same_new hD, upd_same⟩ (fun j H' _ q => SqL.of (q.1 _ _ (s1 _ _ ha))) ?_ ?_
    · rintro j y H2 hj ⟨s2, hd2⟩
      obtain ⟨l, hl, rfl⟩ := map_at hj
      obtain ⟨l1, l2⟩ := hlim l (List.mem_of_getElem? hl)
      refine ⟨rfl, _, rfl, _, rfl, _, _, rfl, rfl, wide_div (b := 100) (by omega) (by rw [Int.natAbs_natCast]; exact lim_lt l2) (by decide) (by decide), _, rfl, _, _, rfl, rfl, div_bits (by omega) l2, _, rfl, rfl, _, rfl, ?_⟩
      show if (!decide (V.int ((1 + (i : Int)) / (l : Int) * (l : Int)) = V.int (1 + (i : Int)))) = true then _ else _
      rw [dec_dvd (by omega), filter_snoc hl]
      by_cases hd : l ∣ i + 1
      · rw [decide_eq_true hd]
        refine iteF ⟨s2, ?_⟩
        rw [hd2]
        simp [hd]
      · rw [decide_eq_false hd]
        refine iteT ⟨_, rfl, _, hd2, ?_, same_mut s2 hD, ?_⟩
        · have := List.length_filter_le (fun l => !decide (l ∣ i + 1)) (ls.take j)
          rw [List.length_take] at this
          rw [vn_len]
          exact smallT (by omega)
        · rw [upd_same, lst_snoc]
          simp [hd]
    · rintro H2 ⟨s2, hd2⟩
      rw [vn_len, List.take_length] at hd2
      have hF2 := s2 _ _ h1
      refine ⟨_, rfl, .inl ⟨rfl, _, SqL.of hF2⟩, _, rfl, test_ne hd2 fun H3 s3 => ⟨_, rfl, ?_⟩⟩
      have hF3 := s3 _ _ hF2
      have hd3 := s3 _ _ hd2
      have s03 := (s1.trans s2).trans s3
      have app : ∀ y, DecP ls i y → ∃ v3 v4 xs', [some (V.ref a), some (vn n), some (V.ref F0), some (V.int (1 + (i : Int))), some (V.ref D), none] = [some (.ref a), some (vn n), some (.ref F0), v3, v4, none] ∧ Same H (upd H3 F0 (.lst (xs ++ [y]))) ∧ upd H3 F0 (.lst (xs ++ [y])) F0 = some (.lst xs') ∧ xs'.length = i + 1 ∧ ∀ j y, xs'[j]? = some y → DecP ls j y := by
        intro y hy
        refine ⟨_, _, xs ++ [y], rfl, same_mut s03 hF, upd_same, by rw [List.length_append, h2]; rfl, fun j z e => ?_⟩
        rcases Nat.lt_or_ge j xs.length with hj | hj
        · rw [List.getElem?_append_left hj] at e
          exact h3 j z e
        · rw [List.getElem?_append_right hj] at e
          have hj0 : j - xs.length = 0 := by
            have := at_lt e
            rw [List.length_singleton] at this
            omega
          rw [hj0] at e
          cases e
          have ej : j = i := by omega
          rw [ej]
          exact hy
      cases hfit : ls.filter (fun l => !decide (l ∣ i + 1)) with
      | nil =>
        refine iteF ⟨F0, _, _, rfl, rfl, hF3, smallT (by omega), app .non (.inl ⟨rfl, fun l hl => ?_⟩)⟩
        rw [List.filter_eq_nil_iff] at hfit
        have := hfit l hl
        simpa using this
      | cons z zs =>
        rw [hfit] at hd3
        have hm : (z :: zs).map vn = ((z :: zs).map fun x : Nat => (x : Int)).map V.int := by rw [List.map_map]; rfl
        refine iteT ⟨_, rfl, D, (z :: zs).map (fun x : Nat => (x : Int)), rfl, SqL.of (by rw [← hm]; exact hd3), by simp, fun m hm1 _ => ?_⟩
        obtain ⟨z', hz', rfl⟩ := List.mem_map.mp hm1
        refine ⟨F0, _, _, rfl, rfl, hF3, smallT (by omega), app (vn z') (.inr ⟨⟨z', rfl⟩, z, ?_⟩)⟩
        have : z ∈ ls.filter (fun l => !decide (l ∣ i + 1)) := by rw [hfit]; simp
        rw [List.mem_filter] at this
        exact ⟨this.1, by simpa using this.2⟩
  · rintro σ H1 ⟨v3, v4, xs, rfl, s1, h1, h2, h3⟩
    refine ⟨_, rfl, F0, _, rfl, h1, fun p hp => q p _ xs (same_mut s1 (s1.free hp)) upd_same (by omega) h3⟩
theorem d_Ldetermines (R : Raw K mg "_law_determines" s_Ldetermines) (D_Ldeciding : Def P w K mg base 1 "_law_deciding" ["_law_limits", "_law_size_here"] sp_deciding) :
    Def P w K mg base 2 "_law_determines" ["_law_limits", "_law_size_here"] sp_Ldetermines := by
  refine R.made sc_Ldetermines (fun vs H Q E h => ?_) (fun _ _ _ _ _ _ us hl => match us, hl with | [_, _], _ => rfl) fun f cdv A outer s H vs Q E hr h => ?_
  · obtain ⟨a, ls, n, rfl, _⟩ := h
    rfl
  obtain ⟨a, ls, n, rfl, ha, hL, hn, q⟩ := h
  have hr_Ldeciding : Room 1 _ := hr.mono (by decide)
  refine ⟨_, pss_one (ps_ret (pe_or (pe_cmpR op_lt (pv 1) pe_int (nomark _)) (pe_one (pe_and (pe_cmpR op_inN pe_int (pv 0) (by rfl)) (pe_one (pe_cmpR op_notIn_seq pe_non (pe_fn D_Ldeciding hr_Ldeciding (by rfl) (pa_cons (pv 0) (pa_cons (pv 1) pa_nil))) (by rfl))))))), ?_⟩
  refine ⟨_, rfl, _, _, rfl, rfl, _, rfl, ?_⟩
  rcases Nat.lt_or_ge n 3 with h3 | h3
  · refine ite2 (fun _ => q true H (Same.refl _) ⟨fun _ => .inl h3, fun _ => rfl⟩) fun c => ?_
    exact absurd (decide_eq_true (by omega : (n : Int) < 3)) c
  · refine ite2 (fun c => ?_) fun _ => ?_
    · have := of_decide_eq_true c
      omega
    refine ⟨_, rfl, a, ls, 1, rfl, rfl, ha, _, rfl, ite2 (fun c => ?_) (fun c => ?_)⟩
    · have h1 : 1 ∈ ls := of_decide_eq_true c
      refine ⟨_, rfl, _, rfl, a, ls, n, rfl, ha, hL, hn, fun p H' xs s hp hl hx => ⟨p, xs, rfl, .inr (SqT.of hp), rfl, ?_, ?_⟩⟩
      · rw [List.all_eq_true]
        intro y hy
        obtain ⟨j, hj⟩ := List.getElem?_of_mem hy
        rcases hx j y hj with ⟨rfl, _⟩ | ⟨⟨z, rfl⟩, _⟩ <;> rfl
      · rw [if_pos rfl]
        refine q _ H' s ?_
        have key : inV .non xs = true ↔ ¬ Tells ls n := by
          unfold inV
          rw [List.any_eq_true]
          constructor
          · rintro ⟨y, hy, he⟩ ht
            obtain ⟨j, hj⟩ := List.getElem?_of_mem hy
            have hjl := at_lt hj
            rcases hx j y hj with ⟨rfl, hd⟩ | ⟨⟨z, rfl⟩, _⟩
            · obtain ⟨l, hl, hnd⟩ := ht (j + 1) (by omega) (by omega)
              exact hnd (hd l hl)
            · exact absurd he (by simp [eqV])
          · intro ht
            refine Classical.byContradiction fun hno => ht fun D h1 h2 => ?_
            have hD : D - 1 < xs.length := by omega
            rcases hx (D - 1) xs[D - 1] (List.getElem?_eq_getElem hD) with ⟨e, _⟩ | ⟨_, l, hl, hnd⟩
            · exact absurd ⟨xs[D - 1], List.getElem_mem hD, by rw [e]; rfl⟩ hno
            · exact ⟨l, hl, by rw [show D = D - 1 + 1 by omega]; exact hnd⟩
        have n3 : ¬ n < 3 := by omega
        cases hv : inV .non xs with
        | true =>
          rw [hv] at key
          have := key.mp rfl
          simp [n3, h1, this]
        | false =>
          rw [hv] at key
          have ht : Tells ls n := Classical.byContradiction fun c => by have := key.mpr c; cases this
          simp [n3, h1, ht]
    · have h1 : ¬ 1 ∈ ls := fun e => c (decide_eq_true e)
      refine q false H (Same.refl _) ⟨fun e => (by cases e), fun e => ?_⟩
      rcases e with e | e
      · omega
      · exact absurd e.1 h1
theorem d_Lplaces (R : Raw K mg "_law_places" s_Lplaces) (T : Txt mg) :
    Def P w K mg base 1 "_law_places" ["_law_log_here"] sp_places := by
  refine R.made sc_Lplaces (fun vs H Q E h => ?_) (fun _ _ _ _ _ _ us hl => match us, hl with | [_], _ => rfl) fun f cdv A outer s H vs Q E hr h => ?_
  · obtain ⟨a, l, n, ho, rfl, _⟩ := h
    rfl
  obtain ⟨a, l, n, ho, rfl, hz, ha, hp, hn, q⟩ := h
  refine ⟨_, pss_one (ps_ret (pe_lc (own := [("_law_node", 1)]) (g := (gName 1)) (tt := tYes) rfl sc_Lplaces.nd (pi_range1 (by rfl) T.range (pa_cons (pe_callB call_lenF (by rfl) T.len PySem.boot_len (pa_cons (pv 0) pa_nil)) pa_nil)) (blkOk_by (N := N_Lplaces) (sc := defScope s_Lplaces) (by decide +kernel)) (fun _ _ _ _ _ => (pg_name (i := 1) sc_Lplaces.nd rfl (Or.inl rfl))) (fun _ _ _ _ _ => pts_nil) (fun _ _ _ _ _ => (pe_bmT PySem.F.slot_tuple_index PySem.F.type_tuple_index mt_tindex (pv 0) (pa_cons (pv 1) pa_nil))))), ?_⟩
  have hll := perm_len hp
  refine ⟨_, rfl, a, _, rfl, .lg ⟨ho, .inr hz, ha⟩, _, rfl, by rw [vn_len]; omega, by rw [vn_len]; omega, fun D hD => ?_⟩
  rw [vn_len, hll]
  refine lc_range (lo := 0) (n := ((n : Nat) : Int).toNat) (fun i H' => Same H H' ∧ H' D = some (lstN ((spots n l).take i))) ⟨same_new hD, upd_same⟩ ?_ ?_
  · rintro i H1 hi ⟨s1, h1⟩
    rw [Int.toNat_natCast] at hi
    have e0 : (0 : Int) + (i : Int) = (i : Int) := Int.zero_add _
    have hm : i ∈ l := hp.mem_iff.mpr (List.mem_range.mpr hi)
    have hx := List.idxOf_lt_length_of_mem hm
    refine ⟨rfl, _, rfl, ⟨a, l, ho, rfl, hz, s1 _ _ ha⟩, _, rfl, a, l, i, l.idxOf i, rfl, (by rw [e0]), ⟨ho, .inr hz, s1 _ _ ha⟩, ?_, fun m hm e => idx_before l hm e rfl, _, h1, ?_, same_mut s1 hD, ?_⟩
    · rw [List.getElem?_eq_getElem hx]
      exact congrArg some (List.getElem_idxOf hx)
    · rw [vn_len, List.length_take]
      exact smallT (by omega)
    · rw [upd_same, lst_snoc, take_snoc (spots_at hi)]
  · rintro H1 ⟨s1, h1⟩
    rw [Int.toNat_natCast] at h1
    have e : (spots n l).take n = spots n l := List.take_of_length_le (by rw [spots_len]; exact Nat.le_refl _)
    rw [e] at h1
    exact q D H1 s1 hD h1
end
end SF
end

/-! SFh4 -/
section
set_option Elab.async false
set_option linter.all false
set_option maxRecDepth 100000
set_option maxHeartbeats 4000000
/-! _law_some_limits. -/
namespace SF
open PySem PySem.Spec L2
open PyProof.Rows hiding St

/-- some big limit tells -/
theorem tells_big {ls : List Nat} {n x : Nat} (hx : x ∈ ls) (h : n ≤ x + 1) : Tells ls n := fun D h1 h2 => ⟨x, hx, fun d => by
  have := Nat.le_of_dvd (by omega) d
  omega⟩
/-- a cut behind a statement: what holds there is named -/
def tCut (t u : TS) : TS := fun D σ H => ∃ Pv : St → Hp → Prop, t { D with nx := Pv } σ H ∧ ∀ σ' H', Pv σ' H' → u D σ' H'
theorem pss_cut {X : Cx} {st : Stmt} {rest : List Stmt} {t u : TS} (h1 : PS X st t) (h2 : PSs X rest u) : PSs X (st :: rest) (tCut t u) := by
  refine ⟨fun pins s σ H D I h => ?_⟩
  obtain ⟨Pv, h3, h4⟩ := h
  refine wpAny_execs_cons (thn (h1.run pins s σ H { D with nx := Pv } I h3) fun f s1 q => ?_)
  cases f with
  | next =>
    obtain ⟨σ', H', I', q⟩ := q
    exact h2.run pins s1 σ' H' D I' (h4 σ' H' q)
  | ret v => exact q
  | brk => exact q
  | cont => exact q
theorem det_of {ls : List Nat} {n : Nat} (h1 : 1 ∈ ls) (h0 : ∀ l ∈ ls, 1 ≤ l ∧ l ≤ 10 ^ 30) (ht : n < 3 ∨ (1 ∈ ls ∧ Tells ls n)) : Det ls n := ⟨fun e => (by rw [e] at h1; cases h1), fun l hl => (h0 l hl).1, ht⟩
theorem det_perm {ls ms : List Nat} {n : Nat} (h : ls.Perm ms) (d : Det ls n) : Det ms n := by
  refine ⟨fun e => ?_, fun l hl => d.pos l (h.mem_iff.mpr hl), d.tell.imp id fun q => ⟨h.mem_iff.mp q.1, fun D h1 h2 => ?_⟩⟩
  · rw [e] at h
    exact d.ne h.eq_nil
  · obtain ⟨l, hl, hd⟩ := q.2 D h1 h2
    exact ⟨l, h.mem_iff.mp hl, hd⟩
/-- what the choice of limits comes to -/
structure Chosen (ls : List Nat) (n : Nat) : Prop where
  few : ls.length ≤ 10
  lim : ∀ l ∈ ls, 1 ≤ l ∧ l ≤ 10 ^ 30
  diff : ls.Nodup
  det : Det ls n
theorem Chosen.ok {ls : List Nat} {n : Nat} (h : Chosen ls n) : LimOk ls := ⟨by have := h.few; omega, h.lim⟩
section
variable {P : Program} {w : World} {K : PySem.W.Frag} {mg : Str → Option Value} {base : Heap}
theorem d_Lsome_limits (R : Raw K mg "_law_some_limits" s_Lsome_limits) (T : Txt mg) (D_Ldetermines : Def P w K mg base 2 "_law_determines" ["_law_limits", "_law_size_here"] sp_Ldetermines) (D_Ldraw : Def P w K mg base 1 "_law_draw" ["_law_source_here", "_law_bound"] sp_draw) :
    Def P w K mg base 3 "_law_some_limits" ["_law_source_here", "_law_size_here"] sp_some_limits := by
  refine R.made sc_Lsome_limits (fun vs H Q E h => ?_) (fun _ _ _ _ _ _ us hl => match us, hl with | [_, _], _ => rfl) fun f cdv A outer s H vs Q E hr h => ?_
  · obtain ⟨S, N, n, rfl, _⟩ := h
    rfl
  obtain ⟨S, N, n, rfl, hsrc, hN, hn1, hn40, q⟩ := h
  have hr_Ldetermines : Room 2 _ := hr.mono (by decide)
  have hr_Ldraw : Room 1 _ := hr.mono (by decide)
  refine ⟨_, pss_cons (ps_set (i := 2) sc_Lsome_limits.nd rfl (Or.inr rfl) (pe_lst (pa_cons pe_int pa_nil)))
    (pss_cons (ps_for PassesOwn.never rfl (pi_range1 (by rfl) T.range (pa_cons (pe_fn D_Ldraw hr_Ldraw (by rfl) (pa_cons (pv 0) (pa_cons pe_int pa_nil))) pa_nil)) (pg_name (i := 3) sc_Lsome_limits.nd rfl (Or.inl rfl)) (pss_cons (ps_set (i := 4) sc_Lsome_limits.nd rfl (Or.inl rfl) (pe_op op_add pe_int (pe_fn D_Ldraw hr_Ldraw (by rfl) (pa_cons (pv 0) (pa_cons pe_int pa_nil)))))
      (pss_one (ps_set (i := 2) sc_Lsome_limits.nd rfl (Or.inr rfl) (pe_op op_cat (pv 2) (pe_op op_rep (pe_lst (pa_cons (pv 4) pa_nil)) (pe_callTy call_int1 (by rfl) T.int (by decide +kernel) (pa_cons (pe_cmpR op_notInN (pv 4) (pv 2) (by rfl)) pa_nil))))))))
    (pss_cons (ps_set (i := 5) sc_Lsome_limits.nd rfl (Or.inl rfl) (pe_op op_add pe_int (pe_fn D_Ldraw hr_Ldraw (by rfl) (pa_cons (pv 0) (pa_cons (pe_op op_pow pe_int pe_int) pa_nil)))))
    (pss_cut (ps_if (pt_not (pt_val (pe_fn D_Ldetermines hr_Ldetermines (by rfl) (pa_cons (pv 2) (pa_cons (pv 1) pa_nil))))) (pss_one (ps_expr (pe_bm PySem.F.plainAttrs_list PySem.F.slot_list_append PySem.F.type_list_append mt_append (pv 2) (pa_cons (pe_ix ix_l (pe_lst (pa_cons (pv 5) (pa_cons (pe_callB (call_max2 rfl) (by rfl) T.max (by decide +kernel) (pa_cons pe_int (pa_cons (pe_op op_sub (pv 1) pe_int) pa_nil))) (pa_cons (pe_op op_pow pe_int pe_int) pa_nil)))) (pe_fn D_Ldraw hr_Ldraw (by rfl) (pa_cons (pv 0) (pa_cons pe_int pa_nil))) (fun _ _ => rfl)) pa_nil)))) pss_nil)
    (pss_cons (ps_if (pt_not (pt_val (pe_fn D_Ldetermines hr_Ldetermines (by rfl) (pa_cons (pv 2) (pa_cons (pv 1) pa_nil))))) (pss_one (ps_expr (pe_bm PySem.F.plainAttrs_list PySem.F.slot_list_append PySem.F.type_list_append mt_append (pv 2) (pa_cons (pv 5) pa_nil)))) pss_nil)
    (pss_cut (ps_if (PW.pt (pw_and (pt_cmpR op_lt (pv 1) pe_int (nomark _)) (pw_and1 (pt_cmpR op_eq (pe_fn D_Ldraw hr_Ldraw (by rfl) (pa_cons (pv 0) (pa_cons pe_int pa_nil))) pe_int (nomark _))))) (pss_one (ps_set (i := 2) sc_Lsome_limits.nd rfl (Or.inr rfl) (pe_slice sl_list (pe_lst (pa_cons (pv 5) (pa_cons (pe_op op_pow pe_int pe_int) (pa_cons pe_int pa_nil)))) po_none (po_some (pe_op op_add pe_int (pe_fn D_Ldraw hr_Ldraw (by rfl) (pa_cons (pv 0) (pa_cons pe_int pa_nil)))))))) pss_nil)
    (pss_one (ps_ret (pe_lc (own := [("_law_entry", 3)]) (g := (gName 3)) (tt := tYes) rfl sc_Lsome_limits.nd (pi_range1 (by rfl) T.range (pa_cons (pe_callB call_lenF (by rfl) T.len PySem.boot_len (pa_cons (pv 2) pa_nil)) pa_nil)) (blkOk_by (N := N_Lsome_limits) (sc := defScope s_Lsome_limits) (by decide +kernel)) (fun _ _ _ _ _ => (pg_name (i := 3) sc_Lsome_limits.nd rfl (Or.inl rfl))) (fun _ _ _ _ _ => pts_nil) (fun _ _ _ _ _ => (pe_bmL PySem.F.slot_list_pop PySem.F.type_list_pop mt_popAt (pv 2) (pa_cons (pe_fn D_Ldraw hr_Ldraw (by rfl) (pa_cons (pv 0) (pa_cons (pe_callB call_lenF (by rfl) T.len PySem.boot_len (pa_cons (pv 2) pa_nil)) pa_nil))) pa_nil))))))))))), ?_⟩
  refine ⟨(by show 1 ≤ sizeLine; decide), fun F0 hF => ?_⟩
  have d0 : Dr S H (upd H F0 (.lst [.int 1])) := Dr.same (same_new hF)
  have src0 : Src (upd H F0 (.lst [.int 1])) S N := hsrc.new hF
  obtain ⟨oS, hoS⟩ := hsrc.at
  refine ⟨_, rfl, S, N, 5, rfl, src0, by omega, by decide, by decide, fun cnt H1 hcnt d1 src1 => ⟨_, rfl, by omega, by omega, ?_⟩⟩
  have hF1 : H1 F0 = some (lstN [1]) := d1.but F0 _ (Ne.symm (ne_of_none hoS hF)) upd_same
  refine for_range (lo := 0) (n := ((cnt : Nat) : Int).toNat) (fun i σ H' => ∃ (F1 : Addr) (v3 v4 : Option V) (fs : List Nat), σ = [some (.ref S), some (vn n), some (.ref F1), v3, v4, none] ∧ Dr S H H' ∧ Src H' S (N + 1 + i) ∧ H' F1 = some (lstN fs) ∧ F1 ≠ S ∧ H F1 = none ∧ 1 ∈ fs ∧ (∀ x ∈ fs, 1 ≤ x ∧ x ≤ 12) ∧ fs.Nodup ∧ fs.length ≤ 1 + i ∧ NotIn H' S F1)
    ⟨F0, none, none, [1], rfl, d0.trans d1, src1, hF1, Ne.symm (ne_of_none hoS hF), hF, by simp, by simp, by simp, by simp, (hsrc.notIn hF).dr (d0.trans d1)⟩ ?_ ?_
  · rintro i σ H2 hi ⟨F1, v3, v4, fs, rfl, d2, src2, hF2, hFS, hF2n, h1, hlim, hnd, hlen, hni⟩
    rw [Int.toNat_natCast] at hi
    refine ⟨_, rfl, S, N + 1 + i, 11, rfl, src2, by omega, by decide, by decide, fun v H3 hv d3 src3 => ⟨_, _, rfl, rfl, ?_⟩⟩
    have hF3 := d3.but F1 _ hFS hF2
    have d03 := d2.trans d3
    have e2 : V.int (2 + (v : Int)) = vn (2 + v) := by show V.int _ = V.int _; rw [Int.natCast_add]; rfl
    refine ⟨_, rfl, _, rfl, (by show 1 ≤ sizeLine; decide), fun p hp => ⟨_, rfl, _, rfl, F1, fs, 2 + v, e2, rfl, keep hp hF3, .inr ⟨_, rfl, p, _, _, rfl, rfl, upd_same, ?_, ?_, ?_, fun p2 hp2 => ?_⟩⟩⟩
    · split <;> decide
    · split <;> decide
    · show 1 * _ ≤ _
      split <;> decide
    have hF4 := keep hp2 (keep hp hF3 (u := .lst [V.int (2 + (v : Int))])) (u := .lst (List.replicate (if (!decide (2 + v ∈ fs)) = true then (1 : Int) else 0).toNat [V.int (2 + (v : Int))]).flatten)
    refine ⟨F1, p2, _, _, rfl, rfl, hF4, upd_same, ?_, fun F2 hF2' => ?_⟩
    · rw [vn_len]
      split <;> simp <;> exact small (by omega)
    have d4 : Dr S H3 (upd (upd (upd H3 p (.lst [V.int (2 + (v : Int))])) p2 (.lst (List.replicate (if (!decide (2 + v ∈ fs)) = true then (1 : Int) else 0).toNat [V.int (2 + (v : Int))]).flatten)) F2 (.lst (fs.map vn ++ (List.replicate (if (!decide (2 + v ∈ fs)) = true then (1 : Int) else 0).toNat [V.int (2 + (v : Int))]).flatten))) :=
      ((Dr.same (same_new hp)).trans (Dr.same (same_new hp2))).trans (Dr.same (same_new hF2'))
    have src4 := ((src3.new (o := .lst [V.int (2 + (v : Int))]) hp).new (o := .lst (List.replicate (if (!decide (2 + v ∈ fs)) = true then (1 : Int) else 0).toNat [V.int (2 + (v : Int))]).flatten) hp2).new (o := .lst (fs.map vn ++ (List.replicate (if (!decide (2 + v ∈ fs)) = true then (1 : Int) else 0).toNat [V.int (2 + (v : Int))]).flatten)) hF2'
    have ni4 := ((src3.new (o := .lst [V.int (2 + (v : Int))]) hp).new (o := .lst (List.replicate (if (!decide (2 + v ∈ fs)) = true then (1 : Int) else 0).toNat [V.int (2 + (v : Int))]).flatten) hp2).notIn hF2'
    obtain ⟨oS3, hoS3⟩ := src3.at
    have hF2S : F2 ≠ S := Ne.symm (ne_of_none (keep hp2 (keep hp hoS3)) hF2')
    have hF2n' : H F2 = none := by
      have s33 : Same H3 _ := (same_new (o := .lst [V.int (2 + (v : Int))]) hp).trans (same_new (o := .lst (List.replicate (if (!decide (2 + v ∈ fs)) = true then (1 : Int) else 0).toNat [V.int (2 + (v : Int))]).flatten) hp2)
      have g := s33.free hF2'
      exact d03.but.free ⟨oS, hoS⟩ g hF2S
    have ni5 : NotIn (upd (upd (upd H3 p (.lst [V.int (2 + (v : Int))])) p2 (.lst (List.replicate (if (!decide (2 + v ∈ fs)) = true then (1 : Int) else 0).toNat [V.int (2 + (v : Int))]).flatten)) F2 (.lst (fs.map vn ++ (List.replicate (if (!decide (2 + v ∈ fs)) = true then (1 : Int) else 0).toNat [V.int (2 + (v : Int))]).flatten))) S F2 := ni4.put hF2S
    by_cases hm : 2 + v ∈ fs
    · have e3 : fs.map vn ++ (List.replicate (if (!decide (2 + v ∈ fs)) = true then (1 : Int) else 0).toNat [V.int (2 + (v : Int))]).flatten = fs.map vn := by simp [hm]
      refine ⟨F2, _, _, fs, rfl, d03.trans d4, src4, ?_, hF2S, hF2n', h1, hlim, hnd, by omega, ni5⟩
      rw [upd_same, e3]
    · have e3 : fs.map vn ++ (List.replicate (if (!decide (2 + v ∈ fs)) = true then (1 : Int) else 0).toNat [V.int (2 + (v : Int))]).flatten = (fs ++ [2 + v]).map vn := by
        rw [List.map_append, e2]
        simp [hm]
      refine ⟨F2, _, _, fs ++ [2 + v], rfl, d03.trans d4, src4, ?_, hF2S, hF2n', by simp [h1], fun x hx => ?_, ?_, by rw [List.length_append, List.length_singleton]; omega, ni5⟩
      · rw [upd_same, e3]
      · rcases List.mem_append.mp hx with g | g
        · exact hlim x g
        · rw [List.mem_singleton.mp g]
          omega
      · rw [List.nodup_append]
        refine ⟨hnd, List.nodup_cons.mpr ⟨by simp, List.nodup_nil⟩, fun c hc c' hc' e => ?_⟩
        rw [List.mem_singleton.mp hc'] at e
        subst e
        exact hm hc
  rintro σ H2 ⟨F1, v3, v4, fs, rfl, d2, src2, hF2, hFS, hF2n, h1, hlim, hnd, hlen, hni⟩
  rw [Int.toNat_natCast] at src2 hlen
  -- great
  refine ⟨_, rfl, _, _, rfl, rfl, ⟨by decide, by decide, by decide⟩, S, N + 1 + cnt, 10 ^ 12, rfl, src2, by omega, by decide, Nat.le_refl _, fun g H3 hg d3 src3 => ⟨_, _, rfl, rfl, ?_⟩⟩
  have e41 : V.int (41 + (g : Int)) = vn (41 + g) := by show V.int _ = V.int _; rw [Int.natCast_add]; rfl
  have hF3 := d3.but F1 _ hFS hF2
  have d03 := d2.trans d3
  have ni3 := hni.dr d3
  have lim12 : ∀ x ∈ fs, 1 ≤ x ∧ x ≤ 10 ^ 30 := fun x hx => ⟨(hlim x hx).1, Nat.le_trans (hlim x hx).2 (by decide)⟩
  have lok : LimOk fs := ⟨by omega, lim12⟩
  have hG1 : 41 + g ≤ 10 ^ 30 := by omega
  refine ⟨fun σ H' => ∃ v3 v4 ls, σ = [some (.ref S), some (vn n), some (.ref F1), v3, v4, some (V.int (41 + (g : Int)))] ∧ Dr S H H' ∧ Src H' S (N + 20) ∧ H' F1 = some (lstN ls) ∧ NotIn H' S F1 ∧ 1 ∈ ls ∧ (∀ x ∈ ls, 1 ≤ x ∧ x ≤ 10 ^ 30) ∧ ls.Nodup ∧ ls.length ≤ 6 ∧ (n < 3 ∨ (1 ∈ ls ∧ Tells ls n)), ?_, ?_⟩
  · refine ⟨_, rfl, _, rfl, F1, fs, n, rfl, hF3, lok, hn40, fun b H4 s4 hb => ⟨b, rfl, ?_⟩⟩
    have hF4 := s4 _ _ hF3
    have d04 := d03.trans (Dr.same s4)
    have src4 := src3.same s4
    have ni4 := ni3.dr (Dr.same (S := S) s4)
    cases b with
    | true => exact iteF ⟨_, _, fs, rfl, d04, src4.le (by omega), hF4, ni4, h1, lim12, hnd, by omega, hb.mp rfl⟩
    | false =>
      have hno : ¬ (n < 3 ∨ (1 ∈ fs ∧ Tells fs n)) := fun e => by cases hb.mpr e
      have n3 : 3 ≤ n := by omega
      have hnt : ¬ Tells fs n := fun e => hno (.inr ⟨h1, e⟩)
      refine iteT ⟨_, rfl, .inl ⟨rfl, _, SqL.of hF4⟩, _, rfl, _, rfl, _, _, rfl, rfl, _, _, rfl, 10, 30, rfl, rfl, ⟨by decide, by decide, by decide⟩, (by show 3 ≤ sizeLine; decide), fun p hp => ?_⟩
      have hF5 := keep hp hF4 (u := .lst [V.int (41 + (g : Int)), V.int (if (n : Int) - 1 > 2 then (n : Int) - 1 else 2), V.int (10 ^ (30 : Int).toNat)])
      have src5 := src4.new (o := .lst [V.int (41 + (g : Int)), V.int (if (n : Int) - 1 > 2 then (n : Int) - 1 else 2), V.int (10 ^ (30 : Int).toNat)]) hp
      have d05 := d04.trans (Dr.same (same_new (o := .lst [V.int (41 + (g : Int)), V.int (if (n : Int) - 1 > 2 then (n : Int) - 1 else 2), V.int (10 ^ (30 : Int).toNat)]) hp))
      have hp5 : upd H4 p (.lst [V.int (41 + (g : Int)), V.int (if (n : Int) - 1 > 2 then (n : Int) - 1 else 2), V.int (10 ^ (30 : Int).toNat)]) p = some _ := upd_same
      obtain ⟨oS4, hoS4⟩ := src4.at
      have hpS : p ≠ S := Ne.symm (ne_of_none hoS4 hp)
      refine ⟨_, rfl, S, N + 1 + cnt + 1, 3, rfl, src5, by omega, by decide, by decide, fun v H6 hv d6 src6 => ?_⟩
      have hF6 := d6.but F1 _ hFS hF5
      have hp6 := d6.but p _ hpS hp5
      have ni6 := (ni4.dr (Dr.same (S := S) (same_new (o := .lst [V.int (41 + (g : Int)), V.int (if (n : Int) - 1 > 2 then (n : Int) - 1 else 2), V.int (10 ^ (30 : Int).toNat)]) hp))).dr d6
      have key : ∀ x : Nat, x ∉ fs → 1 ≤ x → x ≤ 10 ^ 30 → n ≤ x + 1 → ∃ v3 v4 ls, [some (V.ref S), some (vn n), some (V.ref F1), v3, v4, some (V.int (41 + (g : Int)))] = [some (.ref S), some (vn n), some (.ref F1), v3, v4, some (V.int (41 + (g : Int)))] ∧ Dr S H (upd H6 F1 (.lst (fs.map vn ++ [vn x]))) ∧ Src (upd H6 F1 (.lst (fs.map vn ++ [vn x]))) S (N + 20) ∧ upd H6 F1 (.lst (fs.map vn ++ [vn x])) F1 = some (lstN ls) ∧ NotIn (upd H6 F1 (.lst (fs.map vn ++ [vn x]))) S F1 ∧ 1 ∈ ls ∧ (∀ x ∈ ls, 1 ≤ x ∧ x ≤ 10 ^ 30) ∧ ls.Nodup ∧ ls.length ≤ 6 ∧ (n < 3 ∨ (1 ∈ ls ∧ Tells ls n)) := by
        intro x hx x1 x2 x3
        refine ⟨v3, v4, fs ++ [x], rfl, (d05.trans d6).mut hF2n, (src6.put ni6 hFS).le (by omega), by rw [upd_same, lst_snoc], ni6.put hFS, by simp [h1], fun y hy => ?_, ?_, by rw [List.length_append, List.length_singleton]; omega, .inr ⟨by simp [h1], tells_big (x := x) (by simp) x3⟩⟩
        · rcases List.mem_append.mp hy with q | q
          · exact lim12 y q
          · rw [List.mem_singleton.mp q]
            exact ⟨x1, x2⟩
        · rw [List.nodup_append]
          refine ⟨hnd, List.nodup_cons.mpr ⟨by simp, List.nodup_nil⟩, fun c hc c' hc' e => ?_⟩
          rw [List.mem_singleton.mp hc'] at e
          subst e
          exact hx hc
      have nbig : ∀ x : Nat, 12 < x → x ∉ fs := fun x hx e => by have := (hlim x e).2; omega
      have fin : ∀ (y : V) (x : Nat), y = vn x → x ∉ fs → 1 ≤ x → x ≤ 10 ^ 30 → n ≤ x + 1 → (fs.map vn).length < sizeLine ∧ ∃ v3' v4' ls, [some (V.ref S), some (vn n), some (V.ref F1), v3, v4, some (V.int (41 + (g : Int)))] = [some (.ref S), some (vn n), some (.ref F1), v3', v4', some (V.int (41 + (g : Int)))] ∧ Dr S H (upd H6 F1 (.lst (fs.map vn ++ [y]))) ∧ Src (upd H6 F1 (.lst (fs.map vn ++ [y]))) S (N + 20) ∧ upd H6 F1 (.lst (fs.map vn ++ [y])) F1 = some (lstN ls) ∧ NotIn (upd H6 F1 (.lst (fs.map vn ++ [y]))) S F1 ∧ 1 ∈ ls ∧ (∀ x ∈ ls, 1 ≤ x ∧ x ≤ 10 ^ 30) ∧ ls.Nodup ∧ ls.length ≤ 6 ∧ (n < 3 ∨ (1 ∈ ls ∧ Tells ls n)) := by
        rintro y x rfl a1 a2 a3 a4
        obtain ⟨v3', v4', ls, _, r⟩ := key x a1 a2 a3 a4
        exact ⟨smallT (by rw [vn_len]; omega), v3, v4, ls, rfl, r⟩
      match v, hv with
      | 0, _ => exact ⟨p, _, _, _, rfl, rfl, hp6, rfl, F1, _, _, rfl, rfl, hF6, fin _ (41 + g) e41 (nbig _ (by omega)) (by omega) hG1 (by omega)⟩
      | 1, _ =>
        refine ⟨p, _, _, _, rfl, rfl, hp6, rfl, F1, _, _, rfl, rfl, hF6, fin _ (n - 1) ?_ ?_ (by omega) (by omega) (by omega)⟩
        · show V.int _ = V.int _
          congr 1
          split <;> omega
        · exact fun e => hnt (tells_big e (by omega))
      | 2, _ => exact ⟨p, _, _, _, rfl, rfl, hp6, rfl, F1, _, _, rfl, rfl, hF6, fin _ (10 ^ 30) rfl (nbig _ (by decide)) (by decide) (Nat.le_refl _) (by omega)⟩
  clear hF3 d3 src3 ni3 d03
  rintro σ H3 ⟨v3, v4, ls, rfl, d3, src3, hF3, ni3, hl1, hll, hln, hl6, hdt⟩
  have lok2 : LimOk ls := ⟨by omega, hll⟩
  refine ⟨_, rfl, _, rfl, F1, ls, n, rfl, hF3, lok2, hn40, fun b H4 s4 hb => ⟨b, rfl, ?_⟩⟩
  have hbt : b = true := hb.mpr hdt
  subst hbt
  refine iteF ?_
  have hF4 := s4 _ _ hF3
  have d04 := d3.trans (Dr.same s4)
  have src4 := src3.same s4
  have ni4 := ni3.dr (Dr.same (S := S) s4)
  have hch : Chosen ls n := ⟨by omega, hll, hln, det_of hl1 hll hdt⟩
  refine ⟨fun σ H' => ∃ F2 v3 v4 ls, σ = [some (.ref S), some (vn n), some (.ref F2), v3, v4, some (V.int (41 + (g : Int)))] ∧ Dr S H H' ∧ Src H' S (N + 30) ∧ H' F2 = some (lstN ls) ∧ NotIn H' S F2 ∧ F2 ≠ S ∧ H F2 = none ∧ Chosen ls n, ?_, ?_⟩
  · refine ⟨_, rfl, _, _, rfl, rfl, _, rfl, ite2 (fun c => ?_) (fun c => ?_)⟩
    · have n3 : n < 3 := by have := of_decide_eq_true c; omega
      refine ⟨_, rfl, S, N + 20, 2, rfl, src4, by omega, by decide, by decide, fun v H5 hv d5 src5 => ⟨rfl, _, rfl, ite2 (fun c2 => ?_) (fun c2 => ?_)⟩⟩
      · refine ⟨_, rfl, 10, 30, rfl, rfl, ⟨by decide, by decide, by decide⟩, (by show 3 ≤ sizeLine; decide), fun p hp => ?_⟩
        have hp6 : upd H5 p (.lst [V.int (41 + (g : Int)), V.int (10 ^ (30 : Int).toNat), V.int 2]) p = some (lstN [41 + g, 10 ^ 30, 2]) := by
          rw [upd_same, e41]
          rfl
        have d6 := (d04.trans d5).trans (Dr.same (same_new (o := .lst [V.int (41 + (g : Int)), V.int (10 ^ (30 : Int).toNat), V.int 2]) hp))
        have src6 := src5.new (o := .lst [V.int (41 + (g : Int)), V.int (10 ^ (30 : Int).toNat), V.int 2]) hp
        obtain ⟨oS5, hoS5⟩ := src5.at
        have hpS : p ≠ S := Ne.symm (ne_of_none hoS5 hp)
        generalize upd H5 p (.lst [V.int (41 + (g : Int)), V.int (10 ^ (30 : Int).toNat), V.int 2]) = H6 at hp6 d6 src6
        refine ⟨_, rfl, S, N + 20 + 1, 3, rfl, src6, by omega, by decide, by decide, fun v2 H7 hv2 d7 src7 => ⟨_, _, rfl, rfl, _, rfl, p, _, rfl, SqL.of (d7.but p _ hpS hp6), fun z hz => ?_⟩⟩
        obtain ⟨oS7, hoS7⟩ := src7.at
        have hzS : z ≠ S := Ne.symm (ne_of_none hoS7 hz)
        have d07 := d6.trans d7
        have ec : cutV ([41 + g, 10 ^ 30, 2].map vn) none (some (1 + (v2 : Int))) = ([41 + g, 10 ^ 30, 2].take (1 + v2)).map vn := by
          have := cutTo ([41 + g, 10 ^ 30, 2].map vn) (1 + v2)
          rw [List.map_take, ← this]
          congr 2
        refine ⟨z, _, _, [41 + g, 10 ^ 30, 2].take (1 + v2), rfl, d07.trans (Dr.same (same_new hz)), (src7.new hz).le (by omega), ?_, (src7.notIn hz).put hzS, hzS, d07.but.free ⟨oS, hoS⟩ hz hzS, ⟨?_, ?_, ?_, ?_⟩⟩
        · rw [upd_same]
          exact congrArg (fun l => some (HO.lst l)) ec
        · have := (List.take_sublist (1 + v2) [41 + g, 10 ^ 30, 2]).length_le
          simp only [List.length_cons, List.length_nil] at this
          omega
        · intro l hl
          have := List.mem_of_mem_take hl
          simp only [List.mem_cons, List.not_mem_nil, or_false] at this
          rcases this with e | e | e <;> rw [e]
          · exact ⟨by omega, hG1⟩
          · exact ⟨by decide, Nat.le_refl _⟩
          · exact ⟨by decide, by decide⟩
        · refine List.Nodup.sublist (List.take_sublist _ _) ?_
          have a1 : 41 + g ≠ 10 ^ 30 := by omega
          have a2 : 41 + g ≠ 2 := by omega
          have a3 : (10 ^ 30 : Nat) ≠ 2 := by decide
          simp only [List.nodup_cons, List.mem_cons, List.not_mem_nil, or_false, not_or, List.nodup_nil, and_true, not_false_eq_true]
          exact ⟨⟨a1, a2⟩, a3⟩
        · refine ⟨fun e => ?_, fun l hl => ?_, .inl n3⟩
          · rw [Nat.add_comm, List.take_succ_cons] at e
            cases e
          · have := List.mem_of_mem_take hl
            simp only [List.mem_cons, List.not_mem_nil, or_false] at this
            rcases this with e | e | e <;> rw [e]
            · omega
            · decide
            · decide
      · exact ⟨F1, _, _, ls, rfl, d04.trans d5, src5.le (by omega), d5.but F1 _ hFS hF4, ni4.dr d5, hFS, hF2n, hch⟩
    · exact iteF ⟨F1, _, _, ls, rfl, d04, src4.le (by omega), hF4, ni4, hFS, hF2n, hch⟩
  clear hF4 d04 src4 ni4 hch hF3 d3 src3 ni3 hdt hl1 hll hln hl6 lok2
  rintro σ H5 ⟨F2, v3, v4, ls, rfl, d5, src5, hF5, ni5, hF2S, hF2n', hch⟩
  have hfew := hch.few
  refine ⟨_, rfl, F2, _, rfl, .inl hF5, _, rfl, by rw [vn_len]; omega, by rw [vn_len]; omega, fun D hD => ?_⟩
  obtain ⟨oS5, hoS5⟩ := src5.at
  have hDS : D ≠ S := Ne.symm (ne_of_none hoS5 hD)
  have hD0 : H D = none := d5.but.free ⟨oS, hoS⟩ hD hDS
  have hFD : F2 ≠ D := ne_of_none hF5 hD
  refine lc_range (lo := 0) (n := (((ls.map vn).length : Nat) : Int).toNat) (fun i H' => ∃ (R A : List Nat), Dr S H H' ∧ Src H' S (N + 30 + i) ∧ H' F2 = some (lstN R) ∧ H' D = some (lstN A) ∧ (A ++ R).Perm ls ∧ A.length = i ∧ NotIn H' S F2 ∧ NotIn H' S D)
    ⟨ls, [], d5.mut hD0, src5.new hD, keep hD hF5, upd_same, List.Perm.refl _, rfl, ni5.dr (Dr.same (same_new hD)), (src5.notIn hD).put hDS⟩ ?_ ?_
  · rintro i H1 hi ⟨R, A, b2, src, hL1, hD1, hper, hA, n1, n2⟩
    rw [Int.toNat_natCast, vn_len] at hi
    have hlen := hper.length_eq
    rw [List.length_append] at hlen
    refine ⟨rfl, _, rfl, ⟨F2, _, rfl, hL1⟩, _, rfl, _, rfl, F2, _, rfl, .inl hL1, S, N + 30 + i, R.length, ?_, src, by omega, by omega, Nat.le_trans (by omega : R.length ≤ 40) (by decide), fun v H2 hv b3 src3 => ?_⟩
    · rw [vn_len]
      rfl
    have hL2 := b3.but F2 _ hF2S hL1
    have hD2 := b3.but D _ hDS hD1
    obtain ⟨y, hy⟩ : ∃ y, R[v]? = some y := ⟨_, List.getElem?_eq_getElem hv⟩
    have hseq : seqIndex? (v : Int) (R.map vn).length = some v := by
      rw [seqIndex_of (by omega) (by rw [vn_len]; omega), Int.toNat_natCast]
    refine ⟨F2, _, (v : Int), v, vn y, rfl, rfl, hL2, by omega, by omega, hseq, at_map hy, ?_⟩
    have b4 : Dr S H H2 := b2.trans b3
    have n3 := n1.dr b3
    have n4 := n2.dr b3
    refine ⟨_, keepN (Ne.symm hFD) hD2, smallT (by rw [vn_len]; omega), R.eraseIdx v, A ++ [y], (b4.mut hF2n').mut hD0, ?_, ?_, by rw [upd_same, lst_snoc], ?_, by rw [List.length_append, hA]; rfl, ?_, ?_⟩
    · exact (src3.put n3 hF2S).put (n4.put hF2S) hDS
    · rw [upd_ne hFD, upd_same, erase_map]
    · refine List.Perm.trans ?_ hper
      rw [List.append_assoc]
      refine List.Perm.append_left A ?_
      exact (perm_erase hy).symm
    · exact (n3.put hF2S).put hDS
    · exact (n4.put hF2S).put hDS
  · rintro H1 ⟨R, A, b2, src, hL1, hD1, hper, hA, n1, n2⟩
    rw [Int.toNat_natCast, vn_len] at hA src
    have hlen := hper.length_eq
    rw [List.length_append] at hlen
    have hR : R = [] := List.length_eq_zero_iff.mp (by omega)
    subst hR
    rw [List.append_nil] at hper
    exact q D A H1 b2 (src.le (by omega)) hD0 hD1 ⟨by omega, fun l hl => hch.lim l (hper.mem_iff.mp hl)⟩ (hper.nodup_iff.mpr hch.diff) (det_perm hper.symm hch.det) (by omega)
end
end SF
end

/-! SFh5 -/
section
set_option Elab.async false
set_option linter.all false
set_option maxRecDepth 100000
set_option maxHeartbeats 4000000
/-! _law_damaged. -/
namespace SF
open PySem PySem.Spec L2
open PyProof.Rows hiding St

theorem swap_perm {l : List Nat} {i j a b : Nat} (hi : l[i]? = some a) (hj : l[j]? = some b) : ((l.set i b).set j a).Perm l := by
  obtain ⟨h1, e1⟩ := List.getElem?_eq_some_iff.mp hi
  obtain ⟨h2, e2⟩ := List.getElem?_eq_some_iff.mp hj
  rw [← e1, ← e2]
  exact List.set_set_perm h1 h2
/-- lists that are permutations at the addresses; none is S's -/
def RowsP (H : Hp) (rs : List Addr) (n : Nat) : Prop := ∀ b ∈ rs, ∃ l, H b = some (lstN l) ∧ l.Perm (List.range n)
section
variable {P : Program} {w : World} {K : PySem.W.Frag} {mg : Str → Option Value} {base : Heap}
theorem d_Ldamaged (R : Raw K mg "_law_damaged" s_Ldamaged) (T : Txt mg) (D_Ldraw : Def P w K mg base 1 "_law_draw" ["_law_source_here", "_law_bound"] sp_draw) (D_Lpermutation : Def P w K mg base 2 "_law_permutation" ["_law_source_here", "_law_size_here"] sp_permutation) :
    Def P w K mg base 3 "_law_damaged" ["_law_source_here", "_law_pairs"] sp_damaged := by
  refine R.made sc_Ldamaged (fun vs H Q E h => ?_) (fun _ _ _ _ _ _ us hl => match us, hl with | [_, _], _ => rfl) fun f cdv A outer s H vs Q E hr h => ?_
  · obtain ⟨S, N, a, qs, ps, n, rfl, _⟩ := h
    rfl
  obtain ⟨S, N, a, qs, ps, n, rfl, hsrc, hN, ha, hps, hP, hn, hpl, q⟩ := h
  have hr_Ldraw : Room 1 _ := hr.mono (by decide)
  have hr_Lpermutation : Room 2 _ := hr.mono (by decide)
  refine ⟨_, pss_cons (ps_set (i := 2) sc_Ldamaged.nd rfl (Or.inl rfl) (pe_fn D_Ldraw hr_Ldraw (by rfl) (pa_cons (pv 0) (pa_cons pe_int pa_nil))))
    (pss_cons (ps_set (i := 3) sc_Ldamaged.nd rfl (Or.inr rfl) (pe_lc (own := [("_law_limit", 9), ("_law_log_here", 10)]) (g := (gTup K 2 (gCons (gName 9) (gCons (gName 10) gNil)))) (tt := tYes) rfl sc_Ldamaged.nd (pi_list (pv 1)) (blkOk_by (N := N_Ldamaged) (sc := defScope s_Ldamaged) (by decide +kernel)) (fun _ _ _ _ _ => (pg_tup (by rfl) (pgs_cons (pg_name (i := 9) sc_Ldamaged.nd rfl (Or.inl rfl)) (pgs_cons (pg_name (i := 10) sc_Ldamaged.nd rfl (Or.inl rfl)) pgs_nil)))) (fun _ _ _ _ _ => pts_nil) (fun _ _ _ _ _ => (pe_callTy call_listF (by rfl) T.list (by decide +kernel) (pa_cons (pv 10) pa_nil)))))
    (pss_cons (ps_set (i := 4) sc_Ldamaged.nd rfl (Or.inl rfl) (pe_fn D_Ldraw hr_Ldraw (by rfl) (pa_cons (pv 0) (pa_cons (pe_callB call_lenF (by rfl) T.len PySem.boot_len (pa_cons (pv 3) pa_nil)) pa_nil))))
    (pss_cons (ps_set (i := 5) sc_Ldamaged.nd rfl (Or.inl rfl) (pe_callB call_lenF (by rfl) T.len PySem.boot_len (pa_cons (pe_ix ix_l (pv 3) pe_int (fun _ _ => rfl)) pa_nil)))
    (pss_cons (ps_set (i := 6) sc_Ldamaged.nd rfl (Or.inl rfl) (pe_fn D_Ldraw hr_Ldraw (by rfl) (pa_cons (pv 0) (pa_cons (pv 5) pa_nil))))
    (pss_cons (ps_set (i := 7) sc_Ldamaged.nd rfl (Or.inl rfl) (pe_fn D_Ldraw hr_Ldraw (by rfl) (pa_cons (pv 0) (pa_cons (pv 5) pa_nil))))
    (pss_cut (ps_if (pt_cmpR op_lt (pv 2) pe_int (nomark _)) (pss_cons (ps_set (i := 8) sc_Ldamaged.nd rfl (Or.inl rfl) (pe_ix ix_l (pv 3) (pv 4) (fun _ _ => rfl)))
      (pss_one (ps_asg (pe_tup (pa_cons (pe_ix ix_l (pv 8) (pv 7) (fun _ _ => rfl)) (pa_cons (pe_ix ix_l (pv 8) (pv 6) (fun _ _ => rfl)) pa_nil))) (pg_tup (by rfl) (pgs_cons (pg_sub (pv 8) (pv 6) set_list) (pgs_cons (pg_sub (pv 8) (pv 7) set_list) pgs_nil)))))) (pss_one (ps_if (pt_cmpR op_eq (pv 2) pe_int (nomark _)) (pss_one (ps_asg (pe_callTy call_listF (by rfl) T.list (by decide +kernel) (pa_cons (pe_fn D_Lpermutation hr_Lpermutation (by rfl) (pa_cons (pv 0) (pa_cons (pv 5) pa_nil))) pa_nil)) (pg_sub (pv 3) (pv 4) set_list))) (pss_one (ps_set (i := 3) sc_Ldamaged.nd rfl (Or.inr rfl) (pe_op op_cat (pe_slice sl_list (pv 3) (po_some pe_int) po_none) (pe_slice sl_list (pv 3) po_none (po_some pe_int))))))))
    (pss_one (ps_ret (pe_lc (own := [("_law_at", 11)]) (g := (gName 11)) (tt := tYes) rfl sc_Ldamaged.nd (pi_range1 (by rfl) T.range (pa_cons (pe_callB call_lenF (by rfl) T.len PySem.boot_len (pa_cons (pv 3) pa_nil)) pa_nil)) (blkOk_by (N := N_Ldamaged) (sc := defScope s_Ldamaged) (by decide +kernel)) (fun _ _ _ _ _ => (pg_name (i := 11) sc_Ldamaged.nd rfl (Or.inl rfl))) (fun _ _ _ _ _ => pts_nil) (fun _ _ _ _ _ => (pe_tup (pa_cons (pe_ix ix_t (pe_ix ix_l (pv 1) (pv 11) (fun _ _ => rfl)) pe_int (fun _ _ => rfl)) (pa_cons (pe_callTy call_tupleZ (by rfl) T.tuple (by decide +kernel) (pa_cons (pe_ix ix_l (pv 3) (pv 11) (fun _ _ => rfl)) pa_nil)) pa_nil))))))))))))), ?_⟩
  have hpos := hP.pos
  have hlen : (qs.map V.ref).length = ps.length := by rw [List.length_map]; exact hps.1
  have hpne : 0 < ps.length := List.length_pos_iff.mpr hP.ne
  obtain ⟨oS, hoS⟩ := id hsrc.at
  have haS : a ≠ S := fun e => by
    subst e
    obtain ⟨C, _, _, _, g, _⟩ := hsrc
    rw [ha] at g
    injection g with g
    injection g with g
    have := congrArg List.length g
    rw [List.length_map] at this
    cases qs with
    | nil => simp at this
    | cons q1 r1 =>
      cases r1 with
      | nil => simp at this
      | cons q2 r2 => simp at g
  -- way
  refine ⟨_, rfl, S, N, 4, rfl, hsrc, by omega, by decide, by decide, fun way H1 hway d1 src1 => ?_⟩
  have tk1 : TK H H1 := by
    obtain ⟨C, _, _, _, g, _⟩ := hsrc
    exact tk_but d1.but g
  have ha1 := d1.but a _ haS ha
  have hps1 := hps.mono tk1
  -- rows
  refine ⟨_, rfl, a, rfl, ⟨_, SqL.of ha1⟩, fun D hD => ?_⟩
  refine lc_list (K := K) (a := a) (xs := qs.map V.ref) (fun i H' => Same H1 H' ∧ ∃ rs : List Addr, H' D = some (.lst (rs.map V.ref)) ∧ rs.length = i ∧ (∀ b ∈ rs, H1 b = none ∧ b ≠ D) ∧ RowsP H' rs n)
    ⟨same_new hD, [], upd_same, rfl, fun b hb => (by cases hb), fun b hb => (by cases hb)⟩ (fun i H' _ q => SqL.of (q.1 _ _ ha1)) ?_ ?_
  · rintro i y H2 hi ⟨s2, rs, h1, h2, h3, h4⟩
    obtain ⟨q1, hqi, rfl⟩ := map_at hi
    have hi' : i < ps.length := by rw [← hps.1]; exact at_lt hqi
    obtain ⟨pi, hpi⟩ : ∃ pi, ps[i]? = some pi := ⟨_, List.getElem?_eq_getElem hi'⟩
    obtain ⟨q2, u2, ho2, ht2, hq2, hq2t, hu2⟩ := hps1.at hpi
    rw [hqi] at hq2
    cases hq2
    refine ⟨q1, _, rfl, SqT.of (s2 _ _ hq2t), rfl, _, _, rfl, _, _, rfl, rfl, rfl, _, rfl, u2, _, rfl, .lg ⟨ho2, ht2, s2 _ _ hu2⟩, fun c hc => ?_⟩
    have hcD : c ≠ D := Ne.symm (ne_of_none h1 hc)
    refine ⟨_, keep hc h1, smallT (by rw [List.length_map]; omega), same_mut (s2.trans (same_new hc)) hD, rs ++ [c], by rw [upd_same, List.map_append]; rfl, by rw [List.length_append, h2]; rfl, fun b hb => ?_, fun b hb => ?_⟩
    · rcases List.mem_append.mp hb with g | g
      · exact h3 b g
      · rw [List.mem_singleton.mp g]
        exact ⟨s2.free hc, hcD⟩
    · rcases List.mem_append.mp hb with g | g
      · obtain ⟨l, hl, hl2⟩ := h4 b g
        exact ⟨l, keepN (h3 b g).2 (keep hc hl), hl2⟩
      · rw [List.mem_singleton.mp g]
        exact ⟨pi.2, keepN hcD upd_same, hP.perm pi (List.mem_of_getElem? hpi)⟩
  rintro H2 ⟨s2, rs, hD2, hrl, hr1, hrP⟩
  rw [hlen] at hrl
  have d2 := d1.trans (Dr.same s2)
  have src2 := src1.same s2
  obtain ⟨oS1, hoS1⟩ := src1.at
  have hDS : D ≠ S := Ne.symm (ne_of_none hoS1 hD)
  have hrS : ∀ b ∈ rs, b ≠ S := fun b hb => Ne.symm (ne_of_none hoS1 (hr1 b hb).1)
  have hD0 : H D = none := d1.but.free ⟨oS, hoS⟩ hD hDS
  have hr0 : ∀ b ∈ rs, H b = none := fun b hb => d1.but.free ⟨oS, hoS⟩ (hr1 b hb).1 (hrS b hb)
  have niD : NotIn H2 S D := (src1.notIn hD).dr (Dr.same s2)
  have niR : ∀ b ∈ rs, NotIn H2 S b := fun b hb => (src1.notIn (hr1 b hb).1).dr (Dr.same s2)
  have rlen : (rs.map V.ref).length = ps.length := by rw [List.length_map, hrl]
  -- which
  refine ⟨_, rfl, _, rfl, D, _, rfl, .inl hD2, S, N + 1, ps.length, ?_, src2, by omega, by omega, Nat.le_trans hpl (by decide), fun which H3 hwh d3 src3 => ?_⟩
  · rw [rlen]
    rfl
  have hD3 := d3.but D _ hDS hD2
  have keepR : ∀ {Ha Hb : Hp}, Dr S Ha Hb → RowsP Ha rs n → RowsP Hb rs n := fun d h b hb => let ⟨l, e, p⟩ := h b hb; ⟨l, d.but b _ (hrS b hb) e, p⟩
  have hrP3 := keepR d3 hrP
  -- size_here = len(rows[0])
  obtain ⟨b0, hb0⟩ : ∃ b, rs[0]? = some b := ⟨_, List.getElem?_eq_getElem (by omega)⟩
  obtain ⟨l0, hl0, hp0⟩ := hrP3 b0 (List.mem_of_getElem? hb0)
  have hz0 := perm_len hp0
  refine ⟨_, rfl, D, _, 0, _, rfl, rfl, hD3, ix_ref (i := 0) hb0, b0, _, rfl, .inl hl0, ?_⟩
  rw [vn_len, hz0]
  -- one, other
  refine ⟨_, rfl, _, rfl, S, N + 2, n, rfl, src3, by omega, hpos, Nat.le_trans hn (by decide), fun one H4 hone d4 src4 => ?_⟩
  have hrP4 := keepR d4 hrP3
  have hD4 := d4.but D _ hDS hD3
  refine ⟨_, rfl, _, rfl, S, N + 3, n, rfl, src4, by omega, hpos, Nat.le_trans hn (by decide), fun other H5 hoth d5 src5 => ?_⟩
  have hrP5 := keepR d5 hrP4
  have hD5 := d5.but D _ hDS hD4
  have d25 := (d3.trans d4).trans d5
  have d05 := d2.trans d25
  clear hD4 hrP4 hrP3 hD3
  obtain ⟨bw, hbw⟩ : ∃ b, rs[which]? = some b := ⟨_, List.getElem?_eq_getElem (by omega)⟩
  have hbwm := List.mem_of_getElem? hbw
  have hrowD : ∀ b ∈ rs, b ≠ D := fun b hb => (hr1 b hb).2
  refine ⟨fun σ H' => ∃ (D2 : Addr) (rs2 : List Addr) (v8 : Option V), σ = [some (.ref S), some (.ref a), some (vn way), some (.ref D2), some (vn which), some (vn n), some (vn one), some (vn other), v8, none, none, none] ∧ Dr S H H' ∧ Src H' S (N + 150) ∧ H' D2 = some (.lst (rs2.map V.ref)) ∧ rs2.length = ps.length ∧ RowsP H' rs2 n, ?_, ?_⟩
  · refine ⟨_, rfl, _, _, rfl, rfl, _, rfl, ite2 (fun c => ?_) (fun c => ?_)⟩
    · -- swap
      obtain ⟨lw, hlw, hpw⟩ := hrP5 bw hbwm
      have hzw := perm_len hpw
      obtain ⟨x1, hx1⟩ : ∃ x, lw[one]? = some x := ⟨_, List.getElem?_eq_getElem (by omega)⟩
      obtain ⟨x2, hx2⟩ : ∃ x, lw[other]? = some x := ⟨_, List.getElem?_eq_getElem (by omega)⟩
      refine ⟨_, rfl, _, rfl, D, _, _, _, rfl, rfl, hD5, ix_ref hbw, ?_⟩
      refine ⟨_, rfl, _, rfl, bw, _, _, _, rfl, rfl, hlw, ix_at hx2, _, rfl, _, rfl, bw, _, _, _, rfl, rfl, hlw, ix_at hx1, (by show 2 ≤ sizeLine; decide), fun t ht => ?_⟩
      have hlt := keep ht hlw (u := .tup [vn x2, vn x1])
      refine ⟨t, _, rfl, SqT.of upd_same, rfl, _, _, rfl, _, rfl, _, rfl, bw, _, _, one, rfl, rfl, hlt, ixN_nat (by rw [vn_len]; omega), _, _, rfl, _, rfl, _, rfl, bw, _, _, other, rfl, rfl, upd_same, ixN_nat (by rw [List.length_set, vn_len]; omega), rfl, ?_⟩
      have hbS := hrS bw hbwm
      have hn1 : H bw = none := hr0 bw hbwm
      refine ⟨D, rs, _, rfl, ((d05.trans (Dr.same (same_new ht))).mut hn1).mut hn1, ?_, keepN (Ne.symm (hrowD bw hbwm)) (keepN (Ne.symm (hrowD bw hbwm)) (keep ht hD5)), hrl, fun b hb => ?_⟩
      · have n1 := ((niR bw hbwm).dr d25).dr (Dr.same (S := S) (same_new (o := .tup [vn x2, vn x1]) ht))
        exact (((src5.new ht).put n1 hbS).put (n1.put hbS) hbS).le (by omega)
      · by_cases e : b = bw
        · subst e
          refine ⟨(lw.set one x2).set other x1, ?_, (swap_perm hx1 hx2).trans hpw⟩
          rw [upd_same, vn_set, vn_set]
        · obtain ⟨l, hl, hl2⟩ := hrP5 b hb
          exact ⟨l, keepN e (keepN e (keep ht hl)), hl2⟩
    · refine ⟨_, rfl, rfl, _, rfl, ite2 (fun c2 => ?_) (fun c2 => ?_)⟩
      · -- a fresh permutation
        refine ⟨_, rfl, _, rfl, S, N + 4, n, rfl, src5, by omega, hn, fun v l H6 hl d6 src6 ht => ?_⟩
        obtain ⟨u, rfl, hu⟩ := ht
        refine ⟨u, _, rfl, .inr hu, fun c hc => ?_⟩
        have hD6 := d6.but D _ hDS hD5
        refine ⟨_, rfl, _, rfl, D, _, _, which, rfl, rfl, keep hc hD6, ixN_nat (by rw [rlen]; exact hwh), ?_⟩
        have n1 := ((niD.dr d25).dr d6).dr (Dr.same (S := S) (same_new (o := lstN l) hc))
        refine ⟨D, rs.set which c, _, rfl, ((d05.trans d6).trans (Dr.same (same_new hc))).mut hD0, ((src6.new hc).put n1 hDS).le (by omega), ?_, by rw [List.length_set, hrl], fun b hb => ?_⟩
        · rw [upd_same, List.map_set]
        · rcases List.mem_or_eq_of_mem_set hb with g | g
          · obtain ⟨l', hl', hl2⟩ := hrP5 b g
            exact ⟨l', keepN (hrowD b g) (keep hc (d6.but b _ (hrS b g) hl')), hl2⟩
          · rw [g]
            exact ⟨l, keepN (Ne.symm (ne_of_none hD6 hc)) upd_same, hl⟩
      · -- rotated
        have e1 : cutV (rs.map V.ref) (some 1) none = (rs.drop 1).map V.ref := by rw [cut1, List.map_drop]
        have e2 : cutV (rs.map V.ref) none (some 1) = (rs.take 1).map V.ref := by
          have := cutTo (rs.map V.ref) 1
          rw [List.map_take]
          exact this
        refine ⟨_, rfl, 1, rfl, D, _, rfl, SqL.of hD5, fun x hx => ?_⟩
        rw [e1]
        refine ⟨_, rfl, 1, rfl, D, _, rfl, SqL.of (keep hx hD5), fun y hy => ?_⟩
        rw [e2]
        refine ⟨x, y, _, _, rfl, rfl, keep hy upd_same, upd_same, ?_, fun z hz => ?_⟩
        · rw [List.length_map, List.length_map]
          have h1 := (List.drop_sublist 1 rs).length_le
          have h2 := (List.take_sublist 1 rs).length_le
          exact small (by omega)
        · refine ⟨z, rs.drop 1 ++ rs.take 1, _, rfl, ((d05.trans (Dr.same (same_new hx))).trans (Dr.same (same_new hy))).trans (Dr.same (same_new hz)), (((src5.new hx).new hy).new hz).le (by omega), ?_, ?_, fun b hb => ?_⟩
          · rw [upd_same, List.map_append]
          · rw [List.length_append, List.length_drop, List.length_take]
            omega
          · have hbm : b ∈ rs := by
              rcases List.mem_append.mp hb with g | g
              · exact List.mem_of_mem_drop g
              · exact List.mem_of_mem_take g
            obtain ⟨l, hl, hl2⟩ := hrP5 b hbm
            exact ⟨l, keep hz (keep hy (keep hx hl)), hl2⟩
  clear hrP5 hD5 d05 d25 src5
  rintro σ H6 ⟨D2, rs2, v8, rfl, d6, src6, hD6, hr2, hrP6⟩
  have ha6 := d6.but a _ haS ha
  have hps6 : PairsAt H6 qs ps := hps.mono (by
    obtain ⟨C, _, _, _, g, _⟩ := hsrc
    exact tk_but d6.but g)
  have rlen2 : (rs2.map V.ref).length = ps.length := by rw [List.length_map, hr2]
  refine ⟨_, rfl, D2, _, rfl, .inl hD6, _, rfl, by rw [rlen2]; omega, by rw [rlen2]; omega, fun E0 hE => ?_⟩
  rw [rlen2]
  obtain ⟨oS6, hoS6⟩ := src6.at
  have hES : E0 ≠ S := Ne.symm (ne_of_none hoS6 hE)
  refine lc_range (lo := 0) (n := ((ps.length : Nat) : Int).toNat) (fun i H' => Same H6 H' ∧ ∃ (qs' : List Addr) (ps' : Pairs), H' E0 = some (.lst (qs'.map V.ref)) ∧ PairsZ H' qs' ps' ∧ ps'.map (·.1) = (ps.take i).map (·.1) ∧ ∀ p ∈ ps', p.2.Perm (List.range n))
    ⟨same_new hE, [], [], upd_same, ⟨rfl, fun j q p e => (nil_at e).elim⟩, rfl, fun p hp => (by cases hp)⟩ ?_ ?_
  · rintro i H7 hi ⟨s7, qs', ps', h1, h2, h3, h4⟩
    rw [Int.toNat_natCast] at hi
    have e0 : (0 : Int) + (i : Int) = (i : Int) := Int.zero_add _
    obtain ⟨pi, hpi⟩ : ∃ pi, ps[i]? = some pi := ⟨_, List.getElem?_eq_getElem hi⟩
    obtain ⟨q2, u2, ho2, ht2, hq2, hq2t, hu2⟩ := hps6.at hpi
    obtain ⟨bi, hbi⟩ : ∃ b, rs2[i]? = some b := ⟨_, List.getElem?_eq_getElem (by omega)⟩
    obtain ⟨li, hli, hlp⟩ := hrP6 bi (List.mem_of_getElem? hbi)
    refine ⟨rfl, _, rfl, _, rfl, a, _, _, _, rfl, rfl, s7 _ _ ha6, (by rw [e0]; exact ix_ref hq2), q2, _, 0, _, rfl, rfl, s7 _ _ hq2t, rfl, _, rfl, _, rfl, D2, _, _, _, rfl, rfl, s7 _ _ hD6, (by rw [e0]; exact ix_ref hbi), bi, li, rfl, s7 _ _ hli, fun u ho hz hu => ⟨(by show 2 ≤ sizeLine; decide), fun t ht => ?_⟩⟩
    have hE7 : E0 ≠ t := ne_of_none (keep hu h1) ht
    have hl' := h2.1
    have hpl' : ps'.length = i := by
      have := congrArg List.length h3
      rw [List.length_map, List.length_map, List.length_take] at this
      omega
    refine ⟨_, keep ht (keep hu h1), smallT (by rw [List.length_map]; omega), same_mut ((s7.trans (same_new hu)).trans (same_new ht)) hE, qs' ++ [t], ps' ++ [(pi.1, li)], by rw [upd_same, List.map_append]; rfl, ⟨by rw [List.length_append, List.length_append, hl']; rfl, fun j q p e1 e2 => ?_⟩, ?_, fun p hp => ?_⟩
    · have tk : TK H7 (upd (upd (upd H7 u ho) t (.tup [vn pi.1, .ref u])) E0 (.lst (qs'.map V.ref ++ [.ref t]))) := ((tk_new hu).trans (tk_new ht)).trans (tk_lst (keep ht (keep hu h1)))
      rcases Nat.lt_or_ge j qs'.length with hj | hj
      · rw [List.getElem?_append_left hj] at e1
        rw [List.getElem?_append_left (by omega)] at e2
        exact (h2.mono tk).2 j q p e1 e2
      · rw [List.getElem?_append_right hj] at e1
        rw [List.getElem?_append_right (by omega)] at e2
        have hj0 : j - qs'.length = 0 := by
          have := at_lt e1
          rw [List.length_singleton] at this
          omega
        rw [hj0] at e1
        rw [← hl', hj0] at e2
        cases e1
        cases e2
        have hEu : u ≠ E0 := Ne.symm (ne_of_none h1 hu)
        exact ⟨u, ho, hz, keepN (Ne.symm hE7) upd_same, keepN hEu (keep ht upd_same)⟩
    · rw [List.map_append, h3, take_snoc hpi, List.map_append]
      rfl
    · rcases List.mem_append.mp hp with g | g
      · exact h4 p g
      · rw [List.mem_singleton.mp g]
        exact hlp
  · rintro H7 ⟨s7, qs', ps', h1, h2, h3, h4⟩
    rw [Int.toNat_natCast, List.take_length] at h3
    refine q E0 qs' ps' H7 (d6.trans (Dr.same s7)) ((src6.same s7).le (by omega)) h1 h2 h3 ⟨fun e => ?_, hpos, h4⟩
    rw [e] at h3
    have := congrArg List.length h3
    rw [List.length_map, List.length_map] at this
    simp at this
    omega
end
end SF
end

/-! SFh6 -/
section
set_option Elab.async false
set_option linter.all false
set_option maxRecDepth 100000
set_option maxHeartbeats 4000000
/-! _law_forced. -/
namespace SF
open PySem PySem.Spec L2
open PyProof.Rows hiding St

/-- lists of numbers at the addresses -/
abbrev LstsAt (H : Hp) (us : List Addr) (ls : List (List Nat)) : Prop := Paired (fun u l => H u = some (lstN l)) us ls
theorem dp_lsts {K : PySem.W.Frag} {H : Hp} : ∀ {us : List Addr} {ls : List (List Nat)}, LstsAt H us ls → DpAll K H (us.map V.ref) (ls.map fun l => PyData.list (dI l))
  | [], [], .nil => .nil
  | u :: us, l :: ls, .cons h t => .cons (.lst (SqL.of h) (dp_ints l)) (dp_lsts t)
theorem lay_dLs : ∀ ls : List (List Nat), PyData.canLayAll0 (ls.map fun l => PyData.list (dI l)) = true
  | [] => rfl
  | l :: ls => by
    show (PyData.canLayAll0 (dI l) && PyData.canLayAll0 (ls.map fun l => PyData.list (dI l))) = true
    rw [lay_dI, lay_dLs ls]
    rfl
theorem depth_dLs : ∀ ls : List (List Nat), PyData.depthAll (ls.map fun l => PyData.list (dI l)) ≤ 1
  | [] => Nat.zero_le _
  | l :: ls => by
    have := depth_dLs ls
    show max (PyData.depth (.list (dI l))) (PyData.depthAll (ls.map fun l => PyData.list (dI l))) ≤ 1
    have e : PyData.depth (.list (dI l)) = 1 := by simp only [PyData.depth, depth_dI]
    omega
theorem shaped_dLs (ls : List (List Nat)) : SeqAt.shaped (.list (ls.map fun l => PyData.list (dI l))) = true := by
  have := depth_dLs ls
  unfold SeqAt.shaped
  simp only [PyData.canLay0, PyData.depth, lay_dLs]
  simp
  omega
/-- the first place from which on none of the others holds, from the back -/
theorem cut_step {p : Nat → Bool} {l : List Nat} {i c : Nat} (h : l[i]? = some c) : i + ((l.drop i).takeWhile p).length = if p c = true then i + 1 + ((l.drop (i + 1)).takeWhile p).length else i := by
  have e : l.drop i = c :: l.drop (i + 1) := by
    obtain ⟨h1, h2⟩ := List.getElem?_eq_some_iff.mp h
    rw [List.drop_eq_getElem_cons h1, h2]
  rw [e, List.takeWhile_cons]
  split <;> simp <;> omega
theorem at_m2 (A : List Nat) (y x : Nat) : atI ((A ++ [y, x]).map vn) (-2) = some (vn y) := by
  unfold atI ixN
  have hl : ((A ++ [y, x]).map vn).length = A.length + 2 := by rw [vn_len, List.length_append]; rfl
  rw [hl, if_neg (by decide), if_pos (by omega)]
  have e : (-2 + ((A.length + 2 : Nat) : Int)).toNat = A.length := by omega
  show (some (-2 + ((A.length + 2 : Nat) : Int)).toNat).bind _ = _
  rw [e]
  show ((A ++ [y, x]).map vn)[A.length]? = _
  rw [List.getElem?_map, List.getElem?_append_right (Nat.le_refl _)]
  simp
theorem last_split (x0 : Nat) (A : List Nat) : ∃ B, x0 :: A = B ++ [lastOf x0 A] := by
  obtain ⟨r, hr⟩ := last_rev x0 A
  refine ⟨r.reverse, ?_⟩
  have := congrArg List.reverse hr
  rw [List.reverse_reverse] at this
  rw [this]
  simp
theorem ordOf_eq {ps : Pairs} {p0 : Nat × List Nat} (hp0 : ps[0]? = some p0) : ordOf ps = ((ps.filter fun p => p.1 == 1).map (·.2) ++ [p0.2]).headD [] := by
  unfold ordOf
  have : (ps.map (·.2)).take 1 = [p0.2] := by
    cases ps with
    | nil => simp at hp0
    | cons p r =>
      have : p = p0 := by simpa using hp0
      subst this
      simp
  rw [this]
section
variable {P : Program} {w : World} {K : PySem.W.Frag} {mg : Str → Option Value} {base : Heap}
theorem d_Lforced (R : Raw K mg "_law_forced" s_Lforced) (T : Txt mg) (D_Lplaces : Def P w K mg base 1 "_law_places" ["_law_log_here"] sp_places) :
    Def P w K mg base 2 "_law_forced" ["_law_pairs"] sp_Lforced := by
  refine R.made sc_Lforced (fun vs H Q E h => ?_) (fun _ _ _ _ _ _ us hl => match us, hl with | [_], _ => rfl) fun f cdv A outer s H vs Q E hr h => ?_
  · obtain ⟨a, qs, ps, n, rfl, _⟩ := h
    rfl
  obtain ⟨a, qs, ps, n, rfl, ha, hpz, hP, hn40, hfew, q⟩ := h
  have hu64 := hr.units
  have hr_Lplaces : Room 1 _ := hr.mono (by decide)
  refine ⟨_, pss_cons (ps_set (i := 1) sc_Lforced.nd rfl (Or.inl rfl) (pe_ix ix_l (pe_op op_cat (pe_lc (own := [("_law_limit", 8), ("_law_log_here", 9)]) (g := (gTup K 2 (gCons (gName 8) (gCons (gName 9) gNil)))) rfl sc_Lforced.nd (pi_list (pv 0)) (blkOk_by (N := N_Lforced) (sc := defScope s_Lforced) (by decide +kernel)) (fun _ _ _ _ _ => (pg_tup (by rfl) (pgs_cons (pg_name (i := 8) sc_Lforced.nd rfl (Or.inl rfl)) (pgs_cons (pg_name (i := 9) sc_Lforced.nd rfl (Or.inl rfl)) pgs_nil)))) (fun _ _ _ _ _ => pts_one (pt_cmpR op_eq (pv 8) pe_int (nomark _))) (fun _ _ _ _ _ => (pv 9))) (pe_lst (pa_cons (pe_ix ix_t (pe_ix ix_l (pv 0) pe_int (fun _ _ => rfl)) pe_int (fun _ _ => rfl)) pa_nil))) pe_int (fun _ _ => rfl)))
    (pss_cons (ps_setLc (i := 2) (own := [("_law_limit", 8), ("_law_log_here", 9)]) (g := (gTup K 2 (gCons (gName 8) (gCons (gName 9) gNil)))) (tt := tYes) rfl sc_Lforced.nd rfl rfl (sw_true rfl rfl rfl (by decide +kernel)) (pi_list (pv 0)) (blkOk_by (N := N_Lforced) (sc := defScope s_Lforced) (by decide +kernel)) (fun _ _ _ _ _ => (pg_tup (by rfl) (pgs_cons (pg_name (i := 8) sc_Lforced.nd rfl (Or.inl rfl)) (pgs_cons (pg_name (i := 9) sc_Lforced.nd rfl (Or.inl rfl)) pgs_nil)))) (fun _ _ _ _ _ => pts_nil) (fun _ _ _ _ _ => (pe_fn D_Lplaces hr_Lplaces (by rfl) (pa_cons (pv 9) pa_nil))))
    (pss_cons (ps_set (i := 3) sc_Lforced.nd rfl (Or.inr rfl) (pe_lst (pa_cons (pe_ix ix_z (pv 1) pe_int (fun _ _ => rfl)) pa_nil)))
    (pss_cons (ps_set (i := 4) sc_Lforced.nd rfl (Or.inl rfl) (pe_op op_rep (pe_lst (pa_cons (pe_tup pa_nil) pa_nil)) (pe_callB call_lenF (by rfl) T.len PySem.boot_len (pa_cons (pv 1) pa_nil))))
    (pss_cons (ps_for PassesOwn.never rfl (pi_tup (pe_slice sl_tup (pv 1) (po_some pe_int) po_none)) (pg_name (i := 5) sc_Lforced.nd rfl (Or.inr rfl)) (pss_cons (ps_set (i := 6) sc_Lforced.nd rfl (Or.inl rfl) (pe_callB call_lenF (by rfl) T.len PySem.boot_len (pa_cons (pv 3) pa_nil)))
      (pss_cons (ps_for PassesOwn.never rfl (pi_range3 (by rfl) T.range (pa_cons (pe_op op_sub (pe_callB call_lenF (by rfl) T.len PySem.boot_len (pa_cons (pv 3) pa_nil)) pe_int) (pa_cons pe_int (pa_cons (pe_un un_neg pe_int) pa_nil)))) (pg_name (i := 7) sc_Lforced.nd rfl (Or.inr rfl)) (pss_one (ps_if (pt_cmpR (op_neD hu64) (pe_lc (own := [("_law_table", 10)]) (g := (gName 10)) rfl sc_Lforced.nd (pi_list (pv 2)) (blkOk_by (N := N_Lforced) (sc := defScope s_Lforced) (by decide +kernel)) (fun _ _ _ _ _ => (pg_name (i := 10) sc_Lforced.nd rfl (Or.inl rfl))) (fun _ _ _ _ _ => pts_one (pt_cmpR op_lt (pe_ix ix_l (pv 10) (pv 5) (fun _ _ => rfl)) (pe_ix ix_l (pv 10) (pe_ix ix_l (pv 3) (pv 7) (fun _ _ => rfl)) (fun _ _ => rfl)) (nomark _))) (fun _ _ _ _ _ => (pv 10))) (pe_lst pa_nil) (nomark _)) (pss_one (ps_set (i := 6) sc_Lforced.nd rfl (Or.inl rfl) (pv 7))) pss_nil)))
      (pss_cons (ps_set (i := 3) sc_Lforced.nd rfl (Or.inr rfl) (pe_op op_cat (pe_slice sl_list (pv 3) po_none (po_some (pv 6))) (pe_lst (pa_cons (pv 5) pa_nil))))
      (pss_one (ps_asg (pe_op op_catT (pe_tup (pa_cons (pv 5) pa_nil)) (pe_ix ix_l (pv 4) (pe_ix ix_l (pv 3) (pe_un un_neg pe_int) (fun _ _ => rfl)) (fun _ _ => rfl))) (pg_sub (pv 4) (pe_ix ix_l (pv 3) (pe_un un_neg pe_int) (fun _ _ => rfl)) set_list)))))))
    (pss_one (ps_ret (pe_callTy call_tupleF (by rfl) T.tuple (by decide +kernel) (pa_cons (pv 4) pa_nil)))))))), ?_⟩
  have hps := hpz.pa
  have hlen : (qs.map V.ref).length = ps.length := by rw [List.length_map]; exact hps.1
  have hne : 0 < ps.length := List.length_pos_iff.mpr hP.ne
  obtain ⟨p0, hp0⟩ : ∃ p0, ps[0]? = some p0 := ⟨_, List.getElem?_eq_getElem hne⟩
  obtain ⟨q0, u0, ho0, ht0, hq0, hq0t, hu0⟩ := hps.at hp0
  have hord := ordOf_eq hp0
  have hordP := hP.ordPerm
  have hordL := hP.ordLen
  have hordC := hP.ordCons
  have hpos := hP.pos
  -- order
  refine ⟨_, rfl, a, rfl, ⟨_, SqL.of ha⟩, fun D hD => ?_⟩
  refine lc_list (K := K) (a := a) (xs := qs.map V.ref) (fun i H' => Same H H' ∧ ∃ us, H' D = some (.lst (us.map V.ref)) ∧ LogsAt H us (((ps.take i).filter fun p => p.1 == 1).map (·.2)) ∧ us.length ≤ i)
    ⟨same_new hD, [], upd_same, trivial, Nat.le_refl _⟩ (fun i H' _ h => SqL.of (h.1 _ _ ha)) ?_ ?_
  · rintro i y H1 hi ⟨s1, us, h1, h2, h3⟩
    obtain ⟨q1, hqi, rfl⟩ := map_at hi
    have hi' : i < ps.length := by rw [← hps.1]; exact at_lt hqi
    obtain ⟨pi, hpi⟩ : ∃ pi, ps[i]? = some pi := ⟨_, List.getElem?_eq_getElem hi'⟩
    obtain ⟨q2, u2, ho2, ht2, hq2, hq2t, hu2⟩ := hps.at hpi
    rw [hqi] at hq2
    cases hq2
    refine ⟨q1, _, rfl, SqT.of (s1 _ _ hq2t), rfl, _, _, rfl, _, _, rfl, rfl, rfl, _, rfl, rfl, _, rfl, ?_⟩
    rw [filter_snoc hpi]
    by_cases e : pi.1 = 1
    · have e1 : decide (vn pi.1 = V.int 1) = true := decide_eq_true (by rw [e]; rfl)
      have e2 : (pi.1 == 1) = true := by rw [e]; rfl
      refine ite2 (fun _ => ?_) (fun c => absurd e1 c)
      simp only [if_pos e2, List.map_append]
      refine ⟨_, rfl, _, h1, smallT (by rw [List.length_map]; omega), same_mut s1 hD, us ++ [u2], by rw [upd_same, List.map_append]; rfl, h2.append ⟨⟨ho2, ht2, hu2⟩, trivial⟩, by rw [List.length_append, List.length_singleton]; omega⟩
    · have e1 : ¬ decide (vn pi.1 = V.int 1) = true := fun h => e (vn_inj.mp (of_decide_eq_true h : vn pi.1 = vn 1))
      have e2 : ¬ (pi.1 == 1) = true := by simpa using e
      refine ite2 (fun c => absurd c e1) (fun _ => ?_)
      simp only [if_neg e2, List.append_nil]
      exact ⟨s1, us, h1, h2, by omega⟩
  rintro H1 ⟨s1, us, h1, h2, h3⟩
  rw [hlen, List.take_length] at h2
  rw [hlen] at h3
  refine ⟨_, rfl, a, _, 0, _, rfl, rfl, s1 _ _ ha, ix_ref (i := 0) hq0, q0, _, 1, _, rfl, rfl, s1 _ _ hq0t, rfl, (by show 1 ≤ sizeLine; decide), fun L hL => ?_⟩
  refine ⟨D, L, _, _, rfl, rfl, keep hL h1, upd_same, ?_, fun O hO => ?_⟩
  · rw [List.length_map]
    exact small (by show us.length + 1 ≤ _; omega)
  have hLA : LogsAt H (us ++ [u0]) ((ps.filter fun p => p.1 == 1).map (·.2) ++ [p0.2]) := h2.append ⟨⟨ho0, ht0, hu0⟩, trivial⟩
  obtain ⟨uo, uor, huo, huot⟩ := hLA.head (fun h => by have := congrArg List.length h; simp at this)
  rw [← hord] at huot
  have eO : us.map V.ref ++ [V.ref u0] = (uo :: uor).map V.ref := by rw [← huo, List.map_append]; rfl
  rw [eO]
  refine ⟨O, _, 0, _, rfl, rfl, upd_same, ix_ref (i := 0) rfl, ?_⟩
  have s2 : Same H (upd (upd H1 L (.lst [.ref u0])) O (.lst ((uo :: uor).map V.ref))) := (s1.trans (same_new hL)).trans (same_new hO)
  generalize upd (upd H1 L (.lst [.ref u0])) O (.lst ((uo :: uor).map V.ref)) = H2 at s2
  clear h1 h2 h3 eO hLA huo
  -- tables
  refine ⟨_, rfl, a, rfl, ⟨_, SqL.of (s2 _ _ ha)⟩, fun S hS => ?_⟩
  refine lc_list (K := K) (a := a) (xs := qs.map V.ref) (fun i H' => Same H2 H' ∧ ∃ ss : List Addr, H' S = some (.lst (ss.map V.ref)) ∧ ss.length = i ∧ ∀ j b l, ss[j]? = some b → (ps.map (·.2))[j]? = some l → H' b = some (lstN (spots n l)) ∧ b ≠ S)
    ⟨same_new hS, [], upd_same, rfl, fun j b l e => (nil_at e).elim⟩ (fun i H' _ h => SqL.of (h.1 _ _ (s2 _ _ ha))) ?_ ?_
  · rintro i y H3 hi ⟨s3, ss, h1, h2, h3⟩
    obtain ⟨q1, hqi, rfl⟩ := map_at hi
    have hi' : i < ps.length := by rw [← hps.1]; exact at_lt hqi
    obtain ⟨pi, hpi⟩ : ∃ pi, ps[i]? = some pi := ⟨_, List.getElem?_eq_getElem hi'⟩
    obtain ⟨u2, ho2, hz2, hq2t, hu2⟩ := hpz.2 i q1 pi hqi hpi
    have s03 := s2.trans s3
    refine ⟨q1, _, rfl, SqT.of (s03 _ _ hq2t), rfl, _, _, rfl, _, _, rfl, rfl, rfl, _, rfl, u2, pi.2, n, ho2, rfl, hz2, s03 _ _ hu2, hP.perm pi (List.mem_of_getElem? hpi), hn40, fun p H4 s4 hp h4 => ?_⟩
    have hSp : S ≠ p := ne_of_none h1 hp
    refine ⟨_, s4 _ _ h1, smallT (by rw [List.length_map]; omega), same_mut (s3.trans s4) hS, ss ++ [p], by rw [upd_same, List.map_append]; rfl, by rw [List.length_append, h2]; rfl, fun j b l e1 e2 => ?_⟩
    rcases Nat.lt_or_ge j ss.length with hj | hj
    · rw [List.getElem?_append_left hj] at e1
      obtain ⟨g1, g2⟩ := h3 j b l e1 e2
      exact ⟨keepN g2 (s4 _ _ g1), g2⟩
    · rw [List.getElem?_append_right hj] at e1
      have hj0 : j - ss.length = 0 := by
        have := at_lt e1
        rw [List.length_singleton] at this
        omega
      rw [hj0] at e1
      cases e1
      have ej : j = i := by omega
      subst ej
      rw [at_map hpi] at e2
      cases e2
      exact ⟨keepN (Ne.symm hSp) h4, Ne.symm hSp⟩
  rintro H3 ⟨s3, ss, hS3, hssl, hss⟩
  rw [hlen] at hssl
  have s03 := s2.trans s3
  have huo3 := huot.mono s03
  generalize hx0 : (ordOf ps).headD 0 = x0 at hordC
  generalize hxs : (ordOf ps).drop 1 = xs at hordC
  have hxl : xs.length + 1 = n := by
    have := congrArg List.length hordC
    rw [hordL] at this
    rw [this, List.length_cons]
  have hnd : (x0 :: xs).Nodup := by rw [← hordC]; exact hordP.nodup_iff.mpr List.nodup_range
  have hmn : ∀ y ∈ x0 :: xs, y < n := fun y hy => perm_lt hordP (by rw [hordC]; exact hy)
  have hFT : FT ps = arr n (rs (bfOf (ps.map (·.2))) x0 xs xs.length).2 := by
    unfold FT forced rs
    rw [hordL, hx0, hxs, List.take_length]
  rw [hordC] at huo3
  -- path
  refine ⟨_, rfl, uo, _, 0, _, rfl, rfl, huo3, ix_at (i := 0) rfl, (by show 1 ≤ sizeLine; decide), fun p hp => ?_⟩
  have s4 : Same H3 (upd H3 p (.lst [vn x0])) := same_new hp
  have hp4 : upd H3 p (.lst [vn x0]) p = some (lstN [x0]) := upd_same
  generalize upd H3 p (.lst [vn x0]) = H4 at s4 hp4
  -- rows
  refine ⟨(by show 0 ≤ sizeLine; decide), fun t0 ht0 => ⟨(by show 1 ≤ sizeLine; decide), fun t1 ht1 => ⟨_, rfl, uo, _, rfl, .lg ((huo3.mono s4).mono ((same_new ht0).trans (same_new ht1))), t1, _, _, rfl, rfl, upd_same, by rw [vn_len, List.length_cons]; omega, by rw [vn_len, List.length_cons]; omega, ?_, fun Rw hRw => ?_⟩⟩⟩
  · rw [Int.toNat_natCast, vn_len]
    refine small ?_
    show 1 * (xs.length + 1) ≤ _
    omega
  have eR : (List.replicate (((x0 :: xs).map vn).length : Int).toNat [V.ref t0]).flatten = (List.replicate n t0).map V.ref := by
    rw [Int.toNat_natCast, rep_flat, vn_len, List.length_cons, hxl, List.map_replicate]
  rw [eR]
  have s5 : Same H4 (upd (upd (upd H4 t0 (.tup [])) t1 (.lst [.ref t0])) Rw (.lst ((List.replicate n t0).map V.ref))) := ((same_new ht0).trans (same_new ht1)).trans (same_new hRw)
  have hRw5 : upd (upd (upd H4 t0 (.tup [])) t1 (.lst [.ref t0])) Rw (.lst ((List.replicate n t0).map V.ref)) Rw = some (.lst ((List.replicate n t0).map V.ref)) := upd_same
  have ht05 : upd (upd (upd H4 t0 (.tup [])) t1 (.lst [.ref t0])) Rw (.lst ((List.replicate n t0).map V.ref)) t0 = some (.tup []) := keep hRw (keep ht1 upd_same)
  have hRw3 : H3 Rw = none := s4.free (((same_new ht0).trans (same_new ht1)).free hRw)
  generalize upd (upd (upd H4 t0 (.tup [])) t1 (.lst [.ref t0])) Rw (.lst ((List.replicate n t0).map V.ref)) = H5 at s5 hRw5 ht05
  -- for node in order[1:]
  have hnw : ¬ (HT.sIx ((x0 :: xs).map vn).length 0 (some 1) = 0 ∧ HT.sIx ((x0 :: xs).map vn).length ((x0 :: xs).map vn).length none = ((x0 :: xs).map vn).length) := by
    have e : HT.sIx ((x0 :: xs).map vn).length 0 (some 1) = min 1 ((x0 :: xs).map vn).length := HT.sIx_nat _ 0 1
    rw [e, vn_len, List.length_cons]
    omega
  have s35 := s4.trans s5
  refine ⟨_, rfl, 1, rfl, uo, _, rfl, (huo3.mono s35).sq, hnw, fun z hz => ?_⟩
  rw [cut1]
  have ez : ((x0 :: xs).map vn).drop 1 = xs.map vn := rfl
  rw [ez]
  have s6 : Same H5 (upd H5 z (tupN xs)) := same_new hz
  have hz6 : upd H5 z (tupN xs) z = some (tupN xs) := upd_same
  generalize upd H5 z (tupN xs) = H6 at s6 hz6
  refine ⟨z, rfl, ⟨_, SqT.of hz6⟩, ?_⟩
  refine for_tup (K := K) (a := z) (xs := xs.map vn)
    (fun i σ H' => ∃ (p : Addr) (v5 v6 v7 : Option V) (as : List Addr), σ = [some (.ref a), some (.ref uo), some (.ref S), some (.ref p), some (.ref Rw), v5, v6, v7, none, none, none] ∧ Same H3 H' ∧ H' z = some (tupN xs) ∧ H' p = some (lstN (x0 :: (rs (bfOf (ps.map (·.2))) x0 xs i).1)) ∧
      H' Rw = some (.lst (as.map V.ref)) ∧ as.length = n ∧ (∀ j b, as[j]? = some b → H' b = some (tupN ((rs (bfOf (ps.map (·.2))) x0 xs i).2 j))) ∧ p ≠ Rw)
    ⟨p, none, none, none, List.replicate n t0, rfl, s35.trans s6, hz6, s6 _ _ (s5 _ _ hp4), s6 _ _ hRw5, List.length_replicate, fun j b e => ?_, fun e => ?_⟩ (fun i σ H' _ ⟨_, _, _, _, _, _, _, hz', _⟩ => SqT.of hz') ?_ ?_
  · have := List.mem_of_getElem? e
    rw [List.eq_of_mem_replicate this]
    exact s6 _ _ ht05
  · subst e
    have h9 := s5 _ _ hp4
    rw [hRw5] at h9
    injection h9 with h9
    injection h9 with h9
    have := congrArg List.head? h9
    cases hnn : n with
    | zero => omega
    | succ m => rw [hnn, List.replicate_succ] at this; simp at this
  · rintro i y σ H7 hi ⟨p, v5, v6, v7, as, rfl, s7, hz7, hp7, hRw7, has, hrow, hpR⟩
    obtain ⟨x, hx, rfl⟩ := map_at hi
    have hil := at_lt hx
    obtain ⟨f1, f2, f3, f4⟩ := rs_facts (bfOf (ps.map (·.2))) x0 xs i (by omega)
    have hrs := rs_succ (bf := bfOf (ps.map (·.2))) (x0 := x0) hx
    generalize rs (bfOf (ps.map (·.2))) x0 xs i = r at f1 f2 f3 f4 hrs hp7 hrow
    have hxm : x ∈ xs := List.mem_of_getElem? hx
    have hxn := hmn x (List.mem_cons_of_mem _ hxm)
    have htl : ∀ y ∈ x0 :: r.1, y < n := fun y hy => hmn y (by
      rcases List.mem_cons.mp hy with g | g
      · rw [g]; simp
      · exact List.mem_cons_of_mem _ (List.mem_of_mem_take (f1 y g)))
    have hpL : ((x0 :: r.1).map vn).length = r.1.length + 1 := by rw [vn_len, List.length_cons]
    -- cut = len(path)
    refine ⟨_, rfl, p, _, rfl, .inl hp7, ?_⟩
    -- for place in range(len(path) - 1, 0, -1)
    refine ⟨_, rfl, p, _, rfl, .inl hp7, _, _, rfl, rfl, 1, rfl, _, _, -1, _, rfl, RgC.neg (by omega) (by omega) (by decide) (by decide), ?_⟩
    have eN : ((((x0 :: r.1).map vn).length : Int) - 1 - 0).toNat = r.1.length := by omega
    rw [eN]
    refine for_it (walk_rangeC (lo := (((x0 :: r.1).map vn).length : Int) - 1) (c := -1) (n := r.1.length)) (fun k σ H' => ∃ v7, σ = [some (.ref a), some (.ref uo), some (.ref S), some (.ref p), some (.ref Rw), some (vn x), some (vn (1 + (r.1.length - k) + ((r.1.drop (r.1.length - k)).takeWhile fun c => !bfOf (ps.map (·.2)) x c).length)), v7, none, none, none] ∧ Same H7 H')
      ⟨v7, ?_, Same.refl _⟩ (fun _ _ _ _ _ => trivial) ?_ ?_
    · have e1 : V.int (((x0 :: r.1).map vn).length : Nat) = vn (1 + (r.1.length - 0) + ((r.1.drop (r.1.length - 0)).takeWhile fun c => !bfOf (ps.map (·.2)) x c).length) := by
        rw [hpL, Nat.sub_zero, List.drop_length]
        show V.int _ = V.int _
        congr 1
        simp
        omega
      show _ = [some (V.ref a), _, _, _, _, _, some (vn (1 + (r.1.length - 0) + ((r.1.drop (r.1.length - 0)).takeWhile fun c => !bfOf (ps.map (·.2)) x c).length)), _, _, _, _]
      rw [← e1]
      rfl
    · rintro k v σ H8 H8' hk ⟨v7', rfl, s8⟩ ⟨e8, rfl⟩
      have e9 := e8.symm
      subst e9
      have epl : (((x0 :: r.1).map vn).length : Int) - 1 + (k : Int) * (-1) = ((r.1.length - k : Nat) : Int) := by rw [hpL]; omega
      show gName 7 (V.int ((((x0 :: r.1).map vn).length : Int) - 1 + (k : Int) * (-1))) _ _ _
      rw [epl]
      have hS8 := s8 _ _ (s7 _ _ hS3)
      have hp8 := s8 _ _ hp7
      obtain ⟨m, hm⟩ : ∃ m, r.1.length - k = m + 1 := ⟨r.1.length - k - 1, by omega⟩
      have hm2 : r.1.length - (k + 1) = m := by omega
      obtain ⟨c, hc⟩ : ∃ c, r.1[m]? = some c := ⟨_, List.getElem?_eq_getElem (by omega)⟩
      have hcp : (x0 :: r.1)[m + 1]? = some c := by rw [List.getElem?_cons_succ]; exact hc
      have hcn := htl c (List.mem_of_getElem? hcp)
      rw [hm, hm2]
      have hct := cut_step (p := fun c => !bfOf (ps.map (·.2)) x c) hc
      -- [table for table in tables if ..] != []
      refine ⟨_, rfl, S, rfl, ⟨_, SqL.of hS8⟩, fun D3 hD3 => ?_⟩
      refine lc_list (K := K) (a := S) (xs := ss.map V.ref) (fun j H' => Same H8 H' ∧ ∃ us ls, H' D3 = some (.lst (us.map V.ref)) ∧ LstsAt H' us ls ∧ us.length ≤ j ∧ us.isEmpty = !((ps.map (·.2)).take j).any (fun l => decide (l.idxOf x < l.idxOf c)) ∧ ∀ u ∈ us, u ≠ D3)
        ⟨same_new hD3, [], [], upd_same, .nil, Nat.le_refl _, rfl, fun u hu => (by cases hu)⟩ (fun j H' _ q => SqL.of (q.1 _ _ hS8)) ?_ ?_
      · rintro j y H9 hj ⟨s9, us, ls, h1, h2, h3, h4, h5⟩
        obtain ⟨b, hbj, rfl⟩ := map_at hj
        have hjl : j < (ps.map (·.2)).length := by rw [List.length_map]; have := at_lt hbj; omega
        have hlj : (ps.map (·.2))[j]? = some (ps.map (·.2))[j] := List.getElem?_eq_getElem hjl
        have hj20 : j < 20 := by rw [List.length_map] at hjl; omega
        generalize (ps.map (·.2))[j] = l at hlj
        have hsp := s9 _ _ (s8 _ _ (s7 _ _ (hss j b _ hbj hlj).1))
        have hbD : b ≠ D3 := ne_of_none (s8 _ _ (s7 _ _ (hss j b _ hbj hlj).1)) hD3
        refine ⟨rfl, _, rfl, _, rfl, b, _, _, _, rfl, rfl, hsp, ix_at (spots_at hxn), _, rfl, _, rfl, _, rfl, p, _, _, _, rfl, rfl, s9 _ _ hp8, ix_at hcp, b, _, _, _, rfl, rfl, hsp, ix_at (spots_at hcn), _, _, rfl, rfl, _, rfl, ?_⟩
        have e3 : decide ((l.idxOf x : Int) < (l.idxOf c : Int)) = decide (l.idxOf x < l.idxOf c) := decide_eq_decide.mpr (by omega)
        show if decide ((l.idxOf x : Int) < (l.idxOf c : Int)) = true then _ else _
        rw [e3, take_snoc hlj]
        cases hd : decide (l.idxOf x < l.idxOf c) with
        | true =>
          refine iteT ⟨_, rfl, _, h1, smallT (by rw [List.length_map]; omega), same_mut s9 hD3, us ++ [b], ls ++ [spots n l], by rw [upd_same, List.map_append]; rfl, (paired_imp (fun u l hu g => keepN (h5 u hu) g) h2).snoc (keepN hbD hsp), by rw [List.length_append, List.length_singleton]; omega, ?_, fun u hu => ?_⟩
          · rw [List.any_append]
            simp only [List.any_cons, hd]
            cases us <;> simp
          · rcases List.mem_append.mp hu with g | g
            · exact h5 u g
            · rw [List.mem_singleton.mp g]
              exact hbD
        | false =>
          refine iteF ⟨s9, us, ls, h1, h2, by omega, ?_, h5⟩
          rw [List.any_append, h4]
          simp [hd]
      · rintro H9 ⟨s9, us, ls, h1, h2, h3, h4, h5⟩
        have el : (ss.map V.ref).length = (ps.map (·.2)).length := by rw [List.length_map, List.length_map, hssl]
        rw [el, List.take_length] at h4
        refine ⟨Nat.zero_le _, fun e he => ⟨_, _, .lst (SqL.of (keep he h1)) (dp_lsts (paired_imp (fun u l _ g => keep he g) h2)), .lst (SqL.of upd_same) .nil, shaped_dLs _, shaped_nil, ?_⟩⟩
        rw [eqv_nil]
        have e5 : (ls.map fun l => PyData.list (dI l)).isEmpty = us.isEmpty := by cases h2 <;> rfl
        rw [e5, h4]
        refine ⟨_, rfl, ?_⟩
        have e6 : (!!(ps.map (·.2)).any fun l => decide (l.idxOf x < l.idxOf c)) = bfOf (ps.map (·.2)) x c := by
          rw [Bool.not_not]
          rfl
        rw [e6]
        cases hb : bfOf (ps.map (·.2)) x c with
        | true =>
          rw [hb] at hct
          refine iteT ⟨_, rfl, some (vn (m + 1)), ?_, (s8.trans s9).trans (same_new he)⟩
          have e7 : 1 + m + ((r.1.drop m).takeWhile fun c => !bfOf (ps.map (·.2)) x c).length = m + 1 := by
            rw [Nat.add_assoc, hct]
            simp
            omega
          rw [e7]
          rfl
        | false =>
          rw [hb] at hct
          refine iteF ⟨some (vn (m + 1)), ?_, (s8.trans s9).trans (same_new he)⟩
          have e7 : 1 + m + ((r.1.drop m).takeWhile fun c => !bfOf (ps.map (·.2)) x c).length = 1 + (m + 1) + ((r.1.drop (m + 1)).takeWhile fun c => !bfOf (ps.map (·.2)) x c).length := by
            rw [Nat.add_assoc, hct]
            simp
            omega
          rw [e7]
          rfl
    · rintro σ H8 ⟨v7', rfl, s8⟩
      rw [Nat.sub_self, List.drop_zero]
      have htwl := tw_len (fun c => !bfOf (ps.map (·.2)) x c) r.1
      have htwp : r.1.take (r.1.takeWhile fun c => !bfOf (ps.map (·.2)) x c).length = r.1.takeWhile fun c => !bfOf (ps.map (·.2)) x c := (List.prefix_iff_eq_take.mp (List.takeWhile_prefix _)).symm
      have hlm := lastOf_mem x0 (r.1.takeWhile fun c => !bfOf (ps.map (·.2)) x c)
      have hstep : step (bfOf (ps.map (·.2))) x0 r x = ((r.1.takeWhile fun c => !bfOf (ps.map (·.2)) x c) ++ [x], put r.2 (lastOf x0 (r.1.takeWhile fun c => !bfOf (ps.map (·.2)) x c)) x) := rfl
      have htm : ∀ y ∈ r.1.takeWhile (fun c => !bfOf (ps.map (·.2)) x c), y ∈ r.1 := fun y hy => tw_mem hy
      generalize (r.1.takeWhile fun c => !bfOf (ps.map (·.2)) x c) = tw at htwl htwp hlm hstep htm ⊢
      have hp8 := s8 _ _ hp7
      have hz8 := s8 _ _ hz7
      have hRw8 := s8 _ _ hRw7
      have s38 := s7.trans s8
      have ec : cutV ((x0 :: r.1).map vn) none (some ((1 + 0 + tw.length : Nat) : Int)) = (x0 :: tw).map vn := by
        rw [cutTo, ← List.map_take, Nat.add_zero, Nat.add_comm, List.take_succ_cons, htwp]
      refine ⟨_, rfl, _, rfl, _, rfl, p, _, rfl, SqL.of hp8, fun y hy => ?_⟩
      rw [ec]
      refine ⟨_, rfl, (by show 1 ≤ sizeLine; decide), fun w1 hw1 => ⟨y, w1, _, _, rfl, rfl, keep hw1 upd_same, upd_same, ?_, fun p2 hp2 => ?_⟩⟩
      · rw [vn_len, List.length_cons, List.length_singleton]
        exact small (by omega)
      have s9 : Same H8 (upd (upd (upd H8 y (.lst ((x0 :: tw).map vn))) w1 (.lst [vn x])) p2 (.lst ((x0 :: tw).map vn ++ [vn x]))) := ((same_new hy).trans (same_new hw1)).trans (same_new hp2)
      have hp9 : upd (upd (upd H8 y (.lst ((x0 :: tw).map vn))) w1 (.lst [vn x])) p2 (.lst ((x0 :: tw).map vn ++ [vn x])) p2 = some (lstN (x0 :: tw ++ [x])) := by rw [upd_same, lst_snoc]
      have hp2R : p2 ≠ Rw := Ne.symm (ne_of_none hRw8 (((same_new hy).trans (same_new hw1)).free hp2))
      have hp20 : H8 p2 = none := ((same_new hy).trans (same_new hw1)).free hp2
      generalize upd (upd (upd H8 y (.lst ((x0 :: tw).map vn))) w1 (.lst [vn x])) p2 (.lst ((x0 :: tw).map vn ++ [vn x])) = H9 at s9 hp9
      obtain ⟨B, hB⟩ := last_split x0 tw
      have hlpn : lastOf x0 tw < n := htl _ (by
        rcases hlm with g | g
        · rw [g]; simp
        · exact List.mem_cons_of_mem _ (htm _ g))
      have hm2 : atI ((x0 :: tw ++ [x]).map vn) (-2) = some (vn (lastOf x0 tw)) := by
        rw [hB, List.append_assoc]
        exact at_m2 B _ _
      generalize lastOf x0 tw = lp at hlpn hm2 hstep
      obtain ⟨bp, hbp⟩ : ∃ b, as[lp]? = some b := ⟨_, List.getElem?_eq_getElem (by omega)⟩
      have hRw9 := s9 _ _ hRw8
      have hz9 := s9 _ _ hz8
      have hbp9 := s9 _ _ (s8 _ _ (hrow lp bp hbp))
      have s39 := s38.trans s9
      have f4l := f4 lp
      have fin : ∀ (c : Addr) (Hc : Hp), Same H9 Hc → Hc c = some (tupN (x :: r.2 lp)) → ∃ (p : Addr) (v5 v6 v7 : Option V) (as' : List Addr), [some (V.ref a), some (.ref uo), some (.ref S), some (.ref p2), some (.ref Rw), some (vn x), some (vn (1 + 0 + tw.length)), v7', none, none, none] = [some (.ref a), some (.ref uo), some (.ref S), some (.ref p), some (.ref Rw), v5, v6, v7, none, none, none] ∧ Same H3 (upd Hc Rw (.lst ((as.map V.ref).set lp (.ref c)))) ∧ upd Hc Rw (.lst ((as.map V.ref).set lp (.ref c))) z = some (tupN xs) ∧ upd Hc Rw (.lst ((as.map V.ref).set lp (.ref c))) p = some (lstN (x0 :: (rs (bfOf (ps.map (·.2))) x0 xs (i + 1)).1)) ∧
          upd Hc Rw (.lst ((as.map V.ref).set lp (.ref c))) Rw = some (.lst (as'.map V.ref)) ∧ as'.length = n ∧ (∀ j b, as'[j]? = some b → upd Hc Rw (.lst ((as.map V.ref).set lp (.ref c))) b = some (tupN ((rs (bfOf (ps.map (·.2))) x0 xs (i + 1)).2 j))) ∧ p ≠ Rw := by
        intro c Hc sc hc
        rw [hrs, hstep]
        have hRc := sc _ _ hRw9
        refine ⟨p2, _, _, _, as.set lp c, rfl, same_mut (s39.trans sc) hRw3, keepT hRc (sc _ _ hz9), keepN hp2R (sc _ _ hp9), by rw [upd_same, List.map_set], by rw [List.length_set, has], fun j b e => ?_, hp2R⟩
        by_cases ej : lp = j
        · subst ej
          rw [List.getElem?_set_self (by omega)] at e
          cases e
          show _ = some (tupN (put r.2 lp x lp))
          rw [put_at]
          exact keepT hRc hc
        · rw [List.getElem?_set_ne ej] at e
          show _ = some (tupN (put r.2 lp x j))
          rw [put_ne (fun q => ej q.symm)]
          exact keepT hRc (sc _ _ (s9 _ _ (s8 _ _ (hrow j b e))))
      refine ⟨_, rfl, (by show 1 ≤ sizeLine; decide), fun t ht => ⟨_, rfl, _, rfl, 2, rfl, p2, _, -2, _, rfl, rfl, keep ht hp9, hm2, Rw, _, _, _, rfl, rfl, keep ht hRw9, ix_ref hbp, t, bp, _, _, rfl, rfl, SqT.of upd_same, SqT.of (keep ht hbp9), by simp, ?_, fun e => ?_, fun e t2 ht2 => ?_⟩⟩
      · rw [vn_len]
        exact small (by show 1 + _ ≤ _; omega)
      · refine ⟨_, rfl, _, rfl, 2, rfl, p2, _, -2, _, rfl, rfl, keep ht hp9, hm2, Rw, _, _, lp, rfl, rfl, keep ht hRw9, ixN_nat (by rw [List.length_map]; omega), ?_⟩
        refine fin t _ (same_new ht) ?_
        have e2 : r.2 lp = [] := by
          cases h : r.2 lp with
          | nil => rfl
          | cons _ _ => rw [h] at e; cases e
        rw [upd_same, e2]
        rfl
      · refine ⟨_, rfl, _, rfl, 2, rfl, p2, _, -2, _, rfl, rfl, keep ht2 (keep ht hp9), hm2, Rw, _, _, lp, rfl, rfl, keep ht2 (keep ht hRw9), ixN_nat (by rw [List.length_map]; omega), ?_⟩
        refine fin t2 _ ((same_new ht).trans (same_new ht2)) ?_
        rw [upd_same]
        rfl
  · rintro σ H7 ⟨p, v5, v6, v7, as, rfl, s7, hz7, hp7, hRw7, has, hrow, hpR⟩
    rw [vn_len] at hrow
    refine ⟨_, rfl, Rw, _, rfl, hRw7, fun u hu => ?_⟩
    have s07 := s03.trans s7
    refine q (.ref u) _ (same_mut s07 (s07.free hu)) ⟨u, as, rfl, upd_same, ?_, fun i b e => ?_⟩
    · rw [hFT, arr_len, has]
    · have hi : i < n := by rw [← has]; exact at_lt e
      have eg : (FT ps).getD i [] = (rs (bfOf (ps.map (·.2))) x0 xs xs.length).2 i := by rw [hFT]; exact gt_arr hi
      rw [eg]
      exact keep hu (hrow i b e)
end
end SF
end

/-! SFh7 -/
section
set_option Elab.async false
set_option linter.all false
set_option maxRecDepth 100000
set_option maxHeartbeats 4000000
/-! _law_all. -/
namespace SF
open PySem PySem.Spec L2
open PyProof.Rows hiding St

theorem RunOk.ins {x0 x j : Nat} {done : List Nat} {g : G} {k : F} (h : RunOk x0 done (spine k, g) k) (hn : (x0 :: (done ++ [x])).Nodup) (hj : j ≤ (spine k).length) :
    RunOk x0 (done ++ [x]) (spine (insS j x k), put g (lastOf x0 ((spine k).take j)) x) (insS j x k) := by
  have hd : (x0 :: done).Nodup ∧ x ∉ x0 :: done := by
    have e : x0 :: (done ++ [x]) = (x0 :: done) ++ [x] := rfl
    rw [e, List.nodup_append] at hn
    exact ⟨hn.1, fun q => hn.2.2 x q x (by simp) rfl⟩
  have hka : (x0 :: k.all).Nodup := by
    have q : (x0 :: rp k).Perm (x0 :: k.all) := (rp_perm k).cons x0
    rw [h.ord] at q
    exact q.nodup_iff.mp hd.1
  have hxk : x ∉ x0 :: k.all := fun q => hd.2 (by
    rw [List.mem_cons] at q ⊢
    exact q.imp id (h.mem x).mp)
  refine ⟨rfl, by rw [rp_insS, h.ord], ?_, ?_⟩
  · have q := has_insS x j k x0 g hj h.has.1 h.has.2.1 hka hxk (h.out x hd.2)
    exact ⟨q.1, q.2, trivial⟩
  · intro y hy
    simp only [List.mem_cons, List.mem_append, not_or] at hy
    have hq : y ≠ lastOf x0 ((spine k).take j) := fun e => by
      rcases lastOf_mem x0 ((spine k).take j) with z | z
      · exact hy.1 (e.trans z)
      · exact hy.2.1 ((h.mem y).mp (spine_all k y (by rw [e]; exact List.mem_of_mem_take z)))
    show put g _ x y = []
    rw [put_ne hq]
    exact h.out y (by simp [hy.1, hy.2.1])
/-- a path with rows, as _law_all keeps them -/
def Ent (H : Hp) (n x0 : Nat) (done : List Nat) (e : Addr) (k : F) : Prop := ∃ (pth rws : Addr) (as : List Addr) (g : G), H e = some (.tup [.ref pth, .ref rws]) ∧ H pth = some (lstN (x0 :: spine k)) ∧ H rws = some (.lst (as.map V.ref)) ∧ as.length = n ∧
  (∀ j b, as[j]? = some b → H b = some (tupN (g j))) ∧ RunOk x0 done (spine k, g) k
theorem Ent.same {H H' : Hp} {n x0 : Nat} {done : List Nat} {e : Addr} {k : F} (s : Same H H') (h : Ent H n x0 done e k) : Ent H' n x0 done e k :=
  let ⟨p, r, as, g, h1, h2, h3, h4, h5, h6⟩ := h; ⟨p, r, as, g, s _ _ h1, s _ _ h2, s _ _ h3, h4, fun j b e => s _ _ (h5 j b e), h6⟩
/-- one that stands apart from the list at L -/
def EntX (H : Hp) (L : Addr) (n x0 : Nat) (done : List Nat) (e : Addr) (k : F) : Prop := ∃ (pth rws : Addr) (as : List Addr) (g : G), pth ≠ L ∧ rws ≠ L ∧ H e = some (.tup [.ref pth, .ref rws]) ∧ H pth = some (lstN (x0 :: spine k)) ∧ H rws = some (.lst (as.map V.ref)) ∧ as.length = n ∧
  (∀ j b, as[j]? = some b → H b = some (tupN (g j))) ∧ RunOk x0 done (spine k, g) k
theorem EntX.ent {H : Hp} {L : Addr} {n x0 : Nat} {done : List Nat} {e : Addr} {k : F} (h : EntX H L n x0 done e k) : Ent H n x0 done e k :=
  let ⟨p, r, as, g, _, _, h1, h2, h3, h4, h5, h6⟩ := h; ⟨p, r, as, g, h1, h2, h3, h4, h5, h6⟩
theorem EntX.but {H H' : Hp} {L : Addr} {n x0 : Nat} {done : List Nat} {e : Addr} {k : F} {xs : List V} (hL : H L = some (.lst xs)) (s : But L H H') (h : EntX H L n x0 done e k) : EntX H' L n x0 done e k :=
  let ⟨p, r, as, g, n1, n2, h1, h2, h3, h4, h5, h6⟩ := h
  have tk := tk_but s hL
  ⟨p, r, as, g, n1, n2, tk.tup h1, s _ _ n1 h2, s _ _ n2 h3, h4, fun j b e => tk.tup (h5 j b e), h6⟩
abbrev EntsX (H : Hp) (L : Addr) (n x0 : Nat) (done : List Nat) (es : List Addr) (fs : List F) : Prop := Paired (fun e k => EntX H L n x0 done e k) es fs
abbrev EntsAt (H : Hp) (n x0 : Nat) (done : List Nat) (es : List Addr) (fs : List F) : Prop := Paired (fun e k => Ent H n x0 done e k) es fs
theorem paired_at {α β : Type} {F : α → β → Prop} : ∀ {l : List α} {r : List β}, Paired F l r → ∀ (i : Nat) (a : α), l[i]? = some a → ∃ b, r[i]? = some b ∧ F a b
  | _, _, .nil, i, a, h => by simp at h
  | _, _, .cons f t, 0, a, h => by
    rw [List.getElem?_cons_zero] at h
    cases h
    exact ⟨_, rfl, f⟩
  | _, _, .cons f t, i + 1, a, h => by
    obtain ⟨b, h1, h2⟩ := paired_at t i a (by simpa using h)
    exact ⟨b, by simpa using h1, h2⟩
theorem paired_len {α β : Type} {F : α → β → Prop} : ∀ {l : List α} {r : List β}, Paired F l r → l.length = r.length
  | _, _, .nil => rfl
  | _, _, .cons f t => by simp [paired_len t]
theorem at_last (x0 : Nat) (l : List Nat) (j : Nat) (h : j ≤ l.length) : (x0 :: l)[j]? = some (lastOf x0 (l.take j)) := by
  cases j with
  | zero => rfl
  | succ j =>
    rw [List.getElem?_cons_succ, List.getElem?_eq_getElem (by omega), take_snoc (List.getElem?_eq_getElem (by omega : j < l.length)), lastOf_snoc]
theorem tops_len (f : F) : f.tops.length ≤ f.size := by
  have h1 := len_sizeW f.trees
  rw [sizeW_trees] at h1
  rw [← F.trees_fst, List.length_map]
  exact h1
theorem has_len {g : G} : ∀ {f : F}, Has g f → ∀ x ∈ f.all, (g x).length ≤ f.size
  | .nil, _, x, hx => by simp [F.all] at hx
  | .cons v k r, ⟨h1, h2, h3⟩, x, hx => by
    simp only [F.all, List.mem_cons, List.mem_append] at hx
    simp only [F.size]
    rcases hx with e | hx | hx
    · rw [e, h1]
      have := tops_len k
      omega
    · have := has_len h2 x hx
      omega
    · have := has_len h3 x hx
      omega
abbrev insAll (x : Nat) (k : F) : List F := (List.range ((spine k).length + 1)).map fun j => insS j x k
theorem grow_take {fs : List F} {x i : Nat} {k : F} (h : fs[i]? = some k) : grow (fs.take (i + 1)) x = grow (fs.take i) x ++ insAll x k := by
  unfold grow
  rw [take_snoc h, List.flatMap_append]
  simp
theorem grow_len {fs : List F} {x m : Nat} (h : ∀ k ∈ fs, (spine k).length ≤ m) : (grow fs x).length ≤ (m + 1) * fs.length := by
  unfold grow
  induction fs with
  | nil => simp
  | cons k fs ih =>
    have h1 := h k (by simp)
    have h2 := ih fun k hk => h k (by simp [hk])
    rw [List.flatMap_cons, List.length_append, List.length_map, List.length_range, List.length_cons, Nat.mul_succ]
    omega
section
variable {P : Program} {w : World} {K : PySem.W.Frag} {mg : Str → Option Value} {base : Heap}
theorem d_Lall (R : Raw K mg "_law_all" s_Lall) (T : Txt mg) :
    Def P w K mg base 1 "_law_all" ["_law_order"] sp_all := by
  refine R.made sc_Lall (fun vs H Q E h => ?_) (fun _ _ _ _ _ _ us hl => match us, hl with | [_], _ => rfl) fun f cdv A outer s H vs Q E hr h => ?_
  · obtain ⟨a, o, n, rfl, _⟩ := h
    rfl
  obtain ⟨a, o, n, rfl, ha, hp, hn1, hn5, q⟩ := h
  refine ⟨_, pss_cons (ps_set (i := 1) sc_Lall.nd rfl (Or.inl rfl) (pe_lst (pa_cons (pe_tup (pa_cons (pe_lst (pa_cons (pe_ix ix_z (pv 0) pe_int (fun _ _ => rfl)) pa_nil)) (pa_cons (pe_op op_rep (pe_lst (pa_cons (pe_tup pa_nil) pa_nil)) (pe_callB call_lenF (by rfl) T.len PySem.boot_len (pa_cons (pv 0) pa_nil))) pa_nil))) pa_nil)))
    (pss_cons (ps_for PassesOwn.never rfl (pi_tup (pe_slice sl_tup (pv 0) (po_some pe_int) po_none)) (pg_name (i := 2) sc_Lall.nd rfl (Or.inl rfl)) (pss_cons (ps_set (i := 3) sc_Lall.nd rfl (Or.inl rfl) (pe_lst pa_nil))
      (pss_cons (ps_for PassesOwn.never rfl (pi_list (pv 1)) (pg_tup (by rfl) (pgs_cons (pg_name (i := 4) sc_Lall.nd rfl (Or.inl rfl)) (pgs_cons (pg_name (i := 5) sc_Lall.nd rfl (Or.inl rfl)) pgs_nil))) (pss_one (ps_for PassesOwn.never rfl (pi_range2 (by rfl) T.range (pa_cons pe_int (pa_cons (pe_op op_add (pe_callB call_lenF (by rfl) T.len PySem.boot_len (pa_cons (pv 4) pa_nil)) pe_int) pa_nil))) (pg_name (i := 6) sc_Lall.nd rfl (Or.inl rfl)) (pss_cons (ps_set (i := 7) sc_Lall.nd rfl (Or.inl rfl) (pe_callTy call_listF (by rfl) T.list (by decide +kernel) (pa_cons (pv 5) pa_nil)))
          (pss_cut (ps_asg (pe_op op_catT (pe_tup (pa_cons (pv 2) pa_nil)) (pe_ix ix_l (pv 7) (pe_ix ix_l (pv 4) (pe_op op_sub (pv 6) pe_int) (fun _ _ => rfl)) (fun _ _ => rfl))) (pg_sub (pv 7) (pe_ix ix_l (pv 4) (pe_op op_sub (pv 6) pe_int) (fun _ _ => rfl)) set_list))
          (pss_one (ps_expr (pe_bm PySem.F.plainAttrs_list PySem.F.slot_list_append PySem.F.type_list_append mt_append (pv 3) (pa_cons (pe_tup (pa_cons (pe_op op_cat (pe_slice sl_list (pv 4) po_none (po_some (pv 6))) (pe_lst (pa_cons (pv 2) pa_nil))) (pa_cons (pv 7) pa_nil))) pa_nil)))))))))
      (pss_one (ps_set (i := 1) sc_Lall.nd rfl (Or.inl rfl) (pv 3))))))
    (pss_one (ps_ret (pe_lc (own := [("_law_path", 4), ("_law_rows", 5)]) (g := (gTup K 2 (gCons (gName 4) (gCons (gName 5) gNil)))) (tt := tYes) rfl sc_Lall.nd (pi_list (pv 1)) (blkOk_by (N := N_Lall) (sc := defScope s_Lall) (by decide +kernel)) (fun _ _ _ _ _ => (pg_tup (by rfl) (pgs_cons (pg_name (i := 4) sc_Lall.nd rfl (Or.inl rfl)) (pgs_cons (pg_name (i := 5) sc_Lall.nd rfl (Or.inl rfl)) pgs_nil)))) (fun _ _ _ _ _ => pts_nil) (fun _ _ _ _ _ => (pe_callTy call_tupleF (by rfl) T.tuple (by decide +kernel) (pa_cons (pv 5) pa_nil))))))), ?_⟩
  have hol := perm_len hp
  have hoC : o = o.headD 0 :: o.drop 1 := by
    cases o with
    | nil => simp at hol; omega
    | cons y r => rfl
  have hallT : allT n o = (allK (o.drop 1)).map fun k => arr n (gof (o.headD 0) k) := rfl
  generalize o.headD 0 = x0 at hoC hallT
  generalize o.drop 1 = xs at hoC hallT
  subst hoC
  have hxl : xs.length + 1 = n := by rw [← hol]; rfl
  have hnd : (x0 :: xs).Nodup := perm_nodup hp
  have hmn : ∀ y ∈ x0 :: xs, y < n := fun y hy => perm_lt hp hy
  -- found
  refine ⟨_, rfl, a, _, 0, _, rfl, rfl, ha, ix_at (i := 0) rfl, (by show 1 ≤ sizeLine; decide), fun p1 hp1 => ?_⟩
  refine ⟨(by show 0 ≤ sizeLine; decide), fun t0 ht0 => ⟨(by show 1 ≤ sizeLine; decide), fun t1 ht1 => ⟨_, rfl, a, _, rfl, .lg (ha.mono (((same_new hp1).trans (same_new ht0)).trans (same_new ht1))), t1, _, _, rfl, rfl, upd_same, by rw [vn_len, List.length_cons]; omega, by rw [vn_len, List.length_cons]; omega, ?_, fun Rw hRw => ⟨(by show 2 ≤ sizeLine; decide), fun e0 he0 => ⟨(by show 1 ≤ sizeLine; decide), fun F0 hF0 => ?_⟩⟩⟩⟩⟩
  · rw [Int.toNat_natCast, vn_len]
    refine small ?_
    show 1 * (xs.length + 1) ≤ _
    omega
  have eR : (List.replicate (((x0 :: xs).map vn).length : Int).toNat [V.ref t0]).flatten = (List.replicate n t0).map V.ref := by
    rw [Int.toNat_natCast, rep_flat, vn_len, List.length_cons, hxl, List.map_replicate]
  have s1 : Same H _ := ((((same_new (o := .lst [vn x0]) hp1).trans (same_new (o := .tup []) ht0)).trans (same_new (o := .lst [.ref t0]) ht1)).trans (same_new (o := .lst (List.replicate (((x0 :: xs).map vn).length : Int).toNat [V.ref t0]).flatten) hRw)).trans ((same_new (o := .tup [.ref p1, .ref Rw]) he0).trans (same_new (o := .lst [.ref e0]) hF0))
  have hF1 : upd (upd (upd (upd (upd (upd H p1 (.lst [vn x0])) t0 (.tup [])) t1 (.lst [.ref t0])) Rw (.lst (List.replicate (((x0 :: xs).map vn).length : Int).toNat [V.ref t0]).flatten)) e0 (.tup [.ref p1, .ref Rw])) F0 (.lst [.ref e0]) F0 = some (.lst [.ref e0]) := upd_same
  have hE1 : Ent (upd (upd (upd (upd (upd (upd H p1 (.lst [vn x0])) t0 (.tup [])) t1 (.lst [.ref t0])) Rw (.lst (List.replicate (((x0 :: xs).map vn).length : Int).toNat [V.ref t0]).flatten)) e0 (.tup [.ref p1, .ref Rw])) F0 (.lst [.ref e0])) n x0 [] e0 .nil := by
    refine ⟨p1, Rw, List.replicate n t0, fun _ => [], keep hF0 upd_same, keep hF0 (keep he0 (keep hRw (keep ht1 (keep ht0 upd_same)))), ?_, List.length_replicate, fun j b e => ?_, runOk_start x0⟩
    · rw [← eR]
      exact keep hF0 (keep he0 upd_same)
    · rw [List.eq_of_mem_replicate (List.mem_of_getElem? e)]
      exact keep hF0 (keep he0 (keep hRw (keep ht1 upd_same)))
  generalize upd (upd (upd (upd (upd (upd H p1 (.lst [vn x0])) t0 (.tup [])) t1 (.lst [.ref t0])) Rw (.lst (List.replicate (((x0 :: xs).map vn).length : Int).toNat [V.ref t0]).flatten)) e0 (.tup [.ref p1, .ref Rw])) F0 (.lst [.ref e0]) = H1 at s1 hF1 hE1
  have hnw : ¬ (HT.sIx ((x0 :: xs).map vn).length 0 (some 1) = 0 ∧ HT.sIx ((x0 :: xs).map vn).length ((x0 :: xs).map vn).length none = ((x0 :: xs).map vn).length) := by
    have e : HT.sIx ((x0 :: xs).map vn).length 0 (some 1) = min 1 ((x0 :: xs).map vn).length := HT.sIx_nat _ 0 1
    rw [e, vn_len, List.length_cons]
    omega
  refine ⟨_, rfl, 1, rfl, a, _, rfl, (ha.mono s1).sq, hnw, fun z hz => ?_⟩
  rw [cut1]
  have ez : ((x0 :: xs).map vn).drop 1 = xs.map vn := rfl
  rw [ez]
  have s2 : Same H1 (upd H1 z (tupN xs)) := same_new hz
  have hz2 : upd H1 z (tupN xs) z = some (tupN xs) := upd_same
  generalize upd H1 z (tupN xs) = H2 at s2 hz2
  have s02 := s1.trans s2
  refine ⟨z, rfl, ⟨_, SqT.of hz2⟩, ?_⟩
  refine for_tup (K := K) (a := z) (xs := xs.map vn) (fun i σ H' => ∃ (Fd : Addr) (es : List Addr) (v2 v3 v4 v5 v6 v7 : Option V), σ = [some (.ref a), some (.ref Fd), v2, v3, v4, v5, v6, v7] ∧ Same H2 H' ∧ H' Fd = some (.lst (es.map V.ref)) ∧ EntsAt H' n x0 (xs.take i) es ((xs.take i).foldl grow [.nil]) ∧ es.length ≤ 5 ^ i)
    ⟨F0, [e0], none, none, none, none, none, none, rfl, Same.refl _, s2 _ _ hF1, .cons (hE1.same s2) .nil, Nat.le_refl _⟩ (fun i σ H' _ ⟨_, _, _, _, _, _, _, _, _, s, _⟩ => SqT.of (s _ _ hz2)) ?_ ?_
  · rintro i y σ H3 hi ⟨Fd, es, v2, v3, v4, v5, v6, v7, rfl, s3, hF3, hE3, hlen⟩
    obtain ⟨x, hx, rfl⟩ := map_at hi
    have hil := at_lt hx
    have hdone : (x0 :: (xs.take i ++ [x])).Nodup := by
      rw [← take_snoc hx]
      exact hnd.sublist ((List.take_sublist _ _).cons_cons x0)
    have hfold : (xs.take (i + 1)).foldl grow [.nil] = grow ((xs.take i).foldl grow [.nil]) x := by rw [take_snoc hx, List.foldl_append]; rfl
    have hrpl := foldl_grow_rp (xs.take i) [.nil] [] (by simp [rp])
    have hsp : ∀ k ∈ (xs.take i).foldl grow [.nil], (spine k).length ≤ i := fun k hk => by
      have h1 := spine_len k
      have h2 := (rp_perm k).length_eq
      rw [hrpl k hk, F.all_length, List.nil_append, List.length_take] at h2
      omega
    have hgl := grow_len (x := x) hsp
    rw [← hfold] at hgl
    rw [hfold] at hgl ⊢
    rw [take_snoc hx]
    have hpl := paired_len hE3
    generalize (xs.take i).foldl grow [.nil] = fs at hE3 hsp hgl hpl ⊢
    have hdl : (xs.take i).length ≤ 5 := by rw [List.length_take]; omega
    have hdm : ∀ y ∈ xs.take i, y ∈ xs := fun y hy => List.mem_of_mem_take hy
    generalize xs.take i = done at hE3 hdone hdm hdl ⊢
    have hp5 : (5 : Nat) ^ i * 5 = 5 ^ (i + 1) := (Nat.pow_succ 5 i).symm
    have hgl5 : (grow fs x).length ≤ 5 ^ (i + 1) := by
      refine Nat.le_trans hgl ?_
      rw [← hp5, Nat.mul_comm]
      exact Nat.mul_le_mul (by omega) (by omega)
    have h55 : (5 : Nat) ^ (i + 1) ≤ 5 ^ 5 := Nat.pow_le_pow_right (by decide) (by omega)
    have h3125 : (5 : Nat) ^ 5 = 3125 := by decide
    have hgle : ∀ m, (grow (fs.take m) x).length ≤ (grow fs x).length := fun m => by
      unfold grow
      conv => rhs; rw [← List.take_append_drop m fs, List.flatMap_append, List.length_append]
      omega
    -- longer = []
    refine ⟨Nat.zero_le _, fun Lo hLo => ?_⟩
    have hLo2 : H2 Lo = none := s3.free hLo
    have s4 : Same H3 (upd H3 Lo (.lst [])) := same_new hLo
    have hLo4 : upd H3 Lo (.lst []) Lo = some (.lst []) := upd_same
    generalize upd H3 Lo (.lst []) = H4 at s4 hLo4
    refine ⟨_, rfl, Fd, rfl, ⟨_, SqL.of (s4 _ _ hF3)⟩, ?_⟩
    refine for_list (K := K) (a := Fd) (xs := es.map V.ref) (fun m σ H' => ∃ (ls : List Addr) (v4 v5 v6 v7 : Option V), σ = [some (.ref a), some (.ref Fd), some (vn x), some (.ref Lo), v4, v5, v6, v7] ∧ Same H3 H' ∧ H' Lo = some (.lst (ls.map V.ref)) ∧ EntsX H' Lo n x0 (done ++ [x]) ls (grow (fs.take m) x))
      ⟨[], v4, v5, v6, v7, rfl, s4, hLo4, .nil⟩ (fun m σ H' _ ⟨_, _, _, _, _, _, s, _⟩ => SqL.of (s _ _ hF3)) ?_ ?_
    · rintro m y σ H5 hm ⟨ls, v4, v5, v6, v7, rfl, s5, hLo5, hE5⟩
      obtain ⟨e, he, rfl⟩ := map_at hm
      obtain ⟨k, hk, hEk⟩ := paired_at hE3 m e he
      have hkm := List.mem_of_getElem? hk
      have hspk := hsp k hkm
      obtain ⟨pth, rws, as, g, g10, g20, g30, g4, g50, g6⟩ := id hEk
      have g1 := s5 _ _ g10
      have g2 := s5 _ _ g20
      have g3 := s5 _ _ g30
      have g5 := fun j b (e : as[j]? = some b) => s5 _ _ (g50 j b e)
      refine ⟨e, _, rfl, SqT.of g1, rfl, _, _, rfl, _, _, rfl, rfl, ?_⟩
      refine ⟨_, rfl, pth, _, rfl, .inl g2, _, _, rfl, rfl, 1, _, rfl, ⟨by decide, by decide, by rw [vn_len, List.length_cons]; omega, by rw [vn_len, List.length_cons]; omega⟩, ?_⟩
      have eN : ((((x0 :: spine k).map vn).length : Int) + 1 - 1).toNat = (spine k).length + 1 := by rw [vn_len, List.length_cons]; omega
      rw [eN]
      have hgr := grow_take (x := x) hk
      refine for_range (lo := 1) (n := (spine k).length + 1) (fun j σ H' => ∃ (ls : List Addr) (v6 v7 : Option V), σ = [some (.ref a), some (.ref Fd), some (vn x), some (.ref Lo), some (.ref pth), some (.ref rws), v6, v7] ∧ Same H3 H' ∧ H' Lo = some (.lst (ls.map V.ref)) ∧ EntsX H' Lo n x0 (done ++ [x]) ls (grow (fs.take m) x ++ ((List.range j).map fun j => insS j x k)))
        ⟨ls, v6, v7, rfl, s5, hLo5, by simpa using hE5⟩ ?_ ?_
      · rintro j σ H6 hj ⟨ls, v6, v7, rfl, s6, hLo6, hE6⟩
        have k2 := s6 _ _ g20
        have k3 := s6 _ _ g30
        have k5 := fun j b (e : as[j]? = some b) => s6 _ _ (g50 j b e)
        have ej : V.int (1 + (j : Int)) = vn (1 + j) := by show V.int _ = V.int _; rw [Int.natCast_add]; rfl
        have ej2 : (1 : Int) + (j : Int) - 1 = (j : Int) := by omega
        have hjs : j ≤ (spine k).length := by omega
        have hat := at_last x0 (spine k) j hjs
        have hlp : lastOf x0 ((spine k).take j) < n := by
          have hm0 := List.mem_of_getElem? hat
          refine hmn _ ?_
          rcases List.mem_cons.mp hm0 with q1 | q1
          · rw [q1]; simp
          · exact List.mem_cons_of_mem _ (hdm _ ((g6.mem _).mp (spine_all k _ q1)))
        have hins := g6.ins hdone hjs
        have hlpk : lastOf x0 ((spine k).take j) = x0 ∨ lastOf x0 ((spine k).take j) ∈ k.all := by
          rcases List.mem_cons.mp (List.mem_of_getElem? hat) with q1 | q1
          · exact .inl q1
          · exact .inr (spine_all k _ q1)
        generalize lastOf x0 ((spine k).take j) = lp at hat hlp hins hlpk
        obtain ⟨bp, hbp⟩ : ∃ b, as[lp]? = some b := ⟨_, List.getElem?_eq_getElem (by omega)⟩
        -- more = list(rows)
        refine ⟨_, rfl, rws, _, rfl, .inl k3, fun M hM => ?_⟩
        have s7 : Same H6 (upd H6 M (.lst (as.map V.ref))) := same_new hM
        have hM7 : upd H6 M (.lst (as.map V.ref)) M = some (.lst (as.map V.ref)) := upd_same
        generalize upd H6 M (.lst (as.map V.ref)) = H7 at s7 hM7
        refine ⟨fun σ H' => ∃ c, σ = [some (.ref a), some (.ref Fd), some (vn x), some (.ref Lo), some (.ref pth), some (.ref rws), some (V.int (1 + (j : Int))), some (.ref M)] ∧ Same H6 H' ∧ H' M = some (.lst ((as.set lp c).map V.ref)) ∧ H' c = some (tupN (x :: g lp)), ?_, ?_⟩
        · have at1 : atI ((x0 :: spine k).map vn) ((1 : Int) + (j : Int) - 1) = some (vn lp) := by rw [ej2]; exact ix_at hat
          have hb7 := s7 _ _ (k5 lp bp hbp)
          have hg4 : (g lp).length ≤ 40 := by
            have h1 : (g lp).length ≤ (F.cons x0 k .nil).size := has_len g6.has lp (by simpa [F.all] using hlpk)
            have h2 := (rp_perm k).length_eq
            rw [g6.ord, F.all_length] at h2
            have h3 : (F.cons x0 k .nil).size ≤ k.size + 1 := by simp only [F.size]; omega
            have h4 := Nat.le_trans h1 h3
            omega
          have fin : ∀ (c : Addr) (Hc : Hp), Same H7 Hc → Hc c = some (tupN (x :: g lp)) → ∃ c', [some (V.ref a), some (.ref Fd), some (vn x), some (.ref Lo), some (.ref pth), some (.ref rws), some (V.int (1 + (j : Int))), some (.ref M)] = [some (.ref a), some (.ref Fd), some (vn x), some (.ref Lo), some (.ref pth), some (.ref rws), some (V.int (1 + (j : Int))), some (.ref M)] ∧ Same H6 (upd Hc M (.lst ((as.map V.ref).set lp (.ref c)))) ∧ upd Hc M (.lst ((as.map V.ref).set lp (.ref c))) M = some (.lst ((as.set lp c').map V.ref)) ∧ upd Hc M (.lst ((as.map V.ref).set lp (.ref c))) c' = some (tupN (x :: g lp)) := fun c Hc sc hc =>
            ⟨c, rfl, same_mut (s7.trans sc) hM, by rw [upd_same, List.map_set], keepT (sc _ _ hM7) hc⟩
          refine ⟨_, rfl, (by show 1 ≤ sizeLine; decide), fun t ht => ⟨_, rfl, _, rfl, _, rfl, _, _, rfl, rfl, pth, _, _, _, rfl, rfl, keep ht (s7 _ _ k2), at1, M, _, _, _, rfl, rfl, keep ht hM7, ix_ref hbp, t, bp, _, _, rfl, rfl, SqT.of upd_same, SqT.of (keep ht hb7), by simp, ?_, fun e => ?_, fun e t2 ht2 => ?_⟩⟩
          · rw [vn_len]
            exact small (by show 1 + _ ≤ _; omega)
          · refine ⟨_, rfl, _, rfl, _, rfl, _, _, rfl, rfl, pth, _, _, _, rfl, rfl, keep ht (s7 _ _ k2), at1, M, _, _, lp, rfl, rfl, keep ht hM7, ixN_nat (by rw [List.length_map]; omega), ?_⟩
            refine fin t _ (same_new ht) ?_
            have e2 : g lp = [] := by
              cases h : g lp with
              | nil => rfl
              | cons _ _ => rw [h] at e; cases e
            rw [upd_same, e2]
            rfl
          · refine ⟨_, rfl, _, rfl, _, rfl, _, _, rfl, rfl, pth, _, _, _, rfl, rfl, keep ht2 (keep ht (s7 _ _ k2)), at1, M, _, _, lp, rfl, rfl, keep ht2 (keep ht hM7), ixN_nat (by rw [List.length_map]; omega), ?_⟩
            refine fin t2 _ ((same_new ht).trans (same_new ht2)) ?_
            rw [upd_same]
            rfl
        clear hM7 s7
        rintro σ H8 ⟨c, rfl, s8, hM8, hc8⟩
        have hLo8 := s8 _ _ hLo6
        have ec : cutV ((x0 :: spine k).map vn) none (some (1 + (j : Int))) = (x0 :: (spine k).take j).map vn := by
          have := cutTo ((x0 :: spine k).map vn) (1 + j)
          rw [← List.map_take, Nat.add_comm 1 j, List.take_succ_cons] at this
          rw [← this]
          congr 2
          rw [Int.natCast_add, Int.add_comm]
          rfl
        refine ⟨_, rfl, .inl ⟨rfl, _, SqL.of hLo8⟩, _, rfl, _, rfl, _, rfl, pth, _, rfl, SqL.of (s8 _ _ k2), fun y hy => ?_⟩
        rw [ec]
        refine ⟨_, rfl, (by show 1 ≤ sizeLine; decide), fun w1 hw1 => ⟨y, w1, _, _, rfl, rfl, keep hw1 upd_same, upd_same, ?_, fun p2 hp2 => ⟨_, rfl, (by show 2 ≤ sizeLine; decide), fun e2 he2 => ?_⟩⟩⟩
        · rw [vn_len, List.length_cons, List.length_take, List.length_singleton]
          exact small (by omega)
        have s9 : Same H8 (upd (upd (upd (upd H8 y (.lst ((x0 :: (spine k).take j).map vn))) w1 (.lst [vn x])) p2 (.lst ((x0 :: (spine k).take j).map vn ++ [vn x]))) e2 (.tup [.ref p2, .ref M])) := (((same_new hy).trans (same_new hw1)).trans (same_new hp2)).trans (same_new he2)
        have he9 : upd (upd (upd (upd H8 y (.lst ((x0 :: (spine k).take j).map vn))) w1 (.lst [vn x])) p2 (.lst ((x0 :: (spine k).take j).map vn ++ [vn x]))) e2 (.tup [.ref p2, .ref M]) e2 = some (.tup [.ref p2, .ref M]) := upd_same
        have hp9 : upd (upd (upd (upd H8 y (.lst ((x0 :: (spine k).take j).map vn))) w1 (.lst [vn x])) p2 (.lst ((x0 :: (spine k).take j).map vn ++ [vn x]))) e2 (.tup [.ref p2, .ref M]) p2 = some (lstN (x0 :: spine (insS j x k))) := by
          rw [keep he2 upd_same, lst_snoc, spine_insS j x k hjs]
          rfl
        have hpL : p2 ≠ Lo := Ne.symm (ne_of_none hLo8 (((same_new hy).trans (same_new hw1)).free hp2))
        generalize upd (upd (upd (upd H8 y (.lst ((x0 :: (spine k).take j).map vn))) w1 (.lst [vn x])) p2 (.lst ((x0 :: (spine k).take j).map vn ++ [vn x]))) e2 (.tup [.ref p2, .ref M]) = H9 at s9 he9 hp9
        have hML : M ≠ Lo := Ne.symm (ne_of_none hLo6 hM)
        have hLo9 := s9 _ _ hLo8
        have hll := paired_len hE6
        rw [List.length_append, List.length_map, List.length_range] at hll
        have hgm := hgle (m + 1)
        rw [hgr, List.length_append, List.length_map, List.length_range] at hgm
        refine ⟨Lo, _, _, rfl, rfl, hLo9, smallT (by rw [List.length_map]; omega), ls ++ [e2], _, _, rfl, ?_, by rw [upd_same, List.map_append]; rfl, ?_⟩
        · exact same_mut ((s6.trans s8).trans s9) hLo
        · rw [List.range_succ, List.map_append, ← List.append_assoc]
          have hb : But Lo H6 (upd H9 Lo (.lst (ls.map V.ref ++ [V.ref e2]))) := (but_same (s8.trans s9)).trans but_upd
          refine (paired_imp (fun e k _ h => h.but hLo6 hb) hE6).snoc ?_
          refine ⟨p2, M, as.set lp c, put g lp x, hpL, hML, keepT hLo9 he9, keepN hpL hp9, keepN hML (s9 _ _ hM8), by rw [List.length_set, g4], fun j' b e => ?_, hins⟩
          by_cases ej : lp = j'
          · subst ej
            rw [List.getElem?_set_self (by omega)] at e
            cases e
            rw [put_at]
            exact keepT hLo9 (s9 _ _ hc8)
          · rw [List.getElem?_set_ne ej] at e
            rw [put_ne (fun q => ej q.symm)]
            exact keepT hLo9 (s9 _ _ (s8 _ _ (k5 j' b e)))
      · rintro σ H6 ⟨ls, v6, v7, rfl, s6, hLo6, hE6⟩
        refine ⟨ls, _, _, _, _, rfl, s6, hLo6, ?_⟩
        rw [hgr]
        exact hE6
    · rintro σ H5 ⟨ls, v4, v5, v6, v7, rfl, s5, hLo5, hE5⟩
      rw [List.length_map, hpl, List.take_length] at hE5
      have := paired_len hE5
      refine ⟨_, rfl, Lo, ls, _, _, _, _, _, _, rfl, s3.trans s5, hLo5, paired_imp (fun _ _ _ h => h.ent) hE5, by omega⟩
  · rintro σ H3 ⟨Fd, es, v2, v3, v4, v5, v6, v7, rfl, s3, hF3, hE3, hlen⟩
    rw [vn_len, List.take_length] at hE3
    have hfs : xs.foldl grow [.nil] = allK xs := rfl
    rw [hfs] at hE3
    have hpl := paired_len hE3
    rw [vn_len] at hlen
    have h55 : (5 : Nat) ^ xs.length ≤ 5 ^ 5 := Nat.pow_le_pow_right (by decide) (by omega)
    have h3125 : (5 : Nat) ^ 5 = 3125 := by decide
    have s03 := s02.trans s3
    refine ⟨_, rfl, Fd, rfl, ⟨_, SqL.of hF3⟩, fun D hD => ?_⟩
    refine lc_list (K := K) (a := Fd) (xs := es.map V.ref) (fun i H' => Same H3 H' ∧ ∃ as' : List Addr, H' D = some (.lst (as'.map V.ref)) ∧ as'.length = i ∧ ∀ j b k, as'[j]? = some b → (allK xs)[j]? = some k → TupT H' (.ref b) (arr n (gof x0 k)))
      ⟨same_new hD, [], upd_same, rfl, fun j b k e => (nil_at e).elim⟩ (fun i H' _ q => SqL.of (q.1 _ _ hF3)) ?_ ?_
    · rintro i y H4 hi ⟨s4, as', h1, h2, h3⟩
      obtain ⟨e, he, rfl⟩ := map_at hi
      have hil := at_lt he
      obtain ⟨k, hk, hEk⟩ := paired_at hE3 i e he
      obtain ⟨pth, rws, as, g, g1, g2, g3, g4, g5, g6⟩ := hEk.same s4
      refine ⟨e, _, rfl, SqT.of g1, rfl, _, _, rfl, _, _, rfl, rfl, rfl, _, rfl, rws, _, rfl, g3, fun u hu => ⟨_, keep hu h1, smallT (by rw [List.length_map]; omega), same_mut (s4.trans (same_new hu)) hD, as' ++ [u], by rw [upd_same, List.map_append]; rfl, by rw [List.length_append, h2]; rfl, fun j b k' e1 e2 => ?_⟩⟩
      have tk : TK H4 (upd (upd H4 u (.tup (as.map V.ref))) D (.lst (as'.map V.ref ++ [.ref u]))) := (tk_new hu).trans (tk_lst (keep hu h1))
      rcases Nat.lt_or_ge j as'.length with hj | hj
      · rw [List.getElem?_append_left hj] at e1
        exact (h3 j b k' e1 e2).mono tk
      · rw [List.getElem?_append_right hj] at e1
        have hj0 : j - as'.length = 0 := by
          have := at_lt e1
          rw [List.length_singleton] at this
          omega
        rw [hj0] at e1
        cases e1
        have ej : j = i := by omega
        subst ej
        rw [hk] at e2
        cases e2
        have hperm : (x0 :: k.all).Perm (List.range n) := by
          refine ((rp_perm k).symm.cons x0).trans ?_
          rw [g6.ord]
          exact hp
        have e3 : arr n g = arr n (gof x0 k) := (rep_arr g6.has hperm).ext (rep_arr (has_gof (hperm.nodup_iff.mpr List.nodup_range)) hperm)
        have huD : u ≠ D := Ne.symm (ne_of_none h1 hu)
        refine ⟨u, as, rfl, keepN huD upd_same, by rw [arr_len, g4], fun i' b' e' => ?_⟩
        have hi' : i' < n := by rw [← g4]; exact at_lt e'
        have e4 : (arr n (gof x0 k)).getD i' [] = g i' := by rw [← e3]; exact gt_arr hi'
        rw [e4]
        exact tk.tup (g5 i' b' e')
    · rintro H4 ⟨s4, as', h1, h2, h3⟩
      rw [List.length_map, hpl] at h2
      refine q D as' H4 (s03.trans s4) h1 (by rw [hallT, List.length_map, h2]) fun i b t e1 e2 => ?_
      rw [hallT] at e2
      obtain ⟨k, hk, rfl⟩ := map_at e2
      exact h3 i b k e1 hk
end
end SF
end

/-! SFh8 -/
section
set_option Elab.async false
set_option linter.all false
set_option maxRecDepth 100000
set_option maxHeartbeats 4000000
/-! _law_tree. -/
namespace SF
open PySem PySem.Spec L2
open PyProof.Rows hiding St

section
variable {P : Program} {w : World} {K : PySem.W.Frag} {mg : Str → Option Value} {base : Heap}
theorem d_Ltree (R : Raw K mg "_law_tree" s_Ltree) (T : Txt mg) (D_Ldraw : Def P w K mg base 1 "_law_draw" ["_law_source_here", "_law_bound"] sp_draw) (D_Lpermutation : Def P w K mg base 2 "_law_permutation" ["_law_source_here", "_law_size_here"] sp_permutation) :
    Def P w K mg base 3 "_law_tree" ["_law_source_here", "_law_size_here"] sp_tree := by
  refine R.made sc_Ltree (fun vs H Q E h => ?_) (fun _ _ _ _ _ _ us hl => match us, hl with | [_, _], _ => rfl) fun f cdv A outer s H vs Q E hr h => ?_
  · obtain ⟨S, N, n, rfl, _⟩ := h
    rfl
  obtain ⟨S, N, n, rfl, hsrc, hN, hn1, hn40, q⟩ := h
  have hr_Ldraw : Room 1 _ := hr.mono (by decide)
  have hr_Lpermutation : Room 2 _ := hr.mono (by decide)
  refine ⟨_, pss_cons (ps_set (i := 2) sc_Ltree.nd rfl (Or.inl rfl) (pe_fn D_Ldraw hr_Ldraw (by rfl) (pa_cons (pv 0) (pa_cons pe_int pa_nil))))
    (pss_cons (ps_set (i := 3) sc_Ltree.nd rfl (Or.inr rfl) (pe_fn D_Lpermutation hr_Lpermutation (by rfl) (pa_cons (pv 0) (pa_cons (pv 1) pa_nil))))
    (pss_cons (ps_setLc (i := 4) (own := [("_law_entry", 9)]) (g := (gName 9)) (tt := tYes) rfl sc_Ltree.nd rfl rfl (sw_true rfl rfl rfl (by decide +kernel)) (pi_range1 (by rfl) T.range (pa_cons (pv 1) pa_nil)) (blkOk_by (N := N_Ltree) (sc := defScope s_Ltree) (by decide +kernel)) (fun _ _ _ _ _ => (pg_name (i := 9) sc_Ltree.nd rfl (Or.inl rfl))) (fun _ _ _ _ _ => pts_nil) (fun _ _ _ _ _ => (pe_lst pa_nil)))
    (pss_cons (ps_for PassesOwn.never rfl (pi_range2 (by rfl) T.range (pa_cons pe_int (pa_cons (pv 1) pa_nil))) (pg_name (i := 5) sc_Ltree.nd rfl (Or.inl rfl)) (pss_cons (ps_set (i := 6) sc_Ltree.nd rfl (Or.inl rfl) (pe_ix ix_l (pe_lst (pa_cons pe_int (pa_cons (pe_fn D_Ldraw hr_Ldraw (by rfl) (pa_cons (pv 0) (pa_cons pe_int pa_nil))) (pa_cons (pe_op op_sub (pv 5) pe_int) (pa_cons (pe_fn D_Ldraw hr_Ldraw (by rfl) (pa_cons (pv 0) (pa_cons (pe_callB (call_min2 rfl) (by rfl) T.min (by decide +kernel) (pa_cons (pv 5) (pa_cons pe_int pa_nil))) pa_nil))) (pa_cons (pe_fn D_Ldraw hr_Ldraw (by rfl) (pa_cons (pv 0) (pa_cons (pv 5) pa_nil))) pa_nil)))))) (pv 2) (fun _ _ => rfl)))
      (pss_cons (ps_set (i := 7) sc_Ltree.nd rfl (Or.inl rfl) (pe_ix ix_l (pv 4) (pe_callB (call_max2 rfl) (by rfl) T.max (by decide +kernel) (pa_cons pe_int (pa_cons (pe_op op_sub (pe_op op_sub (pv 5) pe_int) (pv 6)) pa_nil))) (fun _ _ => rfl)))
      (pss_one (ps_expr (pe_bm PySem.F.plainAttrs_list PySem.F.slot_list_insert PySem.F.type_list_insert mt_insert (pv 7) (pa_cons (pe_fn D_Ldraw hr_Ldraw (by rfl) (pa_cons (pv 0) (pa_cons (pe_op op_add (pe_callB call_lenF (by rfl) T.len PySem.boot_len (pa_cons (pv 7) pa_nil)) pe_int) pa_nil))) (pa_cons (pv 5) pa_nil))))))))
    (pss_cons (ps_set (i := 8) sc_Ltree.nd rfl (Or.inl rfl) (pe_op op_rep (pe_lst (pa_cons (pe_tup pa_nil) pa_nil)) (pv 1)))
    (pss_cons (ps_for PassesOwn.never rfl (pi_range1 (by rfl) T.range (pa_cons (pv 1) pa_nil)) (pg_name (i := 5) sc_Ltree.nd rfl (Or.inl rfl)) (pss_one (ps_asg (pe_callTy call_tupleF (by rfl) T.tuple (by decide +kernel) (pa_cons (pe_lc (own := [("_law_child", 10)]) (g := (gName 10)) (tt := tYes) rfl sc_Ltree.nd (pi_list (pe_ix ix_l (pv 4) (pv 5) (fun _ _ => rfl))) (blkOk_by (N := N_Ltree) (sc := defScope s_Ltree) (by decide +kernel)) (fun _ _ _ _ _ => (pg_name (i := 10) sc_Ltree.nd rfl (Or.inl rfl))) (fun _ _ _ _ _ => pts_nil) (fun _ _ _ _ _ => (pe_ix ix_t (pv 3) (pv 10) (fun _ _ => rfl)))) pa_nil)) (pg_sub (pv 8) (pe_ix ix_t (pv 3) (pv 5) (fun _ _ => rfl)) set_list))))
    (pss_one (ps_ret (pe_callTy call_tupleF (by rfl) T.tuple (by decide +kernel) (pa_cons (pv 8) pa_nil))))))))), ?_⟩
  obtain ⟨oS, hoS⟩ := id hsrc.at
  -- way, names
  refine ⟨_, rfl, S, N, 5, rfl, hsrc, by omega, by decide, by decide, fun way H1 hway d1 src1 => ?_⟩
  refine ⟨_, rfl, _, rfl, S, N + 1, n, rfl, src1, by omega, hn40, fun vN names H2 hnm d2 src2 hT2 => ?_⟩
  obtain ⟨nm, rfl, hnmt⟩ := hT2
  have hnl := perm_len hnm
  have d02 := d1.trans d2
  have hnmS : nm ≠ S := fun e => by
    subst e
    obtain ⟨C, _, _, _, g, _⟩ := src2
    rw [hnmt] at g
    cases g
  -- rows
  refine ⟨_, rfl, _, rfl, by omega, by omega, fun R hR => ?_⟩
  refine lc_range (lo := 0) (n := ((n : Nat) : Int).toNat) (fun i H' => Same H2 H' ∧ ∃ fs : List Addr, H' R = some (.lst (fs.map V.ref)) ∧ fs.length = i ∧ fs.Nodup ∧ ∀ b ∈ fs, H2 b = none ∧ b ≠ R ∧ H' b = some (.lst []))
    ⟨same_new hR, [], upd_same, rfl, List.nodup_nil, fun b hb => by cases hb⟩ ?_ ?_
  · rintro i H4 hi ⟨s4, fs, h1, h2, h3, h4⟩
    rw [Int.toNat_natCast] at hi
    refine ⟨rfl, Nat.zero_le _, fun b hb => ⟨_, keep hb h1, smallT (by rw [List.length_map]; omega), same_mut (s4.trans (same_new hb)) hR, fs ++ [b], by rw [upd_same, List.map_append]; rfl, by rw [List.length_append, h2]; rfl, ?_, fun c hc => ?_⟩⟩
    · rw [List.nodup_append]
      refine ⟨h3, List.nodup_cons.mpr ⟨by simp, List.nodup_nil⟩, fun c hc c' hc' e => ?_⟩
      rw [List.mem_singleton.mp hc'] at e
      subst e
      have := (h4 c hc).2.2
      rw [hb] at this
      cases this
    · rcases List.mem_append.mp hc with g | g
      · obtain ⟨g1, g2, g3⟩ := h4 c g
        exact ⟨g1, g2, keepN g2 (keep hb g3)⟩
      · rw [List.mem_singleton.mp g]
        have hne2 : b ≠ R := Ne.symm (ne_of_none h1 hb)
        exact ⟨s4.free hb, hne2, keepN hne2 upd_same⟩
  rintro H3 ⟨s3, fs, hR3, hfl, hfn, hfs⟩
  rw [Int.toNat_natCast] at hfl
  obtain ⟨oS2, hoS2⟩ := id src2.at
  have hRS : R ≠ S := Ne.symm (ne_of_none hoS2 hR)
  have hfS : ∀ b ∈ fs, b ≠ S := fun b hb => Ne.symm (ne_of_none hoS2 (hfs b hb).1)
  have d03 := d02.trans (Dr.same s3)
  have src3 := src2.same s3
  have hf0 : ∀ b ∈ fs, H b = none := fun b hb => d02.but.free ⟨oS, hoS⟩ (hfs b hb).1 (hfS b hb)
  have hni : ∀ b ∈ fs, NotIn H3 S b := fun b hb => (src2.notIn (hfs b hb).1).dr (Dr.same s3)
  have hnm3 := s3 _ _ hnmt
  -- the leaves
  have hf2 : ∀ b ∈ fs, H2 b = none := fun b hb => (hfs b hb).1
  refine ⟨_, rfl, 1, _, rfl, ⟨by decide, by decide, by omega, by omega⟩, ?_⟩
  refine for_range (lo := 1) (n := ((n : Int) - 1).toNat) (fun i σ H' => ∃ (v5 v6 v7 : Option V) (g : G), σ = [some (.ref S), some (vn n), some (vn way), some (.ref nm), some (.ref R), v5, v6, v7, none, none, none] ∧ Dr S H2 H' ∧ Src H' S (N + 101 + 4 * i) ∧ H' R = some (.lst (fs.map V.ref)) ∧
      (∀ j b, fs[j]? = some b → H' b = some (lstN (g j))) ∧ Grown g (i + 1) ∧ ∀ b ∈ fs, NotIn H' S b)
    ⟨none, none, none, fun _ => [], rfl, Dr.same s3, src3.le (by omega), hR3, fun j b e => (hfs b (List.mem_of_getElem? e)).2.2, grown_one, hni⟩ ?_ ?_
  · rintro i σ H4 hi ⟨v5, v6, v7, g, rfl, d4, src4, hR4, hf4, hG, hn4⟩
    have hi' : i + 1 < n := by omega
    have en : V.int (1 + (i : Int)) = vn (i + 1) := by show V.int _ = V.int _; rw [Int.natCast_add, Int.add_comm]; rfl
    show gName 5 (V.int (1 + (i : Int))) _ _ _
    rw [en]
    -- back
    have emin : V.int (if (4 : Int) < ((i + 1 : Nat) : Int) then 4 else ((i + 1 : Nat) : Int)) = vn (min (i + 1) 4) := by
      show V.int _ = V.int _
      congr 1
      split <;> omega
    refine ⟨_, rfl, S, N + 101 + 4 * i, 2, rfl, src4, by omega, by decide, by decide, fun b1 H5 hb1 d5 src5 => ⟨_, rfl, _, _, rfl, rfl, _, rfl, _, rfl, _, _, rfl, S, N + 101 + 4 * i + 1, min (i + 1) 4, ?_, src5, by omega, by omega, Nat.le_trans (Nat.min_le_right _ _) (by decide), fun b2 H6 hb2 d6 src6 => ⟨_, rfl, _, rfl, S, N + 101 + 4 * i + 2, i + 1, rfl, src6, by omega, by omega, Nat.le_trans (by omega : i + 1 ≤ 40) (by decide), fun b3 H7 hb3 d7 src7 => ⟨(by show 5 ≤ sizeLine; decide), fun p hp => ?_⟩⟩⟩⟩
    · show [V.ref S, V.int (if (4 : Int) < ((i + 1 : Nat) : Int) then 4 else ((i + 1 : Nat) : Int))] = _
      rw [emin]
    obtain ⟨bk, hbk⟩ : ∃ bk : Nat, atI [V.int 0, vn b1, V.int (((i + 1 : Nat) : Int) - 1), vn b2, vn b3] (way : Int) = some (vn bk) := by
      match way, hway with
      | 0, _ => exact ⟨0, rfl⟩
      | 1, _ => exact ⟨b1, rfl⟩
      | 2, _ => exact ⟨i, by show some (V.int (((i + 1 : Nat) : Int) - 1)) = some (V.int (i : Int)); congr 2; omega⟩
      | 3, _ => exact ⟨b2, rfl⟩
      | 4, _ => exact ⟨b3, rfl⟩
    refine ⟨_, rfl, p, _, _, _, rfl, rfl, upd_same, hbk, ?_⟩
    have d27 := ((d4.trans d5).trans d6).trans d7
    have d47 := (d5.trans d6).trans d7
    have d48 := d47.trans (Dr.same (same_new (o := .lst [V.int 0, vn b1, V.int (((i + 1 : Nat) : Int) - 1), vn b2, vn b3]) hp))
    have src8 := src7.new (o := .lst [V.int 0, vn b1, V.int (((i + 1 : Nat) : Int) - 1), vn b2, vn b3]) hp
    have d28 := d4.trans d48
    show gName 6 (vn bk) _ (upd H7 p (.lst [V.int 0, vn b1, V.int (((i + 1 : Nat) : Int) - 1), vn b2, vn b3])) _
    generalize upd H7 p (.lst [V.int 0, vn b1, V.int (((i + 1 : Nat) : Int) - 1), vn b2, vn b3]) = H8 at d48 src8 d28
    -- above
    have ea : (if ((i + 1 : Nat) : Int) - 1 - (bk : Int) > 0 then ((i + 1 : Nat) : Int) - 1 - (bk : Int) else 0) = ((i - bk : Nat) : Int) := by split <;> omega
    obtain ⟨ba, hba⟩ : ∃ b, fs[i - bk]? = some b := ⟨_, List.getElem?_eq_getElem (by omega)⟩
    have hbam := List.mem_of_getElem? hba
    have hR8 := d48.but R _ hRS hR4
    have hb8 := d48.but ba _ (hfS ba hbam) (hf4 _ ba hba)
    have hgl := hG.len (i - bk)
    refine ⟨_, rfl, _, rfl, _, _, rfl, rfl, _, rfl, _, _, rfl, rfl, _, _, rfl, R, _, _, _, rfl, rfl, hR8, (by rw [ea]; exact ix_ref hba), ?_⟩
    -- above.insert(draw(..), node)
    refine ⟨_, rfl, .inl ⟨rfl, _, SqL.of hb8⟩, _, rfl, _, rfl, ba, _, rfl, .inl hb8, _, _, rfl, rfl, S, N + 101 + 4 * i + 3, (g (i - bk)).length + 1, ?_, src8, by omega, by omega, Nat.le_trans (by omega : (g (i - bk)).length + 1 ≤ 50) (by decide), fun v H9 hv d9 src9 => ?_⟩
    · show [V.ref S, V.int (((((g (i - bk)).map vn).length : Nat) : Int) + 1)] = _
      rw [vn_len]
      rfl
    have hb9 := d9.but ba _ (hfS ba hbam) hb8
    refine ⟨_, rfl, ba, _, (v : Int), _, rfl, rfl, hb9, smallT (by rw [vn_len]; omega), by omega, by omega, ?_⟩
    rw [Int.toNat_natCast]
    have eg : (HO.lst (((g (i - bk)).map vn).take v ++ [vn (i + 1)] ++ ((g (i - bk)).map vn).drop v)) = lstN (insG g (i - bk) (i + 1) v (i - bk)) := by
      rw [insG_at]
      simp [lstN]
    rw [eg]
    have hn9 := ((hn4 ba hbam).dr d48).dr d9
    have d29 := d28.trans d9
    refine ⟨_, _, _, insG g (i - bk) (i + 1) v, rfl, d29.mut (hf2 ba hbam), ((src9.put hn9 (hfS ba hbam)).le (by omega)), keepN (Ne.symm (hfs ba hbam).2.1) (d9.but R _ hRS hR8), fun j b e => ?_, hG.ins (by omega), fun b hb => ((((hn4 b hb).dr d48).dr d9).put (hfS ba hbam))⟩
    by_cases ej : j = i - bk
    · subst ej
      rw [hba] at e
      cases e
      exact upd_same
    · rw [insG_ne ej]
      have hbm := List.mem_of_getElem? e
      have hne : b ≠ ba := fun q => ej (by
        subst q
        exact ((List.getElem?_inj (at_lt e) hfn).mp (by rw [e, hba])))
      exact keepN hne (d9.but b _ (hfS b hbm) (d48.but b _ (hfS b hbm) (hf4 j b e)))
  -- tree_here
  rintro σ H4 ⟨v5, v6, v7, g, rfl, d4, src4, hR4, hf4, hG, hn4⟩
  have hGn : Grown g n := by
    have e : ((n : Int) - 1).toNat + 1 = n := by omega
    rw [e] at hG
    exact hG
  have hnm4 := d4.but nm _ hnmS hnmt
  refine ⟨(by show 0 ≤ sizeLine; decide), fun t0 ht0 => ⟨(by show 1 ≤ sizeLine; decide), fun t1 ht1 => ⟨_, rfl, t1, _, _, rfl, rfl, upd_same, by omega, by omega, ?_, fun T2 hT2 => ?_⟩⟩⟩
  · rw [Int.toNat_natCast]
    refine small ?_
    show 1 * n ≤ _
    omega
  have eR : (List.replicate ((n : Nat) : Int).toNat [V.ref t0]).flatten = (List.replicate n t0).map V.ref := by
    rw [Int.toNat_natCast, rep_flat, List.map_replicate]
  rw [eR]
  have s5 : Same H4 (upd (upd (upd H4 t0 (.tup [])) t1 (.lst [.ref t0])) T2 (.lst ((List.replicate n t0).map V.ref))) := ((same_new ht0).trans (same_new ht1)).trans (same_new hT2)
  have hT5 : upd (upd (upd H4 t0 (.tup [])) t1 (.lst [.ref t0])) T2 (.lst ((List.replicate n t0).map V.ref)) T2 = some (.lst ((List.replicate n t0).map V.ref)) := upd_same
  have hT4 : H4 T2 = none := ((same_new ht0).trans (same_new ht1)).free hT2
  generalize upd (upd (upd H4 t0 (.tup [])) t1 (.lst [.ref t0])) T2 (.lst ((List.replicate n t0).map V.ref)) = H5 at s5 hT5
  have hat : ∀ j, j < n → names[j]? = some (names.getD j 0) := fun j hj => at_getD 0 (by omega)
  have hidx : ∀ j, j < n → names.idxOf (names.getD j 0) = j := fun j hj => idx_at (perm_nodup hnm) (hat j hj)
  have hpn : ∀ j, j < n → names.getD j 0 < n := fun j hj => perm_lt hnm (List.mem_of_getElem? (hat j hj))
  refine ⟨_, rfl, _, rfl, by omega, by omega, ?_⟩
  refine for_range (lo := 0) (n := ((n : Nat) : Int).toNat) (fun i σ H' => ∃ (v5 v6 v7 : Option V) (as : List Addr), σ = [some (.ref S), some (vn n), some (vn way), some (.ref nm), some (.ref R), v5, v6, v7, some (.ref T2), none, none] ∧ Same H4 H' ∧ H' T2 = some (.lst (as.map V.ref)) ∧ as.length = n ∧
      ∀ j b, j < i → as[names.getD j 0]? = some b → H' b = some (tupN ((g j).map fun c => names.getD c 0)))
    ⟨v5, v6, v7, List.replicate n t0, rfl, s5, hT5, List.length_replicate, fun j b hj => absurd hj (Nat.not_lt_zero j)⟩ ?_ ?_
  · rintro i σ H6 hi ⟨v5, v6, v7, as, rfl, s6, hT6, has, hrow⟩
    rw [Int.toNat_natCast] at hi
    have e0 : (0 : Int) + (i : Int) = (i : Int) := Int.zero_add _
    obtain ⟨bi, hbi⟩ : ∃ b, fs[i]? = some b := ⟨_, List.getElem?_eq_getElem (by omega)⟩
    have hR6 := s6 _ _ hR4
    have hb6 := s6 _ _ (hf4 i bi hbi)
    have hnm6 := s6 _ _ hnm4
    have hgl := hGn.len i
    refine ⟨_, rfl, _, rfl, R, _, _, _, rfl, rfl, hR6, (by rw [e0]; exact ix_ref hbi), bi, rfl, ⟨_, SqL.of hb6⟩, fun D hD => ?_⟩
    refine lc_list (K := K) (a := bi) (xs := (g i).map vn) (fun m H' => Same H6 H' ∧ H' D = some (lstN (((g i).take m).map fun c => names.getD c 0))) ⟨same_new hD, upd_same⟩ (fun m H' _ q => SqL.of (q.1 _ _ hb6)) ?_ ?_
    · rintro m y H7 hm ⟨s7, h7⟩
      obtain ⟨c, hc, rfl⟩ := map_at hm
      have hcn := hGn.row_lt (List.mem_of_getElem? hc)
      refine ⟨rfl, _, rfl, _, rfl, nm, _, _, _, rfl, rfl, s7 _ _ hnm6, ix_at (hat c hcn), _, h7, ?_, same_mut s7 hD, ?_⟩
      · rw [vn_len, List.length_map, List.length_take]
        exact smallT (by omega)
      · rw [upd_same, lst_snoc, take_snoc hc, List.map_append]
        rfl
    · rintro H7 ⟨s7, h7⟩
      rw [vn_len, List.take_length] at h7
      refine ⟨D, _, rfl, h7, fun u hu => ?_⟩
      have hT7 := keep hu (s7 _ _ hT6) (u := .tup (((g i).map fun c => names.getD c 0).map vn))
      have s8 := (s6.trans s7).trans (same_new (o := .tup (((g i).map fun c => names.getD c 0).map vn)) hu)
      refine ⟨_, rfl, _, rfl, _, rfl, nm, _, _, _, rfl, rfl, keep hu (s7 _ _ hnm6), (by rw [e0]; exact ix_at (hat i hi)), T2, _, _, names.getD i 0, rfl, rfl, hT7, ixN_nat (by rw [List.length_map, has]; exact hpn i hi), ?_⟩
      refine ⟨_, v6, v7, as.set (names.getD i 0) u, rfl, same_mut s8 hT4, by rw [upd_same, List.map_set], by rw [List.length_set, has], fun j b hj e => ?_⟩
      by_cases ej : j = i
      · subst ej
        rw [List.getElem?_set_self (by rw [has]; exact hpn j hi)] at e
        cases e
        exact keepT hT7 upd_same
      · have hne : names.getD i 0 ≠ names.getD j 0 := fun q => ej (by rw [← hidx j (by omega), ← q, hidx i hi])
        rw [List.getElem?_set_ne hne] at e
        exact keepT hT7 (keep hu (s7 _ _ (hrow j b (by omega) e)))
  · rintro σ H6 ⟨v5, v6, v7, as, rfl, s6, hT6, has, hrow⟩
    rw [Int.toNat_natCast] at hrow
    refine ⟨_, rfl, T2, _, rfl, hT6, fun u hu => ?_⟩
    obtain ⟨r, k, hRep⟩ := ren_rep hGn hnm
    have d06 := (d02.trans d4).trans (Dr.same s6)
    refine q (.ref u) _ r k _ hRep (arr_len _ _) (d06.trans (Dr.same (same_new hu))) (((src4.same s6).new hu).le (by omega)) ⟨u, as, rfl, upd_same, by rw [arr_len, has], fun y b e => ?_⟩
    have hy : y < n := by rw [← has]; exact at_lt e
    have hym : y ∈ names := hnm.mem_iff.mpr (List.mem_range.mpr hy)
    have hjl := List.idxOf_lt_length_of_mem hym
    have hyj : names.getD (names.idxOf y) 0 = y := by
      have := List.getElem_idxOf hjl
      rw [List.getD_eq_getElem?_getD, List.getElem?_eq_getElem hjl]
      exact this
    have eg : (arr n (renG g names)).getD y [] = (g (names.idxOf y)).map fun c => names.getD c 0 := gt_arr hy
    rw [eg]
    exact keep hu (hrow (names.idxOf y) b (by omega) (by rw [hyj]; exact e))
end
end SF
end

/-! SFk3 -/
section
set_option Elab.async false
set_option linter.all false
set_option maxRecDepth 100000
set_option maxHeartbeats 4000000
/-! Data that can be shown and compared. -/
namespace SF
open PySem PySem.Spec L2
open PyProof.Rows hiding St

structure Sm (b k : Nat) (d : PyData) : Prop where
  sh : d.showable = true
  nd : d.hasDict = false
  dp : d.depth ≤ k
  ls : d.leavesShort 1921 = true
  bk : d.bulk ≤ b
  cl : d.canLay0 = true
structure SmA (b k n : Nat) (ds : List PyData) : Prop where
  sh : PyData.showableAll ds = true
  nd : PyData.hasDictAll ds = false
  dp : PyData.depthAll ds ≤ k
  ls : PyData.leavesShortAll 1921 ds = true
  bk : PyData.bulkAll ds ≤ n * (b + 1)
  cl : PyData.canLayAll0 ds = true
theorem SmA.nil {b k : Nat} : SmA b k 0 [] := ⟨rfl, rfl, Nat.zero_le _, rfl, Nat.zero_le _, rfl⟩
theorem SmA.cons {b k n : Nat} {d : PyData} {ds : List PyData} (h : Sm b k d) (t : SmA b k n ds) : SmA b k (n + 1) (d :: ds) := by
  refine ⟨?_, ?_, ?_, ?_, ?_, ?_⟩
  · simp only [PyData.showableAll, h.sh, t.sh, Bool.and_self]
  · simp only [PyData.hasDictAll, h.nd, t.nd, Bool.or_self]
  · have h1 := h.dp
    have h2 := t.dp
    simp only [PyData.depthAll]
    omega
  · simp only [PyData.leavesShortAll, h.ls, t.ls, Bool.and_self]
  · have h1 := h.bk
    have h2 := t.bk
    simp only [PyData.bulkAll]
    rw [Nat.add_mul, Nat.one_mul]
    omega
  · simp only [PyData.canLayAll0, h.cl, t.cl, Bool.and_self]
theorem SmA.of {b k : Nat} : ∀ {ds : List PyData}, (∀ d ∈ ds, Sm b k d) → SmA b k ds.length ds
  | [], _ => .nil
  | d :: ds, h => .cons (h d (by simp)) (SmA.of fun x hx => h x (by simp [hx]))
theorem SmA.tup {b k n : Nat} {ds : List PyData} (h : SmA b k n ds) : Sm (n * (b + 1)) (k + 1) (.tuple ds) :=
  ⟨by simp only [PyData.showable, h.sh], by simp only [PyData.hasDict, h.nd], by have := h.dp; simp only [PyData.depth]; omega, by simp only [PyData.leavesShort, h.ls], by simp only [PyData.bulk]; exact h.bk, by simp only [PyData.canLay0, h.cl]⟩
theorem SmA.lst {b k n : Nat} {ds : List PyData} (h : SmA b k n ds) : Sm (n * (b + 1)) (k + 1) (.list ds) :=
  ⟨by simp only [PyData.showable, h.sh], by simp only [PyData.hasDict, h.nd], by have := h.dp; simp only [PyData.depth]; omega, by simp only [PyData.leavesShort, h.ls], by simp only [PyData.bulk]; exact h.bk, by simp only [PyData.canLay0, h.cl]⟩
theorem Sm.le {b k b' k' : Nat} {d : PyData} (h : Sm b k d) (hb : b ≤ b') (hk : k ≤ k') : Sm b' k' d := ⟨h.sh, h.nd, Nat.le_trans h.dp hk, h.ls, Nat.le_trans h.bk hb, h.cl⟩
theorem sm_nat {n : Nat} (h : n ≤ 10 ^ 30) : Sm 0 0 (dn1 n) := by
  have hl : (n : Int).natAbs.log2 < 1920 := by
    rw [Int.natAbs_natCast]
    exact PySem.Flt.log2_lt_of (by decide) (Nat.lt_of_lt_of_le (lim_lt h) (Nat.pow_le_pow_right (by decide) (by decide)))
  refine ⟨by simp only [PyData.showable]; exact decide_eq_true hl, rfl, Nat.le_refl _, ?_, Nat.le_refl _, rfl⟩
  simp only [PyData.leavesShort]
  refine decide_eq_true ?_
  have := int_text_len_1921 hl
  simp only [PyData.shown]
  exact this
theorem sm_word (s : Str) (h : (s.cps.toList.all fun c => decide (c < 16 ^ 8)) = true) (hn : s.cps.size ≤ 10) (hc : (PyData.str s).canLay0 = true) : Sm 10 0 (.str s) := ⟨rfl, rfl, Nat.le_refl _, by simp only [PyData.leavesShort]; exact h, by simp only [PyData.bulk]; exact hn, hc⟩
theorem Sm.show {b k : Nat} {d : PyData} (h : Sm b k d) (hb : b ≤ 8000) (hk : k ≤ 50) : d.showable = true ∧ d.hasDict = false ∧ d.depth ≤ 50 ∧ d.shown.length ≤ sizeLine := by
  refine ⟨h.sh, h.nd, Nat.le_trans h.dp hk, ?_⟩
  have h1 := PyData.shown_le_bulk 1921 (by decide) d h.ls
  have h2 := h.bk
  have h3 : (1921 + 2) * d.bulk ≤ 1923 * 8000 := Nat.mul_le_mul_left _ (by omega)
  have h4 : sizeLine = 16777216 := by decide
  omega
theorem Sm.shaped {b k : Nat} {d : PyData} (h : Sm b k d) (hk : k ≤ 50) : SeqAt.shaped d = true := by
  unfold SeqAt.shaped
  rw [h.cl, Bool.true_and]
  exact decide_eq_true (by have := h.dp; omega)
theorem Sm.refl {b k : Nat} {d : PyData} (h : Sm b k d) : PyData.eqv d d = true := PySem.SeqAt.eqv_refl d h.cl

theorem sm_dI {l : List Nat} {m : Nat} (hl : l.length ≤ m) (h : ∀ x ∈ l, x ≤ 10 ^ 30) : Sm m 1 (.tuple (dI l)) := by
  have h1 : SmA 0 0 (dI l).length (dI l) := SmA.of fun d hd => by
    obtain ⟨x, hx, rfl⟩ := List.mem_map.mp hd
    exact sm_nat (h x hx)
  refine h1.tup.le ?_ (Nat.le_refl _)
  rw [List.length_map]
  omega
abbrev dT (t : Tree) : PyData := .tuple (t.map fun l => .tuple (dI l))
abbrev dP (p : Nat × List Nat) : PyData := .tuple [dn1 p.1, .tuple (dI p.2)]
abbrev dPs (ps : Pairs) : PyData := .list (ps.map dP)
theorem sm_T {t : Tree} (hn : t.length ≤ 40) (h : ∀ l ∈ t, l.length ≤ 40 ∧ ∀ x ∈ l, x < 40) : Sm 1640 2 (dT t) := by
  have h1 : SmA 40 1 (t.map fun l => PyData.tuple (dI l)).length (t.map fun l => PyData.tuple (dI l)) := SmA.of fun d hd => by
    obtain ⟨l, hl, rfl⟩ := List.mem_map.mp hd
    obtain ⟨a1, a2⟩ := h l hl
    exact sm_dI a1 fun x hx => Nat.le_trans (Nat.le_of_lt (a2 x hx)) (by decide)
  refine h1.tup.le ?_ (Nat.le_refl _)
  rw [List.length_map]
  have : t.length * 41 ≤ 40 * 41 := Nat.mul_le_mul_right _ hn
  omega
theorem sm_rep {t : Tree} {r : Nat} {k : F} (h : Rep t r k) (hn : t.length ≤ 40) : Sm 1640 2 (dT t) :=
  sm_T hn fun l hl => ⟨Nat.le_trans (h.row_len l hl) hn, fun x hx => Nat.lt_of_lt_of_le (h.row_lt l hl x hx) hn⟩
theorem sm_P {p : Nat × List Nat} {n : Nat} (h1 : p.1 ≤ 10 ^ 30) (h2 : p.2.Perm (List.range n)) (hn : n ≤ 40) : Sm 82 2 (dP p) := by
  have a : Sm 40 1 (.tuple (dI p.2)) := sm_dI (by rw [perm_len h2]; exact hn) fun x hx => Nat.le_trans (Nat.le_of_lt (perm_lt h2 hx)) (Nat.le_trans hn (by decide))
  exact (SmA.cons ((sm_nat h1).le (Nat.zero_le 40) (Nat.zero_le 1)) (.cons a .nil)).tup
theorem sm_Ps {ps : Pairs} {n : Nat} (hl : ps.length ≤ 20) (h1 : ∀ p ∈ ps, p.1 ≤ 10 ^ 30) (h2 : ∀ p ∈ ps, p.2.Perm (List.range n)) (hn : n ≤ 40) : Sm 1660 3 (dPs ps) := by
  have h1 : SmA 82 2 (ps.map dP).length (ps.map dP) := SmA.of fun d hd => by
    obtain ⟨p, hp, rfl⟩ := List.mem_map.mp hd
    exact sm_P (h1 p hp) (h2 p hp) hn
  refine h1.lst.le ?_ (Nat.le_refl _)
  rw [List.length_map]
  have : ps.length * 83 ≤ 20 * 83 := Nat.mul_le_mul_right _ hl
  omega
def dR : Res → PyData
  | .tree t => .tuple [.str "tree", dT t]
  | .none l pos => .tuple [.str "none", dn1 l, dn1 pos]
theorem dp_res {K : PySem.W.Frag} {H : Hp} {v : V} : ∀ {r : Res}, ResV H v r → Dp K H v (dR r)
  | .tree t, ⟨a, u, e, h, hu⟩ => by
    subst e
    exact .tup (SqT.of h) (.cons (.str _) (.cons (dp_tree hu) .nil))
  | .none l pos, ⟨a, e, h⟩ => by
    subst e
    exact .tup (SqT.of h) (.cons (.str _) (.cons (.int _) (.cons (.int _) .nil)))
theorem res_ref {H : Hp} {v : V} : ∀ {r : Res}, ResV H v r → ∃ a, v = .ref a
  | .tree t, ⟨a, u, e, h, hu⟩ => ⟨a, e⟩
  | .none l pos, ⟨a, e, h⟩ => ⟨a, e⟩
theorem sm_tree {t : Tree} (h : Sm 1640 2 (dT t)) : Sm 3282 3 (dR (.tree t)) := (SmA.cons ((sm_word "tree" (by decide) (by decide) (by decide +kernel)).le (by decide : 10 ≤ 1640) (Nat.zero_le 2)) (.cons h .nil)).tup
theorem sm_none {l pos : Nat} (h1 : l ≤ 10 ^ 30) (h2 : pos ≤ 10 ^ 30) : Sm 3282 3 (dR (.none l pos)) :=
  (SmA.cons ((sm_word "none" (by decide) (by decide) (by decide +kernel)).le (Nat.le_refl 10) (Nat.le_refl 0)) (.cons ((sm_nat h1).le (Nat.zero_le 10) (Nat.le_refl 0)) (.cons ((sm_nat h2).le (Nat.zero_le 10) (Nat.le_refl 0)) .nil))).tup.le (by decide) (by decide)
/-- what tree_from_logs answers can be shown -/
theorem sm_res {ps : Pairs} {n : Nat} (h : Valid ps n) : Sm 3282 3 (dR (resOf ps)) := by
  obtain ⟨r, k, hR, hn⟩ := h.rep
  have h40 := h.size
  unfold resOf
  cases e : ps.find? (fun p => !decide (logT p.1 (FT ps) = p.2)) with
  | none => exact sm_tree (sm_rep hR (by omega))
  | some p =>
    have hp := List.mem_of_find?_eq_some e
    have hne : ¬ logT p.1 (FT ps) = p.2 := by
      have := List.find?_some e
      simpa using this
    have hl1 := perm_len (logT_perm hR p.1)
    have hl2 := perm_len (h.perms.perm p hp)
    have hd := (fdiff_lt (by omega) hne).1
    exact sm_none (h.lim p hp).2 (Nat.le_trans (by omega : fdiff (logT p.1 (FT ps)) p.2 ≤ 40) (by decide))
end SF
end

/-! SFh9 -/
section
set_option Elab.async false
set_option linter.all false
set_option maxRecDepth 100000
set_option maxHeartbeats 4000000
/-! _law_right. -/
namespace SF
open PySem PySem.Spec L2
open PyProof.Rows hiding St

theorem rng_snoc (p : Nat → Bool) (i : Nat) : (List.range (i + 1)).filter p = (List.range i).filter p ++ (if p i = true then [i] else []) := by
  rw [List.range_succ, List.filter_append, List.filter_cons, List.filter_nil]
theorem allK_len {xs : List Nat} (h : xs.length ≤ 4) : (allK xs).length ≤ 5 ^ 4 := by
  have key : ∀ i, i ≤ xs.length → ((xs.take i).foldl grow [.nil]).length ≤ 5 ^ i := by
    intro i
    induction i with
    | zero => intro _; exact Nat.le_refl _
    | succ i ih =>
      intro hi
      have hx : xs[i]? = some xs[i] := List.getElem?_eq_getElem (by omega)
      have h1 := ih (by omega)
      rw [take_snoc hx, List.foldl_append]
      show (grow ((xs.take i).foldl grow [.nil]) xs[i]).length ≤ _
      have hrpl := foldl_grow_rp (xs.take i) [.nil] [] (by simp [rp])
      have hsp : ∀ k ∈ (xs.take i).foldl grow [.nil], (spine k).length ≤ 4 := fun k hk => by
        have h1 := spine_len k
        have h2 := (rp_perm k).length_eq
        rw [hrpl k hk, F.all_length, List.nil_append, List.length_take] at h2
        omega
      have h2 := grow_len (x := xs[i]) hsp
      rw [Nat.pow_succ, Nat.mul_comm]
      exact Nat.le_trans h2 (Nat.mul_le_mul_left 5 h1)
  have := key xs.length (Nat.le_refl _)
  rw [List.take_length] at this
  exact Nat.le_trans this (Nat.pow_le_pow_right (by decide) h)
theorem first_of {p : Nat → Bool} : ∀ {n f : Nat}, f < n → p f = true → (∀ m, m < f → p m = false) → ∃ r, (List.range n).filter p = f :: r := by
  intro n f hf hp hm
  have e : List.range n = List.range f ++ (f :: List.range' (f + 1) (n - (f + 1))) := by
    have h1 : n = f + (n - f) := by omega
    rw [List.range_eq_range', List.range_eq_range']
    conv => lhs; rw [h1, ← List.range'_append_1]
    have h2 : n - f = (n - (f + 1)) + 1 := by omega
    rw [h2, Nat.zero_add, List.range'_succ]
  have h0 : (List.range f).filter p = [] := by
    rw [List.filter_eq_nil_iff]
    intro x hx
    rw [hm x (List.mem_range.mp hx)]
    decide
  rw [e, List.filter_append, h0, List.filter_cons, if_pos hp]
  exact ⟨_, rfl⟩
theorem first_diff {la lb : List Nat} (hl : la.length = lb.length) (hne : la ≠ lb) : ∃ r, (List.range lb.length).filter (fun j => !decide (vn (la.getD j 0) = vn (lb.getD j 0))) = fdiff la lb :: r := by
  obtain ⟨h1, h2, h3⟩ := fdiff_lt hl hne
  have key : ∀ m, m < la.length → (List.zipWith (fun x y => decide (x = y)) la lb)[m]? = some (decide (la.getD m 0 = lb.getD m 0)) := fun m hm => by
    rw [List.getElem?_zipWith, at_getD 0 hm, at_getD 0 (by omega : m < lb.length)]
  have ev : ∀ x y : Nat, decide (vn x = vn y) = decide (x = y) := fun x y => decide_eq_decide.mpr vn_inj
  refine first_of (by omega) ?_ fun m hm => ?_
  · rw [key _ h1] at h2
    rw [ev, Option.some.inj h2]
    rfl
  · have := h3 m hm _ (key m (by omega))
    rw [ev, this]
    rfl
theorem PairsAt.snoc {H : Hp} {es : List Addr} {U : Pairs} {t u : Addr} {p : Nat × List Nat} {ho : HO} (h : PairsAt H es U) (ht : H t = some (.tup [vn p.1, .ref u])) (hl : LT p.2 ho) (hu : H u = some ho) : PairsAt H (es ++ [t]) (U ++ [p]) := by
  refine ⟨by rw [List.length_append, List.length_append, h.1]; rfl, fun j q p' e1 e2 => ?_⟩
  rcases Nat.lt_or_ge j es.length with hj | hj
  · rw [List.getElem?_append_left hj] at e1
    rw [List.getElem?_append_left (by rw [← h.1]; exact hj)] at e2
    exact h.2 j q p' e1 e2
  · rw [List.getElem?_append_right hj] at e1
    rw [List.getElem?_append_right (by rw [← h.1]; exact hj)] at e2
    have hj0 : j - es.length = 0 := by
      have := at_lt e1
      rw [List.length_singleton] at this
      omega
    rw [hj0] at e1
    rw [← h.1, hj0] at e2
    cases e1
    cases e2
    exact ⟨u, ho, hl, ht, hu⟩
/-- pairs whose log the tree does not have -/
noncomputable def unl (ps : Pairs) (t : Tree) : Pairs := ps.filter fun p => !decide (logT p.1 t = p.2)
theorem res_nil {ps : Pairs} (h : unl ps (FT ps) = []) : resOf ps = .tree (FT ps) := by
  unfold resOf
  have : ps.find? (fun p => !decide (logT p.1 (FT ps) = p.2)) = none := by
    rw [← List.head?_filter]
    unfold unl at h
    rw [h]
    rfl
  rw [this]
theorem res_cons {ps : Pairs} {p : Nat × List Nat} {r : Pairs} (h : unl ps (FT ps) = p :: r) : resOf ps = .none p.1 (fdiff (logT p.1 (FT ps)) p.2) := by
  unfold resOf
  have : ps.find? (fun p => !decide (logT p.1 (FT ps) = p.2)) = some p := by
    rw [← List.head?_filter]
    unfold unl at h
    rw [h]
    rfl
  rw [this]
theorem ResV.same {H H' : Hp} {v : V} (s : Same H H') : ∀ {r : Res}, ResV H v r → ResV H' v r
  | .tree t, ⟨a, u, e, h, hu⟩ => ⟨a, u, e, s _ _ h, hu.mono (tk_same s)⟩
  | .none l pos, ⟨a, e, h⟩ => ⟨a, e, s _ _ h⟩
theorem dp_trees {K : PySem.W.Frag} {H : Hp} : ∀ {hs : List Addr} {ts : List Tree}, Paired (fun b t => TupT H (.ref b) t) hs ts → DpAll K H (hs.map V.ref) (ts.map dT)
  | [], [], .nil => .nil
  | _ :: _, _ :: _, .cons h t => .cons (dp_tree h) (dp_trees t)
theorem unl_nil {ps : Pairs} {t : Tree} {v : Nat} {k : F} (h : Rep t v k) : (unl ps t).isEmpty = hasAll ps v k := by
  unfold unl hasAll
  induction ps with
  | nil => rfl
  | cons p ps ih =>
    rw [List.filter_cons, List.all_cons, ← ih, logT_eq h]
    by_cases e : lg p.1 v k = p.2
    · simp [e]
    · have : (lg p.1 v k == p.2) = false := by rw [beq_eq_false_iff_ne]; exact e
      simp [e, this]
section
variable {P : Program} {w : World} {K : PySem.W.Frag} {mg : Str → Option Value} {base : Heap}
theorem d_Lright (R : Raw K mg "_law_right" s_Lright) (T : Txt mg) (D_Lall : Def P w K mg base 1 "_law_all" ["_law_order"] sp_all) (D_Lforced : Def P w K mg base 2 "_law_forced" ["_law_pairs"] sp_Lforced) (D_Llog : Def P w K mg base 42 "_law_log" ["_law_tree_here", "_law_limit"] sp_log) (D_is_tree : Def P w K mg base 5 "is_tree" ["value"] sp_is_tree) (D_tree_from_logs : Def P w K mg base 6 "tree_from_logs" ["logs"] sp_tree_from_logs) :
    DefG P w K mg base 43 "_law_right" ["_law_pairs"] sp_right := by
  refine R.madeG sc_Lright (fun vs H Q E h => ?_) (fun _ _ _ _ _ _ us hl => match us, hl with | [_], _ => rfl) fun f cdv A outer s H vs Q E hgu hr h => ?_
  · obtain ⟨a, qs, ps, n, rfl, _⟩ := h
    rfl
  obtain ⟨a, qs, ps, n, rfl, ha, hpz, hV, hfew, q⟩ := h
  have hu64 := hr.units
  have hr_Lall : Room 1 _ := hr.mono (by decide)
  have hr_Lforced : Room 2 _ := hr.mono (by decide)
  have hr_Llog : Room 42 _ := hr.mono (by decide)
  have hr_is_tree : Room 5 _ := hr.mono (by decide)
  have hr_tree_from_logs : Room 6 _ := hr.mono (by decide)
  refine ⟨_, pss_cons (ps_set (i := 1) sc_Lright.nd rfl (Or.inl rfl) (pe_callB (call_repr hgu hu64) (by rfl) T.repr (by decide +kernel) (pa_cons (pv 0) pa_nil)))
    (pss_cons (ps_set (i := 2) sc_Lright.nd rfl (Or.inr rfl) (pe_fn D_Lforced hr_Lforced (by rfl) (pa_cons (pv 0) pa_nil)))
    (pss_cons (ps_setLc (i := 3) (own := [("_law_limit", 5), ("_law_log_here", 6)]) (g := (gTup K 2 (gCons (gName 5) (gCons (gName 6) gNil)))) rfl sc_Lright.nd rfl rfl (sw_true rfl rfl rfl (by decide +kernel)) (pi_list (pv 0)) (blkOk_by (N := N_Lright) (sc := defScope s_Lright) (by decide +kernel)) (fun _ _ _ _ _ => (pg_tup (by rfl) (pgs_cons (pg_name (i := 5) sc_Lright.nd rfl (Or.inl rfl)) (pgs_cons (pg_name (i := 6) sc_Lright.nd rfl (Or.inl rfl)) pgs_nil)))) (fun _ _ _ _ _ => pts_one (pt_cmpR (op_neT hu64) (pe_fn D_Llog hr_Llog (by rfl) (pa_cons (pv 2) (pa_cons (pv 5) pa_nil))) (pv 6) (nomark _))) (fun _ _ _ _ _ => (pe_tup (pa_cons (pv 5) (pa_cons (pv 6) pa_nil)))))
    (pss_cons (ps_set (i := 4) sc_Lright.nd rfl (Or.inl rfl) (pe_tup (pa_cons pe_str (pa_cons (pv 2) pa_nil))))
    (pss_cut (ps_if (pt_cmpR (op_neD hu64) (pv 3) (pe_lst pa_nil) (nomark _)) (pss_cons (ps_asg (pe_ix ix_l (pv 3) pe_int (fun _ _ => rfl)) (pg_tup (by rfl) (pgs_cons (pg_name (i := 5) sc_Lright.nd rfl (Or.inl rfl)) (pgs_cons (pg_name (i := 6) sc_Lright.nd rfl (Or.inr rfl)) pgs_nil))))
      (pss_cons (ps_set (i := 7) sc_Lright.nd rfl (Or.inr rfl) (pe_fn D_Llog hr_Llog (by rfl) (pa_cons (pv 2) (pa_cons (pv 5) pa_nil))))
      (pss_one (ps_set (i := 4) sc_Lright.nd rfl (Or.inl rfl) (pe_tup (pa_cons pe_str (pa_cons (pv 5) (pa_cons (pe_ix ix_l (pe_lc (own := [("_law_place", 11)]) (g := (gName 11)) rfl sc_Lright.nd (pi_range1 (by rfl) T.range (pa_cons (pe_callB call_lenF (by rfl) T.len PySem.boot_len (pa_cons (pv 6) pa_nil)) pa_nil)) (blkOk_by (N := N_Lright) (sc := defScope s_Lright) (by decide +kernel)) (fun _ _ _ _ _ => (pg_name (i := 11) sc_Lright.nd rfl (Or.inl rfl))) (fun _ _ _ _ _ => pts_one (pt_cmpR op_ne (pe_ix ix_z (pv 7) (pv 11) (fun _ _ => rfl)) (pe_ix ix_z (pv 6) (pv 11) (fun _ _ => rfl)) (nomark _))) (fun _ _ _ _ _ => (pv 11))) pe_int (fun _ _ => rfl)) pa_nil)))))))) pss_nil)
    (pss_cons (ps_if (PW.pt (pw_or (pt_cmpR op_ne (pe_callB (call_repr hgu hu64) (by rfl) T.repr (by decide +kernel) (pa_cons (pe_fn D_tree_from_logs hr_tree_from_logs (by rfl) (pa_cons (pv 0) pa_nil)) pa_nil)) (pe_callB (call_repr hgu hu64) (by rfl) T.repr (by decide +kernel) (pa_cons (pv 4) pa_nil)) (nomark _)) (pw_or1 (pt_cmpR op_ne (pe_callB (call_repr hgu hu64) (by rfl) T.repr (by decide +kernel) (pa_cons (pv 0) pa_nil)) (pv 1) (nomark _))))) (pss_one (ps_ret pe_bl)) pss_nil)
    (pss_cons (ps_if (PW.pt (pw_or (pt_cmpR op_gt (pe_callB call_lenF (by rfl) T.len PySem.boot_len (pa_cons (pv 2) pa_nil)) pe_int (nomark _)) (pw_or1 (pt_cmpR op_notInN pe_int (pe_lc (own := [("_law_limit", 5), ("_law_log_here", 6)]) (g := (gTup K 2 (gCons (gName 5) (gCons (gName 6) gNil)))) (tt := tYes) rfl sc_Lright.nd (pi_list (pv 0)) (blkOk_by (N := N_Lright) (sc := defScope s_Lright) (by decide +kernel)) (fun _ _ _ _ _ => (pg_tup (by rfl) (pgs_cons (pg_name (i := 5) sc_Lright.nd rfl (Or.inl rfl)) (pgs_cons (pg_name (i := 6) sc_Lright.nd rfl (Or.inl rfl)) pgs_nil)))) (fun _ _ _ _ _ => pts_nil) (fun _ _ _ _ _ => (pv 5))) (by rfl))))) (pss_one (ps_ret (pe_fn D_is_tree hr_is_tree (by rfl) (pa_cons (pv 2) pa_nil)))) pss_nil)
    (pss_cons (ps_set (i := 8) sc_Lright.nd rfl (Or.inl rfl) (pe_ix ix_l (pe_lc (own := [("_law_limit", 5), ("_law_log_here", 6)]) (g := (gTup K 2 (gCons (gName 5) (gCons (gName 6) gNil)))) rfl sc_Lright.nd (pi_list (pv 0)) (blkOk_by (N := N_Lright) (sc := defScope s_Lright) (by decide +kernel)) (fun _ _ _ _ _ => (pg_tup (by rfl) (pgs_cons (pg_name (i := 5) sc_Lright.nd rfl (Or.inl rfl)) (pgs_cons (pg_name (i := 6) sc_Lright.nd rfl (Or.inl rfl)) pgs_nil)))) (fun _ _ _ _ _ => pts_one (pt_cmpR op_eq (pv 5) pe_int (nomark _))) (fun _ _ _ _ _ => (pv 6))) pe_int (fun _ _ => rfl)))
    (pss_cons (ps_set (i := 9) sc_Lright.nd rfl (Or.inl rfl) (pe_lst pa_nil))
    (pss_cons (ps_for PassesOwn.never rfl (pi_list (pe_fn D_Lall hr_Lall (by rfl) (pa_cons (pv 8) pa_nil))) (pg_name (i := 10) sc_Lright.nd rfl (Or.inr rfl)) (pss_one (ps_if (pt_cmpR (op_eqD hu64) (pe_lc (own := [("_law_limit", 5), ("_law_log_here", 6)]) (g := (gTup K 2 (gCons (gName 5) (gCons (gName 6) gNil)))) rfl sc_Lright.nd (pi_list (pv 0)) (blkOk_by (N := N_Lright) (sc := defScope s_Lright) (by decide +kernel)) (fun _ _ _ _ _ => (pg_tup (by rfl) (pgs_cons (pg_name (i := 5) sc_Lright.nd rfl (Or.inl rfl)) (pgs_cons (pg_name (i := 6) sc_Lright.nd rfl (Or.inl rfl)) pgs_nil)))) (fun _ _ _ _ _ => pts_one (pt_cmpR (op_neT hu64) (pe_fn D_Llog hr_Llog (by rfl) (pa_cons (pv 10) (pa_cons (pv 5) pa_nil))) (pv 6) (nomark _))) (fun _ _ _ _ _ => (pv 5))) (pe_lst pa_nil) (nomark _)) (pss_one (ps_expr (pe_bm PySem.F.plainAttrs_list PySem.F.slot_list_append PySem.F.type_list_append mt_append (pv 9) (pa_cons (pv 10) pa_nil)))) pss_nil)))
    (pss_one (ps_ret (pe_cmpR (op_eqD hu64) (pv 9) (pe_op op_rep (pe_lst (pa_cons (pv 2) pa_nil)) (pe_callTy call_int1 (by rfl) T.int (by decide +kernel) (pa_cons (pe_cmpR (op_eqD hu64) (pv 3) (pe_lst pa_nil) (nomark _)) pa_nil))) (nomark _))))))))))))), ?_⟩
  have hps := hpz.pa
  have hlen : (qs.map V.ref).length = ps.length := by rw [List.length_map]; exact hps.1
  have hP := hV.perms
  have hn40 := hV.size
  have smPs : Sm 1660 3 (dPs ps) := sm_Ps (by omega) (fun p hp => (hV.lim p hp).2) hP.perm hn40
  obtain ⟨sh1, sh2, sh3, sh4⟩ := smPs.show (by decide) (by decide)
  have dps : ∀ {H' : Hp}, Same H H' → Dp K H' (.ref a) (dPs ps) := fun s => .lst (SqL.of (s _ _ ha)) (dp_pairs (hps.mono (tk_same s)))
  -- before
  refine ⟨_, rfl, a, dPs ps, rfl, dps (Same.refl _), sh1, sh2, sh3, sh4, ?_⟩
  -- tree_here
  refine ⟨_, rfl, a, qs, ps, n, rfl, ha, hpz, hP, hn40, by omega, fun u H1 s1 hu => ?_⟩
  obtain ⟨k, hkm, hkr, hR, hRn⟩ := ft_is hP
  have hx0 : ((ordOf ps).headD 0) = ((ordOf ps).headD 0) := rfl
  have hordP := hP.ordPerm
  have hordC := hP.ordCons
  generalize hx0 : (ordOf ps).headD 0 = x0 at hR hordC
  have hu0 := hu
  obtain ⟨ut, uas, rfl, hut, hurow⟩ := hu
  have smT := sm_rep hR (by omega)
  -- unlike
  refine ⟨_, rfl, a, rfl, ⟨_, SqL.of (s1 _ _ ha)⟩, fun D hD => ?_⟩
  refine lc_list (K := K) (a := a) (xs := qs.map V.ref) (fun i H' => Same H1 H' ∧ ∃ es : List Addr, H' D = some (.lst (es.map V.ref)) ∧ PairsAt H' es (unl (ps.take i) (FT ps)) ∧ es.length ≤ i)
    ⟨same_new hD, [], upd_same, ⟨rfl, fun j q p e => (nil_at e).elim⟩, Nat.le_refl _⟩ (fun i H' _ h => SqL.of (h.1 _ _ (s1 _ _ ha))) ?_ ?_
  · rintro i y H2 hi ⟨s2, es, h1, h2, h3⟩
    obtain ⟨q1, hqi, rfl⟩ := map_at hi
    have hi' : i < ps.length := by rw [← hps.1]; exact at_lt hqi
    obtain ⟨pi, hpi⟩ : ∃ pi, ps[i]? = some pi := ⟨_, List.getElem?_eq_getElem hi'⟩
    obtain ⟨q2, u2, ho2, ht2, hq2, hq2t, hu2⟩ := hps.at hpi
    rw [hqi] at hq2
    cases hq2
    have hmem := List.mem_of_getElem? hpi
    have s02 := s1.trans s2
    refine ⟨q1, _, rfl, SqT.of (s02 _ _ hq2t), rfl, _, _, rfl, _, _, rfl, rfl, rfl, _, rfl, _, rfl, .ref ut, FT ps, x0, k, pi.1, rfl, hu0.mono (tk_same s2), hR, by omega, (hV.lim pi hmem).1, fun w2 H3 s3 hw => ?_⟩
    obtain ⟨uo, rfl, huo⟩ := hw
    rw [← logT_eq hR] at huo
    have s03 := s02.trans s3
    refine ⟨_, rfl, uo, u2, _, _, rfl, rfl, lg_tup huo, ⟨ho2, ht2, s03 _ _ hu2⟩, _, rfl, ?_⟩
    have hfs : unl (ps.take (i + 1)) (FT ps) = unl (ps.take i) (FT ps) ++ (if (!decide (logT pi.1 (FT ps) = pi.2)) = true then [pi] else []) := filter_snoc hpi
    rw [hfs]
    have h1' := s3 _ _ h1
    by_cases e : logT pi.1 (FT ps) = pi.2
    · rw [decide_eq_true e]
      refine iteF ⟨s2.trans s3, es, h1', ?_, by omega⟩
      have e2 : (if (!true) = true then [pi] else []) = ([] : Pairs) := rfl
      rw [e2, List.append_nil]
      exact h2.mono (tk_same s3)
    · rw [decide_eq_false e]
      refine iteT ⟨_, rfl, _, rfl, (by show 2 ≤ sizeLine; decide), fun t ht => ⟨_, keep ht h1', smallT (by rw [List.length_map]; omega), same_mut ((s2.trans s3).trans (same_new ht)) hD, es ++ [t], by rw [upd_same, List.map_append]; rfl, ?_, by rw [List.length_append, List.length_singleton]; omega⟩⟩
      have e2 : (if (!false) = true then [pi] else []) = ([pi] : Pairs) := rfl
      rw [e2]
      have tk : TK H2 (upd (upd H3 t (.tup [vn pi.1, .ref u2])) D (.lst (es.map V.ref ++ [.ref t]))) := ((tk_same s3).trans (tk_new ht)).trans (tk_lst (keep ht h1'))
      have htD : t ≠ D := Ne.symm (ne_of_none h1' ht)
      have hu3 : upd (upd H3 t (.tup [vn pi.1, .ref u2])) D (.lst (es.map V.ref ++ [.ref t])) u2 = some ho2 := by
        have tk2 : TK H3 (upd (upd H3 t (.tup [vn pi.1, .ref u2])) D (.lst (es.map V.ref ++ [.ref t]))) := (tk_new ht).trans (tk_lst (keep ht h1'))
        exact tk2.lt ht2 (s03 _ _ hu2)
      exact (h2.mono tk).snoc (keepN htD upd_same) ht2 hu3
  rintro H2 ⟨s2, es, hD2, hes, hesl⟩
  have et : ps.take (qs.map V.ref).length = ps := by rw [hlen, List.take_length]
  rw [et] at hes
  rw [hlen] at hesl
  have s02 := s1.trans s2
  have smU : Sm 1660 3 (dPs (unl ps (FT ps))) := sm_Ps (n := n) (by have := hes.1; omega) (fun p hp => (hV.lim p (List.mem_filter.mp hp).1).2) (fun p hp => hP.perm p (List.mem_filter.mp hp).1) hn40
  have hu2 := hu0.mono (tk_same s2)
  -- expected
  refine ⟨_, rfl, (by show 2 ≤ sizeLine; decide), fun x4 hx4 => ?_⟩
  have s3 : Same H2 (upd H2 x4 (.tup [.str "tree", .ref ut])) := same_new hx4
  have hx43 : upd H2 x4 (.tup [.str "tree", .ref ut]) x4 = some (.tup [.str "tree", .ref ut]) := upd_same
  generalize upd H2 x4 (.tup [.str "tree", .ref ut]) = H3 at s3 hx43
  refine ⟨fun σ H' => ∃ x4 v5 v6 v7, σ = [some (.ref a), some (.str (dPs ps).shown), some (.ref ut), some (.ref D), some x4, v5, v6, v7, none, none, none, none] ∧ Same H2 H' ∧ ResV H' x4 (resOf ps), ?_, ?_⟩
  · refine ⟨_, rfl, Nat.zero_le _, fun z hz => ⟨_, _, .lst (SqL.of (keep hz (s3 _ _ hD2))) (dp_pairs ((hes.mono (tk_same s3)).mono (tk_new hz))), .lst (SqL.of upd_same) .nil, smU.shaped (by decide), shaped_nil, ?_⟩⟩
    have s4 : Same H2 (upd H3 z (.lst [])) := s3.trans (same_new hz)
    have hx44 := keep hz hx43 (u := .lst [])
    generalize upd H3 z (.lst []) = H4 at s4 hx44
    rw [eqv_nil]
    refine ⟨_, rfl, ?_⟩
    cases hU : unl ps (FT ps) with
    | nil =>
      refine iteF ⟨.ref x4, _, _, _, rfl, s4, ?_⟩
      rw [res_nil hU]
      exact ⟨x4, .ref ut, rfl, hx44, hu2.mono (tk_same s4)⟩
    | cons p rU =>
      refine iteT ?_
      have hp0 : (unl ps (FT ps))[0]? = some p := by rw [hU]; rfl
      obtain ⟨e, up, hop, htp, he, het, hup⟩ := hes.at hp0
      have hpm : p ∈ unl ps (FT ps) := by rw [hU]; simp
      obtain ⟨hpm1, hpm2⟩ := List.mem_filter.mp hpm
      have hne : logT p.1 (FT ps) ≠ p.2 := by simpa using hpm2
      have hl1 := perm_len (logT_perm hR p.1)
      have hl2 := perm_len (hP.perm p hpm1)
      refine ⟨_, rfl, D, _, 0, _, rfl, rfl, s4 _ _ hD2, ix_ref (i := 0) he, e, _, rfl, SqT.of (s4 _ _ het), rfl, _, _, rfl, _, _, rfl, rfl, ?_⟩
      refine ⟨_, rfl, _, rfl, .ref ut, FT ps, x0, k, p.1, rfl, hu2.mono (tk_same s4), hR, by omega, (hV.lim p hpm1).1, fun w2 H5 s5 hw => ?_⟩
      obtain ⟨uo, rfl, huo⟩ := hw
      rw [← logT_eq hR] at huo
      have s25 := s4.trans s5
      have hup5 := s25 _ _ hup
      refine ⟨_, rfl, _, rfl, up, _, rfl, .lg ⟨hop, htp, hup5⟩, _, rfl, by rw [vn_len]; omega, by rw [vn_len]; omega, fun D2 hD2' => ?_⟩
      rw [vn_len]
      refine lc_range (lo := 0) (n := ((p.2.length : Nat) : Int).toNat) (fun i H' => Same H5 H' ∧ H' D2 = some (lstN ((List.range i).filter fun j => !decide (vn ((logT p.1 (FT ps)).getD j 0) = vn (p.2.getD j 0))))) ⟨same_new hD2', upd_same⟩ ?_ ?_
      · rintro i H6 hi ⟨s6, h6⟩
        rw [Int.toNat_natCast] at hi
        have e0 : (0 : Int) + (i : Int) = (i : Int) := Int.zero_add _
        refine ⟨rfl, _, rfl, _, rfl, uo, logT p.1 (FT ps), _, _, rfl, rfl, lg_tup (s6 _ _ huo), (by rw [e0]; exact ix_at (at_getD 0 (by omega))), _, rfl, _, rfl, up, p.2, _, _, rfl, rfl, ⟨hop, htp, s6 _ _ hup5⟩, (by rw [e0]; exact ix_at (at_getD 0 hi)), rfl, _, rfl, ?_⟩
        rw [rng_snoc]
        have hfl := List.length_filter_le (fun j => !decide (vn ((logT p.1 (FT ps)).getD j 0) = vn (p.2.getD j 0))) (List.range i)
        rw [List.length_range] at hfl
        cases hd : decide (vn ((logT p.1 (FT ps)).getD i 0) = vn (p.2.getD i 0)) with
        | true =>
          refine iteF ⟨s6, ?_⟩
          have e9 : (if (!true) = true then [i] else []) = ([] : List Nat) := rfl
          rw [h6, e9, List.append_nil]
        | false =>
          refine iteT ⟨_, rfl, _, h6, smallT (by rw [vn_len]; omega), same_mut s6 hD2', ?_⟩
          have e9 : (if (!false) = true then [i] else []) = ([i] : List Nat) := rfl
          rw [upd_same, e0, lst_snoc, e9]
      · rintro H6 ⟨s6, h6⟩
        rw [Int.toNat_natCast] at h6
        obtain ⟨rr, hrr⟩ := first_diff (la := logT p.1 (FT ps)) (lb := p.2) (by omega) hne
        rw [hrr] at h6
        refine ⟨D2, _, 0, _, rfl, rfl, h6, ix_at (l := fdiff (logT p.1 (FT ps)) p.2 :: rr) (i := 0) rfl, (by show 3 ≤ sizeLine; decide), fun x5 hx5 => ⟨.ref x5, _, _, _, rfl, (s25.trans s6).trans (same_new hx5), ?_⟩⟩
        rw [res_cons hU]
        exact ⟨x5, rfl, upd_same⟩
  clear hx43 s3
  rintro σ H3 ⟨x4, v5, v6, v7, rfl, s3, hres⟩
  have s03 := s02.trans s3
  have smR := sm_res hV
  obtain ⟨rh1, rh2, rh3, rh4⟩ := smR.show (by decide) (by decide)
  have hPV : PairsV H3 (.ref a) ps := ⟨a, qs, rfl, .inl (s03 _ _ ha), hps.mono (tk_same s03)⟩
  obtain ⟨a4, rfl⟩ := res_ref hres
  refine ⟨_, rfl, .ref a, ps, n, rfl, hPV, hV, fun uR H4 s4 hres2 => ?_⟩
  obtain ⟨aR, rfl⟩ := res_ref hres2
  refine ⟨aR, dR (resOf ps), rfl, dp_res hres2, rh1, rh2, rh3, rh4, _, rfl, a4, dR (resOf ps), rfl, dp_res (hres.same s4), rh1, rh2, rh3, rh4, rfl, _, rfl, ?_⟩
  have e1 : decide (V.str (dR (resOf ps)).shown = V.str (dR (resOf ps)).shown) = true := decide_eq_true rfl
  show if (!decide (V.str (dR (resOf ps)).shown = V.str (dR (resOf ps)).shown)) = true then _ else _
  rw [e1]
  refine iteF ?_
  have s04 := s03.trans s4
  refine ⟨_, rfl, a, dPs ps, rfl, dps s04, sh1, sh2, sh3, sh4, _, rfl, rfl, _, rfl, ?_⟩
  have e2 : decide (V.str (dPs ps).shown = V.str (dPs ps).shown) = true := decide_eq_true rfl
  show if (!decide (V.str (dPs ps).shown = V.str (dPs ps).shown)) = true then _ else _
  rw [e2]
  refine iteF ?_
  -- small?
  have s24 := s3.trans s4
  have hu4 := hu2.mono (tk_same s24)
  have hut4 := s24 _ _ (s2 _ _ hut)
  have hutl : (uas.map V.ref).length = n := by rw [List.length_map, hurow.1, hRn]
  refine ⟨_, rfl, ut, _, rfl, .inr hut4, _, _, rfl, rfl, _, rfl, ite2 (fun c => ?_) (fun c => ?_)⟩
  · refine iteT ⟨_, rfl, .ref ut, FT ps, x0, k, rfl, hu4, hR, by omega, fun H5 s5 => q H5 (s04.trans s5)⟩
  have hn5 : n ≤ 5 := by
    rw [hutl] at c
    have : ¬ ((5 : Int) < (n : Int)) := fun h => c (decide_eq_true h)
    omega
  refine ⟨_, rfl, a, rfl, ⟨_, SqL.of (s04 _ _ ha)⟩, fun D3 hD3 => ?_⟩
  refine lc_list (K := K) (a := a) (xs := qs.map V.ref) (fun i H' => Same H4 H' ∧ H' D3 = some (lstN ((ps.map (·.1)).take i))) ⟨same_new hD3, upd_same⟩ (fun i H' _ h => SqL.of (h.1 _ _ (s04 _ _ ha))) ?_ ?_
  · rintro i y H5 hi ⟨s5, h5⟩
    obtain ⟨q1, hqi, rfl⟩ := map_at hi
    have hi' : i < ps.length := by rw [← hps.1]; exact at_lt hqi
    obtain ⟨pi, hpi⟩ : ∃ pi, ps[i]? = some pi := ⟨_, List.getElem?_eq_getElem hi'⟩
    obtain ⟨q2, u2, ho2, ht2, hq2, hq2t, hu2'⟩ := hps.at hpi
    rw [hqi] at hq2
    cases hq2
    refine ⟨q1, _, rfl, SqT.of ((s04.trans s5) _ _ hq2t), rfl, _, _, rfl, _, _, rfl, rfl, rfl, _, rfl, _, h5, ?_, same_mut s5 hD3, ?_⟩
    · rw [vn_len, List.length_take]
      exact smallT (by omega)
    · rw [upd_same, lst_snoc, fst_take hpi]
  rintro H5 ⟨s5, h5⟩
  rw [hlen, show ps.length = (ps.map (·.1)).length by rw [List.length_map], List.take_length] at h5
  have s05 := s04.trans s5
  refine ⟨D3, ps.map (·.1), 1, rfl, rfl, h5, _, rfl, ite2 (fun c1 => ?_) (fun c1 => ?_)⟩
  · refine ⟨_, rfl, .ref ut, FT ps, x0, k, rfl, hu4.mono (tk_same s5), hR, by omega, fun H6 s6 => q H6 (s05.trans s6)⟩
  have h1m : 1 ∈ ps.map (·.1) := by
    refine Classical.byContradiction fun h => c1 ?_
    rw [decide_eq_false h]
    rfl
  -- order
  have hu5 := hu4.mono (tk_same s5)
  refine ⟨_, rfl, a, rfl, ⟨_, SqL.of (s05 _ _ ha)⟩, fun D4 hD4 => ?_⟩
  refine lc_list (K := K) (a := a) (xs := qs.map V.ref) (fun i H' => Same H5 H' ∧ ∃ us, H' D4 = some (.lst (us.map V.ref)) ∧ LogsAt H us (((ps.take i).filter fun p => p.1 == 1).map (·.2)) ∧ us.length ≤ i)
    ⟨same_new hD4, [], upd_same, trivial, Nat.le_refl _⟩ (fun i H' _ h => SqL.of (h.1 _ _ (s05 _ _ ha))) ?_ ?_
  · rintro i y H6 hi ⟨s6, us, h1, h2, h3⟩
    obtain ⟨q1, hqi, rfl⟩ := map_at hi
    have hi' : i < ps.length := by rw [← hps.1]; exact at_lt hqi
    obtain ⟨pi, hpi⟩ : ∃ pi, ps[i]? = some pi := ⟨_, List.getElem?_eq_getElem hi'⟩
    obtain ⟨q2, u2, ho2, ht2, hq2, hq2t, hu2'⟩ := hps.at hpi
    rw [hqi] at hq2
    cases hq2
    refine ⟨q1, _, rfl, SqT.of ((s05.trans s6) _ _ hq2t), rfl, _, _, rfl, _, _, rfl, rfl, rfl, _, rfl, rfl, _, rfl, ?_⟩
    rw [filter_snoc hpi]
    by_cases e : pi.1 = 1
    · have e1 : decide (vn pi.1 = V.int 1) = true := decide_eq_true (by rw [e]; rfl)
      have e2 : (pi.1 == 1) = true := by rw [e]; rfl
      refine ite2 (fun _ => ?_) (fun c => absurd e1 c)
      simp only [if_pos e2, List.map_append]
      refine ⟨_, rfl, _, h1, smallT (by rw [List.length_map]; omega), same_mut s6 hD4, us ++ [u2], by rw [upd_same, List.map_append]; rfl, h2.append ⟨⟨ho2, ht2, hu2'⟩, trivial⟩, by rw [List.length_append, List.length_singleton]; omega⟩
    · have e1 : ¬ decide (vn pi.1 = V.int 1) = true := fun h => e (vn_inj.mp (of_decide_eq_true h : vn pi.1 = vn 1))
      have e2 : ¬ (pi.1 == 1) = true := by simpa using e
      refine ite2 (fun c => absurd c e1) (fun _ => ?_)
      simp only [if_neg e2, List.append_nil]
      exact ⟨s6, us, h1, h2, by omega⟩
  rintro H6 ⟨s6, us, h61, h62, h63⟩
  rw [hlen, List.take_length] at h62
  have hfne : (ps.filter fun p => p.1 == 1).map (·.2) ≠ [] := by
    obtain ⟨p, hp, hp1⟩ := List.mem_map.mp h1m
    intro e
    rw [List.map_eq_nil_iff, List.filter_eq_nil_iff] at e
    have := e p hp
    rw [hp1] at this
    exact this rfl
  have hordF : ordOf ps = ((ps.filter fun p => p.1 == 1).map (·.2)).headD [] := by
    unfold ordOf
    cases e : (ps.filter fun p => p.1 == 1).map (·.2) with
    | nil => exact absurd e hfne
    | cons l r => rfl
  obtain ⟨uo, uor, huo, huot⟩ := h62.head hfne
  rw [← hordF] at huot
  rw [huo] at h61
  have s06 := s05.trans s6
  refine ⟨D4, _, 0, _, rfl, rfl, h61, ix_ref (i := 0) rfl, ?_⟩
  -- having = []
  refine ⟨Nat.zero_le _, fun Hv hHv => ?_⟩
  have s7 : Same H6 (upd H6 Hv (.lst [])) := same_new hHv
  have hHv7 : upd H6 Hv (.lst []) Hv = some (.lst []) := upd_same
  generalize upd H6 Hv (.lst []) = H7 at s7 hHv7
  have s07 := s06.trans s7
  refine ⟨_, rfl, uo, ordOf ps, n, rfl, huot.mono s07, hordP, hP.pos, hn5, fun pL as H8 s8 hpL hasl hast => ?_⟩
  have hallT : allT n (ordOf ps) = (allK ((ordOf ps).drop 1)).map fun k => arr n (gof x0 k) := by rw [← hx0]; rfl
  rw [hallT] at hasl hast
  rw [List.length_map] at hasl
  have hHv8 := s8 _ _ hHv7
  have hpLv : pL ≠ Hv := fun e => by
    rw [e, hHv8] at hpL
    injection hpL with hpL
    injection hpL with hpL
    have h0 : as = [] := by
      cases as with
      | nil => rfl
      | cons _ _ => simp at hpL
    rw [h0] at hasl
    have h0' : allK ((ordOf ps).drop 1) = [] := List.length_eq_zero_iff.mp hasl.symm
    rw [h0'] at hkm
    cases hkm
  have s08 := s07.trans s8
  have hlen8 : as.length ≤ 5000 := by
    rw [hasl]
    have h1 := allK_len (xs := (ordOf ps).drop 1) (by rw [List.length_drop, hP.ordLen]; omega)
    have h2 : (5 : Nat) ^ 4 = 625 := by decide
    omega
  refine ⟨pL, rfl, ⟨_, SqL.of hpL⟩, ?_⟩
  have hb : ∀ {H' : Hp}, But Hv H8 H' → TK H8 H' := fun h => tk_but h hHv8
  have hHv0 : H Hv = none := s06.free hHv
  refine for_list (K := K) (a := pL) (xs := as.map V.ref) (fun i σ H' => ∃ v10 hs, σ = [some (.ref a), some (.str (dPs ps).shown), some (.ref ut), some (.ref D), some (.ref a4), v5, v6, v7, some (.ref uo), some (.ref Hv), v10, none] ∧ But Hv H8 H' ∧ H' Hv = some (.lst (hs.map V.ref)) ∧ hs.length ≤ i ∧
      Paired (fun b t => TupT H' (.ref b) t) hs ((((allK ((ordOf ps).drop 1)).take i).filter (hasAll ps x0)).map fun k => arr n (gof x0 k)))
    ⟨none, [], rfl, But.refl, hHv8, Nat.le_refl _, .nil⟩ (fun i σ H' _ ⟨_, _, _, b, _⟩ => SqL.of (b _ _ hpLv hpL)) ?_ ?_
  · rintro i y σ H9 hi ⟨v10, hs, rfl, b9, hHv9, hsl, hst⟩
    obtain ⟨b, hbi, rfl⟩ := map_at hi
    have hil := at_lt hbi
    obtain ⟨ki, hki⟩ : ∃ k, (allK ((ordOf ps).drop 1))[i]? = some k := ⟨_, List.getElem?_eq_getElem (by omega)⟩
    have hti := (hast i b _ hbi (at_map hki)).mono (hb b9)
    have hRi : Rep (arr n (gof x0 ki)) x0 ki := by
      have := rep_listed hP (allK_rp _ ki (List.mem_of_getElem? hki))
      rw [hx0] at this
      exact this
    have ha9 : H9 a = some (.lst (qs.map V.ref)) := b9 a _ (ne_of_none ha hHv0) (s08 _ _ ha)
    have keep9 : ∀ {x : Addr} {o : HO}, H x = some o → H9 x = some o := fun e => b9 _ _ (ne_of_none e hHv0) (s08 _ _ e)
    refine ⟨_, rfl, a, rfl, ⟨_, SqL.of ha9⟩, fun D5 hD5 => ?_⟩
    refine lc_list (K := K) (a := a) (xs := qs.map V.ref) (fun j H' => Same H9 H' ∧ H' D5 = some (lstN ((unl (ps.take j) (arr n (gof x0 ki))).map (·.1)))) ⟨same_new hD5, upd_same⟩ (fun j H' _ h => SqL.of (h.1 _ _ ha9)) ?_ ?_
    · rintro j y H10 hj ⟨s10, h10⟩
      obtain ⟨q1, hqi, rfl⟩ := map_at hj
      have hi' : j < ps.length := by rw [← hps.1]; exact at_lt hqi
      obtain ⟨pi, hpi⟩ : ∃ pi, ps[j]? = some pi := ⟨_, List.getElem?_eq_getElem hi'⟩
      obtain ⟨q2, u2, ho2, ht2, hq2, hq2t, hu2'⟩ := hps.at hpi
      rw [hqi] at hq2
      cases hq2
      have hmem := List.mem_of_getElem? hpi
      refine ⟨q1, _, rfl, SqT.of (s10 _ _ (keep9 hq2t)), rfl, _, _, rfl, _, _, rfl, rfl, rfl, _, rfl, _, rfl, .ref b, _, x0, ki, pi.1, rfl, hti.mono (tk_same s10), hRi, by rw [arr_len]; omega, (hV.lim pi hmem).1, fun w2 H11 s11 hw => ?_⟩
      obtain ⟨uw, rfl, huw⟩ := hw
      rw [← logT_eq hRi] at huw
      refine ⟨_, rfl, uw, u2, _, _, rfl, rfl, lg_tup huw, ⟨ho2, ht2, s11 _ _ (s10 _ _ (keep9 hu2'))⟩, _, rfl, ?_⟩
      have hfs : unl (ps.take (j + 1)) (arr n (gof x0 ki)) = unl (ps.take j) (arr n (gof x0 ki)) ++ (if (!decide (logT pi.1 (arr n (gof x0 ki)) = pi.2)) = true then [pi] else []) := filter_snoc hpi
      rw [hfs]
      have hul : (unl (ps.take j) (arr n (gof x0 ki))).length ≤ 20 := by
        have h1 := List.length_filter_le (fun p : Nat × List Nat => !decide (logT p.1 (arr n (gof x0 ki)) = p.2)) (ps.take j)
        have h2 : (ps.take j).length ≤ 10 := by rw [List.length_take]; omega
        unfold unl
        omega
      have h11 := s11 _ _ h10
      by_cases e : logT pi.1 (arr n (gof x0 ki)) = pi.2
      · rw [decide_eq_true e]
        refine iteF ⟨s10.trans s11, ?_⟩
        rw [h11]
        simp
      · rw [decide_eq_false e]
        refine iteT ⟨_, rfl, _, h11, smallT (by rw [vn_len, List.length_map]; omega), same_mut (s10.trans s11) hD5, ?_⟩
        rw [upd_same, lst_snoc]
        simp
    · rintro H10 ⟨s10, h10⟩
      rw [et] at h10
      refine ⟨Nat.zero_le _, fun z hz => ⟨_, _, dp_lst (keep hz h10), .lst (SqL.of upd_same) .nil, shaped_lst _, shaped_nil, ?_⟩⟩
      have s11 : Same H9 (upd H10 z (.lst [])) := s10.trans (same_new hz)
      rw [eqv_nil]
      have ee : (dI ((unl ps (arr n (gof x0 ki))).map (·.1))).isEmpty = hasAll ps x0 ki := by
        rw [← unl_nil hRi]
        cases unl ps (arr n (gof x0 ki)) <;> rfl
      rw [ee]
      have b11 : But Hv H8 (upd H10 z (.lst [])) := b9.trans (but_same s11)
      have hst11 : Paired (fun b t => TupT (upd H10 z (.lst [])) (.ref b) t) hs ((((allK ((ordOf ps).drop 1)).take i).filter (hasAll ps x0)).map fun k => arr n (gof x0 k)) := paired_imp (fun b t _ h => h.mono (tk_same s11)) hst
      refine ⟨_, rfl, ?_⟩
      rw [filter_snoc hki]
      cases hA : hasAll ps x0 ki with
      | false =>
        refine iteF ⟨_, hs, rfl, b11, s11 _ _ hHv9, by omega, ?_⟩
        simpa using hst11
      | true =>
        have hHv11 := s11 _ _ hHv9
        refine iteT ⟨_, rfl, .inl ⟨rfl, _, SqL.of hHv11⟩, _, rfl, Hv, _, _, rfl, rfl, hHv11, smallT (by rw [List.length_map]; omega), _, hs ++ [b], rfl, b11.trans but_upd, by rw [upd_same, List.map_append]; rfl, by rw [List.length_append, List.length_singleton]; omega, ?_⟩
        rw [if_pos rfl, List.map_append]
        have tk : TK (upd H10 z (.lst [])) (upd (upd H10 z (.lst [])) Hv (.lst (hs.map V.ref ++ [.ref b]))) := tk_lst hHv11
        exact (paired_imp (fun b t _ h => h.mono tk) hst11).snoc ((hti.mono (tk_same s11)).mono tk)
  · rintro σ H9 ⟨v10, hs, rfl, b9, hHv9, hsl, hst⟩
    have hal : (allK ((ordOf ps).drop 1)).take (as.map V.ref).length = allK ((ordOf ps).drop 1) := by rw [List.length_map, hasl, List.take_length]
    rw [hal] at hst
    have hhav := having_is hP hV.det (by rw [hx0]; exact hR) hkm
    rw [hx0] at hhav
    rw [hhav] at hst
    have hFTk : arr n (gof x0 k) = FT ps := by
      have := hR.arr_eq (has_gof hR.nodup)
      rw [hRn] at this
      exact this
    have keep8 : ∀ {x : Addr} {o : HO}, x ≠ Hv → H2 x = some o → H9 x = some o := fun n e => b9 _ _ n (s8 _ _ (s7 _ _ (s6 _ _ (s5 _ _ (s24 _ _ e)))))
    have s26 : Same H2 H6 := (s24.trans s5).trans s6
    have hDv : D ≠ Hv := ne_of_none (s26 _ _ hD2) hHv
    have hD9 := keep8 hDv hD2
    have hes9 : PairsAt H9 es (unl ps (FT ps)) := (hes.mono (tk_same ((s26.trans s7).trans s8))).mono (hb b9)
    have hu9 : TupT H9 (.ref ut) (FT ps) := (hu2.mono (tk_same ((s26.trans s7).trans s8))).mono (hb b9)
    have s29 : Same H H9 := fun x o e => b9 _ _ (ne_of_none e hHv0) (s08 _ _ e)
    refine ⟨_, rfl, _, rfl, (by show 1 ≤ sizeLine; decide), fun y hy => ⟨_, rfl, Nat.zero_le _, fun z hz => ⟨_, _, .lst (SqL.of (keep hz (keep hy hD9))) (dp_pairs (hes9.mono ((tk_new hy).trans (tk_new hz)))), .lst (SqL.of upd_same) .nil, smU.shaped (by decide), shaped_nil, ?_⟩⟩⟩
    have eu : ((unl ps (FT ps)).map dP).isEmpty = hasAll ps x0 k := by
      rw [← unl_nil hR]
      cases unl ps (FT ps) <;> rfl
    have s9z : Same H9 (upd (upd H9 y (.lst [.ref ut])) z (.lst [])) := (same_new hy).trans (same_new hz)
    have hy9 := keep hz (upd_same (H := H9) (a := y) (o := .lst [V.ref ut])) (u := .lst [])
    rw [eqv_nil, eu]
    generalize upd (upd H9 y (.lst [.ref ut])) z (.lst []) = H10 at s9z hy9
    refine .inr ⟨_, rfl, y, _, _, rfl, rfl, hy9, ?_, ?_, ?_, fun z2 hz2 => ?_⟩
    · split <;> decide
    · split <;> decide
    · show 1 * _ ≤ _
      split <;> decide
    have s9w := s9z.trans (same_new (o := .lst (List.replicate (if hasAll ps x0 k = true then (1 : Int) else 0).toNat [V.ref ut]).flatten) hz2)
    have s0w := s29.trans s9w
    have hHvw := s9w _ _ hHv9
    have hstw := paired_imp (fun b t _ h => TupT.mono (tk_same s9w) h) hst
    have huw := hu9.mono (tk_same s9w)
    cases hA : hasAll ps x0 k with
    | false =>
      rw [hA] at hstw hhav
      rw [hA] at s0w hHvw huw
      have hs0 : hs = [] := by
        have h1 := paired_len hstw
        rw [if_neg (by decide), List.map_nil] at h1
        exact List.length_eq_zero_iff.mp h1
      rw [hs0] at hHvw
      refine ⟨_, _, .lst (SqL.of hHvw) .nil, .lst (SqL.of upd_same) .nil, shaped_nil, shaped_nil, ?_⟩
      exact q _ s0w
    | true =>
      rw [hA] at hstw s0w hHvw huw
      have e4 : (if true = true then [k] else []) = [k] := rfl
      rw [e4, List.map_cons, List.map_nil, hFTk] at hstw
      have smL : Sm 1641 3 (.list [dT (FT ps)]) := (SmA.cons smT .nil).lst.le (by decide) (Nat.le_refl _)
      refine ⟨_, _, .lst (SqL.of hHvw) (dp_trees hstw), .lst (SqL.of upd_same) (.cons (dp_tree huw) .nil), smL.shaped (by decide), smL.shaped (by decide), ?_⟩
      have e3 : PyData.eqv (.list [dT (FT ps)]) (.list [dT (FT ps)]) = true := smL.refl
      show Q (.bl (PyData.eqv (.list [dT (FT ps)]) (.list [dT (FT ps)]))) _
      rw [e3]
      exact q _ s0w
end
end SF
end

/-! SFh10 -/
section
set_option Elab.async false
set_option linter.all false
set_option maxRecDepth 100000
set_option maxHeartbeats 4000000
/-! law. -/
namespace SF
open PySem PySem.Spec L2
open PyProof.Rows hiding St

abbrev exPs : Pairs := [(1, [0, 1, 2]), (2, [1, 0, 2])]
theorem ex_FT : FT exPs = [[1], [2], []] := by decide +kernel
theorem ex_rep : Rep [[1], [2], []] 0 (.cons 1 (.cons 2 .nil .nil) .nil) := ⟨⟨rfl, ⟨rfl, ⟨rfl, trivial, trivial⟩, trivial⟩, trivial⟩, by decide +kernel⟩
theorem ex_res : resOf exPs = .none 2 0 := by
  unfold resOf
  rw [ex_FT]
  have e1 : logT 1 [[1], [2], []] = [0, 1, 2] := by rw [logT_eq ex_rep]; decide +kernel
  have e2 : logT 2 [[1], [2], []] = [0, 1, 2] := by rw [logT_eq ex_rep]; decide +kernel
  have hf : exPs.find? (fun p => !decide (logT p.1 [[1], [2], []] = p.2)) = some (2, [1, 0, 2]) := by simp [exPs, List.find?_cons, e1, e2]
  have h0 : fdiff [0, 1, 2] [1, 0, 2] = 0 := by decide +kernel
  rw [hf]
  show Res.none 2 (fdiff (logT 2 [[1], [2], []]) [1, 0, 2]) = _
  rw [e2, h0]
theorem ex_valid : Valid exPs 3 := by
  refine ⟨⟨by decide, by decide, ?_⟩, by decide, by decide, ?_, by decide, ⟨by decide, ?_, .inr ⟨by decide, fun D h1 h2 => ⟨2, by decide, ?_⟩⟩⟩⟩
  · intro p hp
    simp only [exPs, List.mem_cons, List.not_mem_nil, or_false] at hp
    rcases hp with rfl | rfl
    · decide +kernel
    · decide +kernel
  · intro p hp
    simp only [exPs, List.mem_cons, List.not_mem_nil, or_false] at hp
    rcases hp with rfl | rfl
    · decide
    · decide
  · intro l hl
    simp only [exPs, List.map_cons, List.map_nil, List.mem_cons, List.not_mem_nil, or_false] at hl
    rcases hl with rfl | rfl <;> decide
  · have : D = 1 := by omega
    subst this
    decide
theorem valid_own {ls : List Nat} {t : Tree} {r : Nat} {k : F} (hR : Rep t r k) (h40 : t.length ≤ 40) (hl : LimOk ls) (hn : ls.Nodup) (hd : Det ls t.length) : Valid (logsOf ls r k) t.length := by
  have e : (logsOf ls r k).map (·.1) = ls := by
    unfold logsOf
    rw [List.map_map]
    exact List.map_id _
  refine ⟨logs_perms hd.ne hR rfl, ?_, by rw [e]; exact hn, fun p hp => ?_, h40, by rw [e]; exact hd⟩
  · unfold logsOf
    rw [List.length_map]
    exact hl.1
  · obtain ⟨l, hll, rfl⟩ := List.mem_map.mp hp
    exact hl.2 l hll
theorem valid_like {ps ps' : Pairs} {n : Nat} (h : Valid ps n) (e : ps'.map (·.1) = ps.map (·.1)) (hp : Perms ps' n) : Valid ps' n := by
  have hl : ps'.length = ps.length := by
    have := congrArg List.length e
    rw [List.length_map, List.length_map] at this
    exact this
  refine ⟨hp, by rw [hl]; exact h.few, by rw [e]; exact h.diff, fun p hp => ?_, h.size, by rw [e]; exact h.det⟩
  have hm : p.1 ∈ ps.map (·.1) := by rw [← e]; exact List.mem_map_of_mem hp
  obtain ⟨p0, hp0, e0⟩ := List.mem_map.mp hm
  rw [← e0]
  exact h.lim p0 hp0
section
variable {P : Program} {w : World} {K : PySem.W.Frag} {mg : Str → Option Value} {base : Heap}
theorem d_law {f : Addr} {fd : FuncData} (hf : Fun K "law" "law" s_law f fd) (T : Txt mg) (D_Ldamaged : Def P w K mg base 3 "_law_damaged" ["_law_source_here", "_law_pairs"] sp_damaged) (D_Llog : Def P w K mg base 42 "_law_log" ["_law_tree_here", "_law_limit"] sp_log) (D_Lright : DefG P w K mg base 43 "_law_right" ["_law_pairs"] sp_right) (D_Lsize : Def P w K mg base 2 "_law_size" ["_law_source_here", "_law_most"] sp_size) (D_Lsome_limits : Def P w K mg base 3 "_law_some_limits" ["_law_source_here", "_law_size_here"] sp_some_limits) (D_Lsource : Def P w K mg base 1 "_law_source" ["_law_script"] (sp_source K)) (D_Ltree : Def P w K mg base 3 "_law_tree" ["_law_source_here", "_law_size_here"] sp_tree) (D_tree_from_logs : Def P w K mg base 6 "tree_from_logs" ["logs"] sp_tree_from_logs) (D_tree_from_logs_kw : DefK P w K mg base 6 "tree_from_logs" ["logs"] 0 ["logs"] sp_tree_from_logs) :
    FnG P w K mg base 44 f fd ["_law_script"] (sp_law K) := by
  refine fnG_of hf sc_law (fun vs H Q E h => ?_) fun cdv A outer s H vs Q E hgu hr h => ?_
  · obtain ⟨a, ns, rfl, _⟩ := h
    rfl
  obtain ⟨a, ns, rfl, hs, hnl, q⟩ := h
  have hu64 := hr.units
  have hr_Ldamaged : Room 3 _ := hr.mono (by decide)
  have hr_Llog : Room 42 _ := hr.mono (by decide)
  have hr_Lright : Room 43 _ := hr.mono (by decide)
  have hr_Lsize : Room 2 _ := hr.mono (by decide)
  have hr_Lsome_limits : Room 3 _ := hr.mono (by decide)
  have hr_Lsource : Room 1 _ := hr.mono (by decide)
  have hr_Ltree : Room 3 _ := hr.mono (by decide)
  have hr_tree_from_logs : Room 6 _ := hr.mono (by decide)
  refine ⟨_, pss_cons (ps_set (i := 1) sc_law.nd rfl (Or.inl rfl) (pe_fn D_Lsource hr_Lsource (by rfl) (pa_cons (pv 0) pa_nil)))
    (pss_cons (ps_for PassesOwn.never rfl (pi_range1 (by rfl) T.range (pa_cons pe_int pa_nil)) (pg_name (i := 2) sc_law.nd rfl (Or.inl rfl)) (pss_cons (ps_set (i := 3) sc_law.nd rfl (Or.inr rfl) (pe_fn D_Ltree hr_Ltree (by rfl) (pa_cons (pv 1) (pa_cons (pe_fn D_Lsize hr_Lsize (by rfl) (pa_cons (pv 1) (pa_cons (pe_ix ix_l (pe_lst (pa_cons pe_int (pa_cons pe_int pa_nil))) (pe_op op_mod (pv 2) pe_int) (fun _ _ => rfl)) pa_nil))) pa_nil))))
      (pss_cons (ps_set (i := 4) sc_law.nd rfl (Or.inl rfl) (pe_fn D_Lsome_limits hr_Lsome_limits (by rfl) (pa_cons (pv 1) (pa_cons (pe_callB call_lenF (by rfl) T.len PySem.boot_len (pa_cons (pv 3) pa_nil)) pa_nil))))
      (pss_cons (ps_setLc (i := 5) (own := [("_law_limit", 7)]) (g := (gName 7)) (tt := tYes) rfl sc_law.nd rfl rfl (sw_true rfl rfl rfl (by decide +kernel)) (pi_list (pv 4)) (blkOk_by (N := N_law) (sc := defScope s_law) (by decide +kernel)) (fun _ _ _ _ _ => (pg_name (i := 7) sc_law.nd rfl (Or.inl rfl))) (fun _ _ _ _ _ => pts_nil) (fun _ _ _ _ _ => (pe_tup (pa_cons (pv 7) (pa_cons (pe_fn D_Llog hr_Llog (by rfl) (pa_cons (pv 3) (pa_cons (pv 7) pa_nil))) pa_nil)))))
      (pss_cons (ps_if (PW.pt (pw_or (pt_cmpR op_ne (pe_callB (call_repr hgu hu64) (by rfl) T.repr (by decide +kernel) (pa_cons (pe_fn D_tree_from_logs hr_tree_from_logs (by rfl) (pa_cons (pv 5) pa_nil)) pa_nil)) (pe_callB (call_repr hgu hu64) (by rfl) T.repr (by decide +kernel) (pa_cons (pe_tup (pa_cons pe_str (pa_cons (pv 3) pa_nil))) pa_nil)) (nomark _)) (pw_or1 (pt_cmpR (op_neD hu64) (pe_fnK0 D_tree_from_logs_kw hr_tree_from_logs (by rfl) (pk_cons (pe_callTy call_tupleF (by rfl) T.tuple (by decide +kernel) (pa_cons (pv 5) pa_nil)) pk_nil)) (pe_tup (pa_cons pe_str (pa_cons (pv 3) pa_nil))) (nomark _))))) (pss_one (ps_ret pe_bl)) pss_nil)
      (pss_one (ps_for PassesOwn.never rfl (pi_range1 (by rfl) T.range (pa_cons pe_int pa_nil)) (pg_name (i := 6) sc_law.nd rfl (Or.inl rfl)) (pss_one (ps_if (pt_not (pt_val (pe_fnG D_Lright hgu hr_Lright (by rfl) (pa_cons (pe_fn D_Ldamaged hr_Ldamaged (by rfl) (pa_cons (pv 1) (pa_cons (pv 5) pa_nil))) pa_nil)))) (pss_one (ps_ret pe_bl)) pss_nil)))))))))
    (pss_one (ps_ret (pe_cmpR (op_eqD hu64) (pe_fn D_tree_from_logs hr_tree_from_logs (by rfl) (pa_cons (pe_lst (pa_cons (pe_tup (pa_cons pe_int (pa_cons (pe_tup (pa_cons pe_int (pa_cons pe_int (pa_cons pe_int pa_nil)))) pa_nil))) (pa_cons (pe_tup (pa_cons pe_int (pa_cons (pe_tup (pa_cons pe_int (pa_cons pe_int (pa_cons pe_int pa_nil)))) pa_nil))) pa_nil))) pa_nil)) (pe_tup (pa_cons pe_str (pa_cons pe_int (pa_cons pe_int pa_nil)))) (nomark _))))), ?_⟩
  refine ⟨_, rfl, a, ns, rfl, hs, hnl, fun S H1 hS s1 src1 => ?_⟩
  refine ⟨_, rfl, by decide, by decide, ?_⟩
  refine for_range (lo := 0) (n := (4 : Int).toNat) (fun i σ H' => ∃ v2 v3 v4 v5 v6 v7, σ = [some (.ref a), some (.ref S), v2, v3, v4, v5, v6, v7] ∧ Src H' S (2000 * i)) ⟨none, none, none, none, none, none, rfl, src1⟩ ?_ ?_
  · rintro i σ H2 hi ⟨v2, v3, v4, v5, v6, v7, rfl, src2⟩
    have hi4 : i < 4 := hi
    have e0 : (0 : Int) + (i : Int) = (i : Int) := Int.zero_add _
    -- tree_here
    obtain ⟨m, hm, hm2⟩ : ∃ m : Nat, (m = 5 ∨ m = 40) ∧ atI [V.int 5, V.int 40] ((0 + (i : Int)) % 2) = some (vn m) := by
      rcases Nat.mod_two_eq_zero_or_one i with h | h
      · exact ⟨5, .inl rfl, by rw [e0, show (i : Int) % 2 = 0 by omega]; rfl⟩
      · exact ⟨40, .inr rfl, by rw [e0, show (i : Int) % 2 = 1 by omega]; rfl⟩
    refine ⟨_, rfl, _, rfl, (by show 2 ≤ sizeLine; decide), fun p hp => ⟨_, rfl, _, _, rfl, rfl, (show (0 : Int) < 2 by decide), p, _, _, _, rfl, rfl, upd_same, hm2, ?_⟩⟩
    have src3 := src2.new (o := .lst [.int 5, .int 40]) hp
    generalize upd H2 p (.lst [.int 5, .int 40]) = H3 at src3
    refine ⟨S, 2000 * i, m, rfl, src3, by omega, hm, fun n H4 hn1 hnm d4 src4 => ⟨S, 2000 * i + 100, n, rfl, src4, by omega, hn1, by omega, fun vt t r k H5 hR htn d5 src5 hT => ?_⟩⟩
    have hT0 := hT
    obtain ⟨ut, uas, rfl, hut, hur⟩ := hT
    have hutl : (uas.map V.ref).length = n := by rw [List.length_map, hur.1, htn]
    have h40 : t.length ≤ 40 := by omega
    -- limits
    refine ⟨_, rfl, _, rfl, ut, _, rfl, .inr hut, S, 2000 * i + 600, n, by rw [hutl]; rfl, src5.le (by omega), by omega, hn1, by omega, fun pl ls H6 d6 src6 hpl0 hpl hLim hnd hdet hls => ?_⟩
    have utS : ut ≠ S := fun e => by
      subst e
      obtain ⟨C, _, _, _, g, _⟩ := src5
      rw [hut] at g
      cases g
    have tk6 : TK H5 H6 := by
      obtain ⟨C, _, _, _, g, _⟩ := src5
      exact tk_but d6.but g
    have hT6 := hT0.mono tk6
    rw [← htn] at hdet
    have hV := valid_own hR h40 hLim hnd hdet
    rw [htn] at hV
    have hres := res_own hR hdet
    -- pairs
    refine ⟨_, rfl, pl, rfl, ⟨_, SqL.of hpl⟩, fun D hD => ?_⟩
    refine lc_list (K := K) (a := pl) (xs := ls.map vn) (fun j H' => Same H6 H' ∧ ∃ qs : List Addr, H' D = some (.lst (qs.map V.ref)) ∧ PairsAt H' qs (logsOf (ls.take j) r k) ∧ qs.length ≤ j)
      ⟨same_new hD, [], upd_same, ⟨rfl, fun j q p e => (nil_at e).elim⟩, Nat.le_refl _⟩ (fun j H' _ h => SqL.of (h.1 _ _ hpl)) ?_ ?_
    · rintro j y H7 hj ⟨s7, qs, h1, h2, h3⟩
      obtain ⟨l, hl, rfl⟩ := map_at hj
      have hjl := at_lt hl
      have hlm := List.mem_of_getElem? hl
      refine ⟨rfl, _, rfl, _, rfl, _, rfl, .ref ut, t, r, k, l, rfl, hT6.mono (tk_same s7), hR, h40, (hLim.2 l hlm).1, fun w2 H8 s8 hw => ?_⟩
      obtain ⟨uw, rfl, huw⟩ := hw
      have h1' := s8 _ _ h1
      refine ⟨(by show 2 ≤ sizeLine; decide), fun t2 ht2 => ⟨_, keep ht2 h1', smallT (by rw [List.length_map]; omega), same_mut ((s7.trans s8).trans (same_new ht2)) hD, qs ++ [t2], by rw [upd_same, List.map_append]; rfl, ?_, by rw [List.length_append, List.length_singleton]; omega⟩⟩
      have e2 : logsOf (ls.take (j + 1)) r k = logsOf (ls.take j) r k ++ [(l, lg l r k)] := by
        unfold logsOf
        rw [take_snoc hl, List.map_append]
        rfl
      rw [e2]
      have tkx : TK H8 (upd (upd H8 t2 (.tup [vn l, .ref uw])) D (.lst (qs.map V.ref ++ [.ref t2]))) := (tk_new ht2).trans (tk_lst (keep ht2 h1'))
      have htD : t2 ≠ D := Ne.symm (ne_of_none h1' ht2)
      exact PairsAt.snoc (p := (l, lg l r k)) (h2.mono ((tk_same s8).trans tkx)) (keepN htD upd_same) (.inl rfl) (tkx.tup huw)
    rintro H7 ⟨s7, qs, hD7, hps, hql⟩
    rw [vn_len, List.take_length] at hps
    generalize hPSd : logsOf ls r k = ps at hps hV hres
    have hpsl : ps.length ≤ 10 := by rw [← hPSd]; unfold logsOf; rw [List.length_map]; exact hls
    have src7 := src6.same s7
    have hT7 := hT6.mono (tk_same s7)
    have hDS : D ≠ S := by
      obtain ⟨o, ho⟩ := src6.at
      exact Ne.symm (ne_of_none ho hD)
    have smR : Sm 3282 3 (dR (.tree t)) := sm_tree (sm_rep hR h40)
    obtain ⟨rh1, rh2, rh3, rh4⟩ := smR.show (by decide) (by decide)
    -- repr(tree_from_logs(pairs)) != repr(('tree', tree_here))
    refine ⟨_, rfl, .ref D, ps, n, rfl, ⟨D, qs, rfl, .inl hD7, hps⟩, hV, fun uR H8 s8 hr1 => ?_⟩
    rw [hres] at hr1
    obtain ⟨aR, rfl⟩ := res_ref hr1
    refine ⟨aR, dR (.tree t), rfl, dp_res hr1, rh1, rh2, rh3, rh4, _, rfl, (by show 2 ≤ sizeLine; decide), fun x hx => ?_⟩
    have hx2 : ResV (upd H8 x (.tup [.str "tree", .ref ut])) (.ref x) (.tree t) := ⟨x, .ref ut, rfl, upd_same, (hT7.mono (tk_same s8)).mono (tk_new hx)⟩
    have s9 : Same H7 (upd H8 x (.tup [.str "tree", .ref ut])) := s8.trans (same_new hx)
    refine ⟨x, dR (.tree t), rfl, dp_res hx2, rh1, rh2, rh3, rh4, rfl, _, rfl, ?_⟩
    have ee : decide (V.str (dR (.tree t)).shown = V.str (dR (.tree t)).shown) = true := decide_eq_true rfl
    show if (!decide (V.str (dR (.tree t)).shown = V.str (dR (.tree t)).shown)) = true then _ else _
    rw [ee]
    refine iteF ?_
    generalize upd H8 x (.tup [.str "tree", .ref ut]) = H9 at s9
    -- tree_from_logs(logs=tuple(pairs)) != ('tree', tree_here)
    refine ⟨_, rfl, D, _, rfl, s9 _ _ hD7, fun u2 hu2 => ⟨rfl, rfl, .ref u2, ps, n, rfl, ⟨u2, qs, rfl, .inr upd_same, (hps.mono (tk_same s9)).mono (tk_new hu2)⟩, hV, fun uR2 H10 s10 hr2 => ?_⟩⟩
    rw [hres] at hr2
    have s7x : Same H7 H10 := (s9.trans (same_new hu2)).trans s10
    refine ⟨_, rfl, (by show 2 ≤ sizeLine; decide), fun x2 hx2' => ⟨dR (.tree t), dR (.tree t), dp_res (hr2.same (same_new hx2')), dp_res ⟨x2, .ref ut, rfl, upd_same, (hT7.mono (tk_same s7x)).mono (tk_new hx2')⟩, smR.shaped (by decide), smR.shaped (by decide), ?_⟩⟩
    rw [smR.refl]
    refine ⟨_, rfl, iteF ?_⟩
    have s711 : Same H7 (upd H10 x2 (.tup [.str "tree", .ref ut])) := s7x.trans (same_new hx2')
    generalize upd H10 x2 (.tup [.str "tree", .ref ut]) = H11 at s711
    have src11 := src7.same s711
    have hD11 := s711 _ _ hD7
    have hps11 := hps.mono (tk_same s711)
    clear hr1 hr2 hx2
    -- three damaged copies
    refine ⟨3, rfl, by decide, by decide, ?_⟩
    refine for_range (lo := 0) (n := (3 : Int).toNat) (fun j σ H' => ∃ v6, σ = [some (.ref a), some (.ref S), some (V.int (0 + (i : Int))), some (.ref ut), some (.ref pl), some (.ref D), v6, v7] ∧ Dr S H11 H' ∧ Src H' S (2000 * i + 700 + 200 * j)) ⟨v6, rfl, Dr.same (Same.refl _), src11.le (by omega)⟩ ?_ ?_
    · rintro j σ H12 hj ⟨v6, rfl, d12, src12⟩
      have hj3 : j < 3 := hj
      have tk12 : TK H11 H12 := by
        obtain ⟨C, _, _, _, g, _⟩ := src11
        exact tk_but d12.but g
      refine ⟨_, rfl, _, rfl, S, 2000 * i + 700 + 200 * j, D, qs, ps, n, rfl, src12, by omega, d12.but D _ hDS hD11, hps11.mono tk12, hV.perms, hV.size, hpsl, fun p' qs' ps' H13 d13 src13 hp' hz' hf' hP' => ?_⟩
      have hV' := valid_like hV hf' hP'
      have hl' : ps'.length = ps.length := by
        have := congrArg List.length hf'
        rw [List.length_map, List.length_map] at this
        exact this
      refine ⟨p', qs', ps', n, rfl, hp', hz', hV', by omega, fun H14 s14 => ⟨true, rfl, iteF ?_⟩⟩
      exact ⟨_, rfl, (d12.trans d13).trans (Dr.same s14), (src13.same s14).le (by omega)⟩
    · rintro σ H12 ⟨v6, rfl, d12, src12⟩
      exact ⟨_, _, _, _, _, _, rfl, src12.le (by show 2000 * i + 700 + 200 * 3 ≤ 2000 * (i + 1); omega)⟩
  -- the example
  rintro σ H2 ⟨v2, v3, v4, v5, v6, v7, rfl, src2⟩
  refine ⟨(by show 3 ≤ sizeLine; decide), fun a1 ha1 => ⟨(by show 2 ≤ sizeLine; decide), fun b1 hb1 => ⟨(by show 3 ≤ sizeLine; decide), fun a2 ha2 => ⟨(by show 2 ≤ sizeLine; decide), fun b2 hb2 => ⟨(by show 2 ≤ sizeLine; decide), fun c hc => ?_⟩⟩⟩⟩⟩
  refine ⟨.ref c, exPs, 3, rfl, ⟨c, [b1, b2], rfl, .inl upd_same, rfl, fun j q p e1 e2 => ?_⟩, ex_valid, fun uR H3 s3 hr => ?_⟩
  · match j with
    | 0 =>
      cases e1
      cases e2
      exact ⟨a1, _, .inl rfl, keep hc (keep hb2 (keep ha2 upd_same)), keep hc (keep hb2 (keep ha2 (keep hb1 upd_same)))⟩
    | 1 =>
      cases e1
      cases e2
      exact ⟨a2, _, .inl rfl, keep hc upd_same, keep hc (keep hb2 upd_same)⟩
    | j + 2 => simp at e1
  rw [ex_res] at hr
  have smN : Sm 3282 3 (dR (.none 2 0)) := sm_none (by decide) (by decide)
  refine ⟨(by show 3 ≤ sizeLine; decide), fun x hx => ⟨dR (.none 2 0), dR (.none 2 0), dp_res (hr.same (same_new hx)), dp_res (r := .none 2 0) ⟨x, rfl, upd_same⟩, smN.shaped (by decide), smN.shaped (by decide), ?_⟩⟩
  rw [smN.refl]
  exact q _
end
end SF
end

/-! SFend -/
section
set_option Elab.async false
set_option linter.all false
set_option maxRecDepth 100000
set_option maxHeartbeats 4000000
/-! The end: from law's promise (guards known) to the row. -/
namespace SF
open PySem PySem.Spec L2
open PyProof.Rows hiding St

/-- the script's object, as the walk sees it: frozen, unless the module owns it -/
def scH (K : PySem.W.Frag) (a : Addr) (vs : List Value) (ns : List Int) : Hp := fun b =>
  if b = a ∧ K.lookup a = none then some (.frz { cls := .type "list", data := .seq vs.toArray } (.lst (ns.map V.int))) else none
section
variable {P : Program} {w : World} {K : PySem.W.Frag} {mg mb : Str → Option Value} {k : Nat} {fa a : Addr} {fd : FuncData} {x : Str} {sp : Sp} {t : Shared} {vs : List Value} {ns : List Int}
theorem scH_some {b : Addr} {u : HO} (h : scH K a vs ns b = some u) : b = a ∧ K.lookup a = none ∧ u = .frz { cls := .type "list", data := .seq vs.toArray } (.lst (ns.map V.int)) := by
  unfold scH at h
  split at h
  · next c => exact ⟨c.1, c.2, (Option.some.inj h).symm⟩
  · cases h
theorem scH_none {b : Addr} (h : ¬ (b = a ∧ K.lookup a = none)) : scH K a vs ns b = none := by
  unfold scH
  rw [if_neg h]
theorem scH_sq (KX : K.In t.heap) (ha : t.heap.get? a = some { cls := .type "list", data := .seq vs.toArray }) (hi : IntsAre vs ns) (hl : ns.length ≤ sizeLine) : SqL K (scH K a vs ns) a (ns.map V.int) := by
  cases q : K.lookup a with
  | none =>
    refine .inl (.inr ⟨{ cls := .type "list", data := .seq vs.toArray }, ?_⟩)
    unfold scH
    rw [if_pos ⟨rfl, q⟩]
  | some o =>
    have e := KX a o q
    rw [ha] at e
    have e' := Option.some.inj e
    refine .inr ⟨o, vs.toArray, _, q, by rw [← e'], by rw [← e'], by rw [← e'], ?_, ?_⟩
    · rw [List.size_toArray, hi.length]
      exact hl
    · rw [List.toList_toArray]
      exact vals_ints hi
theorem scH_ok (ha : t.heap.get? a = some { cls := .type "list", data := .seq vs.toArray }) (hi : IntsAre vs ns) (hl : ns.length ≤ sizeLine) : HOk P w (scH K a vs ns) t.heap := by
  intro b u h
  obtain ⟨rfl, _, rfl⟩ := scH_some h
  exact ⟨ha, by rw [List.length_map]; exact hl, vs, _, vals_ints hi, ha⟩
/-- what is not the script's stands in the base -/
theorem scH_base {b : Addr} {o : Obj} (e : t.heap.get? b = some o) (h : ¬ (b = a ∧ K.lookup a = none)) : (hidT t.heap (scH K a vs ns)).get? b = some o := hidT_get e (scH_none h)
theorem scH_ns {b : Addr} {m : Str → Option Value} (ha : t.heap.get? a = some { cls := .type "list", data := .seq vs.toArray }) (h : t.heap.Ns b m) : (hidT t.heap (scH K a vs ns)).Ns b m := by
  obtain ⟨o, es, ep, e, d, r⟩ := h
  refine ⟨o, es, ep, scH_base e fun c => ?_, d, r⟩
  rw [c.1, ha] at e
  have e2 := Option.some.inj e
  rw [← e2] at d
  have d2 : Data.seq vs.toArray _ = Data.dict es ep := d
  cases d2
theorem law_callG (KX : K.In t.heap) (G : t.heap.Ns mainGlobals mg) (B : t.heap.Ns builtinsNs mb) (BB : ∀ y : Str, y ≠ "__name__" → mb y = bootBuiltins y) (lim : t.heap.NoLimit) (gn : t.gens = #[])
    (ha : t.heap.get? a = some { cls := .type "list", data := .seq vs.toArray }) (hi : IntsAre vs ns) (hl : ns.length ≤ sizeLine) (hr : Room k callerA) (bd : ∀ (s : Shared) (u : Value), BindsTo s fd ⟨[u], []⟩ [(x, u)])
    (F : ∀ base : Heap, K.In base → base.Ns mainGlobals mg → FnG P w K mg base k fa fd [x] sp) (pr : ∀ H : Hp, SqL K H a (ns.map V.int) → sp [.ref a] H (fun v _ => v = .bl true) fun _ _ _ => False) :
    codeAny (model P w) callerA (.call (.ref fa) ⟨[.ref a], []⟩)
      (fun r s' => r = .ok (.ret (.bool true)) ∧ OldK t.heap s'.heap ∧ s'.os = t.os ∧ AllBare s'.gens) t := by
  have kb : K.In (hidT t.heap (scH K a vs ns)) := fun b o e => scH_base (KX b o e) fun c => by
    rw [c.1, c.2] at e
    cases e
  have md : Mod K mg (hidT t.heap (scH K a vs ns)) := by
    obtain ⟨mc, l1, l2⟩ := lim
    exact ⟨kb, scH_ns ha G, ⟨mb, scH_ns ha B, BB⟩, ⟨mc, scH_ns ha l1, l2⟩⟩
  have en : Env0 P w K mg (hidT t.heap (scH K a vs ns)) callerA [] t (scH K a vs ns) := by
    refine ⟨rfl, md, fun b o e => of_hidT e, Nat.le_of_eq (hidT_size _ _), trivial, fun b hb => ?_, scH_ok ha hi hl, .of_eq gn⟩
    exact absurd (show b ∈ ([] : List Addr) from hb) (by simp)
  have go := (F _ kb (scH_ns ha G)).run callerA [] t (scH K a vs ns) ⟨[.ref a], []⟩ [.ref a] [.ref a] _ _ rfl hr en (bd t (.ref a)) (.cons rfl .nil) (pr _ (scH_sq KX ha hi hl))
  refine codeAny_mono go fun r s' h => ?_
  match r, h with
  | .error e, h => exact h.elim
  | .ok .next, h => exact h.elim
  | .ok .brk, h => exact h.elim
  | .ok .cont, h => exact h.elim
  | .ok (.ret u), ⟨v, H', os, bare, un, ok', rv, q⟩ =>
    have q2 : v = .bl true := q
    subst q2
    have eu : u = Value.bool true := rv
    subst eu
    refine ⟨rfl, OldK.of_keep fun b o e => ?_, os, bare⟩
    cases hq : scH K a vs ns b with
    | none => exact un.keep b o e hq (fun z => absurd (show b ∈ ([] : List Addr) from z) (by simp)) (by simp)
    | some u =>
      obtain ⟨_, _, rfl⟩ := scH_some hq
      have z1 := (ok' b _ (un.frzs b _ _ hq)).1
      have z2 := (scH_ok (P := P) (w := w) (K := K) ha hi hl b _ hq).1
      rw [e] at z2
      cases z2
      exact z1
end
theorem walkG {l : PySem.W.OpenLaw} {q : Program} {loose : List Str} {XP : (Str → Option Value) → Heap → Prop} {YP : World → Heap → Prop} {d : DefRec} {K : Params → PySem.W.Frag} (hn : l.most = some 63) (hdf : d.params.defaults = [])
    (hY : ∀ (w : World) (h : Heap), YP w h → (K w.params).In h)
    (F : ∀ (w : World) (mg : Str → Option Value) (fa : Addr) (h : Heap), (K w.params).In h → h.Ns mainGlobals mg → mg d.name = some (.ref fa) →
      ∃ fd : FuncData, (∀ (s : Shared) (u : Value), BindsTo s fd ⟨[u], []⟩ [("_law_script", u)]) ∧
        ∀ base : Heap, (K w.params).In base → base.Ns mainGlobals mg → FnG l.prog w (K w.params) mg base 65 fa fd ["_law_script"] (sp_law (K w.params))) :
    PySem.W.WalkO q loose XP YP l.row.toRowW d [] (fun f vs => PySem.call f vs) := by
  refine Att.attach_call hn hdf fun w s₀ s₁ mg mb fa o pm cd doc a vs ns G Y ho hd hcd hmg hobj hints hlen hg => ?_
  have KX := hY w _ Y
  obtain ⟨fd, hb, hF⟩ := F w mg fa _ KX G.T.g hmg
  exact law_callG KX G.T.g G.T.b G.T.builtins G.T.nolimit hg hobj hints (Nat.le_trans hlen (by decide)) ⟨rfl, by decide, by decide⟩ hb hF fun H hS => ⟨a, ns, rfl, hS, hlen, fun _ => rfl⟩
end SF
end

/-! SFall -/
section
set_option Elab.async false
set_option linter.all false
set_option maxRecDepth 100000
set_option maxHeartbeats 4000000
/-! All defs together (printed by wip/mkall.py). -/
namespace SF
open PySem PySem.Spec L2
open PyProof.Rows hiding St

theorem raw_mk {K : PySem.W.Frag} {h : Heap} {mg : Str → Option Value} {x : Str} {st : Stmt} {f : Addr} {od an : Option Addr} {sl : Array (Option Value)} {oc kV dc pm cd ct : Value} (X : K.In h) (G : h.Ns mainGlobals mg)
    (a : PySem.W.nsIn K mainGlobals x = some (some (.ref f))) (l : K.lookup f = some ⟨oc, od, .func (PySem.W.fnOf x x (defArgs st) (defBody st) (defScope st) .none kV dc pm an cd ct), sl⟩) (c : PySem.W.codeIn K cd x = true) (k : PySem.W.keepIn K (.ref f) = true) : Raw K mg x st :=
  ⟨f, _, fun_mk l c k, PySem.W.mg_of X G a⟩
theorem all_mk {l : PySem.W.OpenLaw} {w : World} {K : PySem.W.Frag} {h : Heap} {mg : Str → Option Value} {fa : Addr} (X : K.In h) (G : h.Ns mainGlobals mg) (hfa : mg "law" = some (.ref fa))
    {f_is_integer : Addr} {od_is_integer an_is_integer : Option Addr} {sl_is_integer : Array (Option Value)} {oc_is_integer kV_is_integer dc_is_integer pm_is_integer cd_is_integer ct_is_integer : Value}
    {f_is_between : Addr} {od_is_between an_is_between : Option Addr} {sl_is_between : Array (Option Value)} {oc_is_between kV_is_between dc_is_between pm_is_between cd_is_between ct_is_between : Value}
    {f_is_limit : Addr} {od_is_limit an_is_limit : Option Addr} {sl_is_limit : Array (Option Value)} {oc_is_limit kV_is_limit dc_is_limit pm_is_limit cd_is_limit ct_is_limit : Value}
    {f_are_children : Addr} {od_are_children an_are_children : Option Addr} {sl_are_children : Array (Option Value)} {oc_are_children kV_are_children dc_are_children pm_are_children cd_are_children ct_are_children : Value}
    {f_preorder_from : Addr} {od_preorder_from an_preorder_from : Option Addr} {sl_preorder_from : Array (Option Value)} {oc_preorder_from kV_preorder_from dc_preorder_from pm_preorder_from cd_preorder_from ct_preorder_from : Value}
    {f_occurrences : Addr} {od_occurrences an_occurrences : Option Addr} {sl_occurrences : Array (Option Value)} {oc_occurrences kV_occurrences dc_occurrences pm_occurrences cd_occurrences ct_occurrences : Value}
    {f_first_problem : Addr} {od_first_problem an_first_problem : Option Addr} {sl_first_problem : Array (Option Value)} {oc_first_problem kV_first_problem dc_first_problem pm_first_problem cd_first_problem ct_first_problem : Value}
    {f_is_tree : Addr} {od_is_tree an_is_tree : Option Addr} {sl_is_tree : Array (Option Value)} {oc_is_tree kV_is_tree dc_is_tree pm_is_tree cd_is_tree ct_is_tree : Value}
    {f_root_of : Addr} {od_root_of an_root_of : Option Addr} {sl_root_of : Array (Option Value)} {oc_root_of kV_root_of dc_root_of pm_root_of cd_root_of ct_root_of : Value}
    {f_log_of : Addr} {od_log_of an_log_of : Option Addr} {sl_log_of : Array (Option Value)} {oc_log_of kV_log_of dc_log_of pm_log_of cd_log_of ct_log_of : Value}
    {f_common_divisor : Addr} {od_common_divisor an_common_divisor : Option Addr} {sl_common_divisor : Array (Option Value)} {oc_common_divisor kV_common_divisor dc_common_divisor pm_common_divisor cd_common_divisor ct_common_divisor : Value}
    {f_common_multiple : Addr} {od_common_multiple an_common_multiple : Option Addr} {sl_common_multiple : Array (Option Value)} {oc_common_multiple kV_common_multiple dc_common_multiple pm_common_multiple cd_common_multiple ct_common_multiple : Value}
    {f_determines : Addr} {od_determines an_determines : Option Addr} {sl_determines : Array (Option Value)} {oc_determines kV_determines dc_determines pm_determines cd_determines ct_determines : Value}
    {f_is_log : Addr} {od_is_log an_is_log : Option Addr} {sl_is_log : Array (Option Value)} {oc_is_log kV_is_log dc_is_log pm_is_log cd_is_log ct_is_log : Value}
    {f_is_entry : Addr} {od_is_entry an_is_entry : Option Addr} {sl_is_entry : Array (Option Value)} {oc_is_entry kV_is_entry dc_is_entry pm_is_entry cd_is_entry ct_is_entry : Value}
    {f_require_logs : Addr} {od_require_logs an_require_logs : Option Addr} {sl_require_logs : Array (Option Value)} {oc_require_logs kV_require_logs dc_require_logs pm_require_logs cd_require_logs ct_require_logs : Value}
    {f_spots_of : Addr} {od_spots_of an_spots_of : Option Addr} {sl_spots_of : Array (Option Value)} {oc_spots_of kV_spots_of dc_spots_of pm_spots_of cd_spots_of ct_spots_of : Value}
    {f_first_difference_of : Addr} {od_first_difference_of an_first_difference_of : Option Addr} {sl_first_difference_of : Array (Option Value)} {oc_first_difference_of kV_first_difference_of dc_first_difference_of pm_first_difference_of cd_first_difference_of ct_first_difference_of : Value}
    {f_path_to : Addr} {od_path_to an_path_to : Option Addr} {sl_path_to : Array (Option Value)} {oc_path_to kV_path_to dc_path_to pm_path_to cd_path_to ct_path_to : Value}
    {f_parent_by_logs : Addr} {od_parent_by_logs an_parent_by_logs : Option Addr} {sl_parent_by_logs : Array (Option Value)} {oc_parent_by_logs kV_parent_by_logs dc_parent_by_logs pm_parent_by_logs cd_parent_by_logs ct_parent_by_logs : Value}
    {f_forced_by_logs : Addr} {od_forced_by_logs an_forced_by_logs : Option Addr} {sl_forced_by_logs : Array (Option Value)} {oc_forced_by_logs kV_forced_by_logs dc_forced_by_logs pm_forced_by_logs cd_forced_by_logs ct_forced_by_logs : Value}
    {f_tree_from_logs : Addr} {od_tree_from_logs an_tree_from_logs : Option Addr} {sl_tree_from_logs : Array (Option Value)} {oc_tree_from_logs kV_tree_from_logs dc_tree_from_logs pm_tree_from_logs cd_tree_from_logs ct_tree_from_logs : Value}
    {f_Lsource : Addr} {od_Lsource an_Lsource : Option Addr} {sl_Lsource : Array (Option Value)} {oc_Lsource kV_Lsource dc_Lsource pm_Lsource cd_Lsource ct_Lsource : Value}
    {f_Ldraw : Addr} {od_Ldraw an_Ldraw : Option Addr} {sl_Ldraw : Array (Option Value)} {oc_Ldraw kV_Ldraw dc_Ldraw pm_Ldraw cd_Ldraw ct_Ldraw : Value}
    {f_Lpermutation : Addr} {od_Lpermutation an_Lpermutation : Option Addr} {sl_Lpermutation : Array (Option Value)} {oc_Lpermutation kV_Lpermutation dc_Lpermutation pm_Lpermutation cd_Lpermutation ct_Lpermutation : Value}
    {f_Lsize : Addr} {od_Lsize an_Lsize : Option Addr} {sl_Lsize : Array (Option Value)} {oc_Lsize kV_Lsize dc_Lsize pm_Lsize cd_Lsize ct_Lsize : Value}
    {f_Ltree : Addr} {od_Ltree an_Ltree : Option Addr} {sl_Ltree : Array (Option Value)} {oc_Ltree kV_Ltree dc_Ltree pm_Ltree cd_Ltree ct_Ltree : Value}
    {f_Lroot : Addr} {od_Lroot an_Lroot : Option Addr} {sl_Lroot : Array (Option Value)} {oc_Lroot kV_Lroot dc_Lroot pm_Lroot cd_Lroot ct_Lroot : Value}
    {f_Ldestroy : Addr} {od_Ldestroy an_Ldestroy : Option Addr} {sl_Ldestroy : Array (Option Value)} {oc_Ldestroy kV_Ldestroy dc_Ldestroy pm_Ldestroy cd_Ldestroy ct_Ldestroy : Value}
    {f_Llog : Addr} {od_Llog an_Llog : Option Addr} {sl_Llog : Array (Option Value)} {oc_Llog kV_Llog dc_Llog pm_Llog cd_Llog ct_Llog : Value}
    {f_Ldeciding : Addr} {od_Ldeciding an_Ldeciding : Option Addr} {sl_Ldeciding : Array (Option Value)} {oc_Ldeciding kV_Ldeciding dc_Ldeciding pm_Ldeciding cd_Ldeciding ct_Ldeciding : Value}
    {f_Ldetermines : Addr} {od_Ldetermines an_Ldetermines : Option Addr} {sl_Ldetermines : Array (Option Value)} {oc_Ldetermines kV_Ldetermines dc_Ldetermines pm_Ldetermines cd_Ldetermines ct_Ldetermines : Value}
    {f_Lsome_limits : Addr} {od_Lsome_limits an_Lsome_limits : Option Addr} {sl_Lsome_limits : Array (Option Value)} {oc_Lsome_limits kV_Lsome_limits dc_Lsome_limits pm_Lsome_limits cd_Lsome_limits ct_Lsome_limits : Value}
    {f_Ldamaged : Addr} {od_Ldamaged an_Ldamaged : Option Addr} {sl_Ldamaged : Array (Option Value)} {oc_Ldamaged kV_Ldamaged dc_Ldamaged pm_Ldamaged cd_Ldamaged ct_Ldamaged : Value}
    {f_Lplaces : Addr} {od_Lplaces an_Lplaces : Option Addr} {sl_Lplaces : Array (Option Value)} {oc_Lplaces kV_Lplaces dc_Lplaces pm_Lplaces cd_Lplaces ct_Lplaces : Value}
    {f_Lforced : Addr} {od_Lforced an_Lforced : Option Addr} {sl_Lforced : Array (Option Value)} {oc_Lforced kV_Lforced dc_Lforced pm_Lforced cd_Lforced ct_Lforced : Value}
    {f_Lall : Addr} {od_Lall an_Lall : Option Addr} {sl_Lall : Array (Option Value)} {oc_Lall kV_Lall dc_Lall pm_Lall cd_Lall ct_Lall : Value}
    {f_Lright : Addr} {od_Lright an_Lright : Option Addr} {sl_Lright : Array (Option Value)} {oc_Lright kV_Lright dc_Lright pm_Lright cd_Lright ct_Lright : Value}
    {f_law : Addr} {od_law an_law : Option Addr} {sl_law : Array (Option Value)} {oc_law kV_law dc_law pm_law cd_law ct_law : Value}
    (a_is_integer : PySem.W.nsIn K mainGlobals "is_integer" = some (some (.ref f_is_integer))) (l_is_integer : K.lookup f_is_integer = some ⟨oc_is_integer, od_is_integer, .func (PySem.W.fnOf "is_integer" "is_integer" (defArgs s_is_integer) (defBody s_is_integer) (defScope s_is_integer) .none kV_is_integer dc_is_integer pm_is_integer an_is_integer cd_is_integer ct_is_integer), sl_is_integer⟩) (c_is_integer : PySem.W.codeIn K cd_is_integer "is_integer" = true) (k_is_integer : PySem.W.keepIn K (.ref f_is_integer) = true)
    (a_is_between : PySem.W.nsIn K mainGlobals "is_between" = some (some (.ref f_is_between))) (l_is_between : K.lookup f_is_between = some ⟨oc_is_between, od_is_between, .func (PySem.W.fnOf "is_between" "is_between" (defArgs s_is_between) (defBody s_is_between) (defScope s_is_between) .none kV_is_between dc_is_between pm_is_between an_is_between cd_is_between ct_is_between), sl_is_between⟩) (c_is_between : PySem.W.codeIn K cd_is_between "is_between" = true) (k_is_between : PySem.W.keepIn K (.ref f_is_between) = true)
    (a_is_limit : PySem.W.nsIn K mainGlobals "is_limit" = some (some (.ref f_is_limit))) (l_is_limit : K.lookup f_is_limit = some ⟨oc_is_limit, od_is_limit, .func (PySem.W.fnOf "is_limit" "is_limit" (defArgs s_is_limit) (defBody s_is_limit) (defScope s_is_limit) .none kV_is_limit dc_is_limit pm_is_limit an_is_limit cd_is_limit ct_is_limit), sl_is_limit⟩) (c_is_limit : PySem.W.codeIn K cd_is_limit "is_limit" = true) (k_is_limit : PySem.W.keepIn K (.ref f_is_limit) = true)
    (a_are_children : PySem.W.nsIn K mainGlobals "are_children" = some (some (.ref f_are_children))) (l_are_children : K.lookup f_are_children = some ⟨oc_are_children, od_are_children, .func (PySem.W.fnOf "are_children" "are_children" (defArgs s_are_children) (defBody s_are_children) (defScope s_are_children) .none kV_are_children dc_are_children pm_are_children an_are_children cd_are_children ct_are_children), sl_are_children⟩) (c_are_children : PySem.W.codeIn K cd_are_children "are_children" = true) (k_are_children : PySem.W.keepIn K (.ref f_are_children) = true)
    (a_preorder_from : PySem.W.nsIn K mainGlobals "preorder_from" = some (some (.ref f_preorder_from))) (l_preorder_from : K.lookup f_preorder_from = some ⟨oc_preorder_from, od_preorder_from, .func (PySem.W.fnOf "preorder_from" "preorder_from" (defArgs s_preorder_from) (defBody s_preorder_from) (defScope s_preorder_from) .none kV_preorder_from dc_preorder_from pm_preorder_from an_preorder_from cd_preorder_from ct_preorder_from), sl_preorder_from⟩) (c_preorder_from : PySem.W.codeIn K cd_preorder_from "preorder_from" = true) (k_preorder_from : PySem.W.keepIn K (.ref f_preorder_from) = true)
    (a_occurrences : PySem.W.nsIn K mainGlobals "occurrences" = some (some (.ref f_occurrences))) (l_occurrences : K.lookup f_occurrences = some ⟨oc_occurrences, od_occurrences, .func (PySem.W.fnOf "occurrences" "occurrences" (defArgs s_occurrences) (defBody s_occurrences) (defScope s_occurrences) .none kV_occurrences dc_occurrences pm_occurrences an_occurrences cd_occurrences ct_occurrences), sl_occurrences⟩) (c_occurrences : PySem.W.codeIn K cd_occurrences "occurrences" = true) (k_occurrences : PySem.W.keepIn K (.ref f_occurrences) = true)
    (a_first_problem : PySem.W.nsIn K mainGlobals "first_problem" = some (some (.ref f_first_problem))) (l_first_problem : K.lookup f_first_problem = some ⟨oc_first_problem, od_first_problem, .func (PySem.W.fnOf "first_problem" "first_problem" (defArgs s_first_problem) (defBody s_first_problem) (defScope s_first_problem) .none kV_first_problem dc_first_problem pm_first_problem an_first_problem cd_first_problem ct_first_problem), sl_first_problem⟩) (c_first_problem : PySem.W.codeIn K cd_first_problem "first_problem" = true) (k_first_problem : PySem.W.keepIn K (.ref f_first_problem) = true)
    (a_is_tree : PySem.W.nsIn K mainGlobals "is_tree" = some (some (.ref f_is_tree))) (l_is_tree : K.lookup f_is_tree = some ⟨oc_is_tree, od_is_tree, .func (PySem.W.fnOf "is_tree" "is_tree" (defArgs s_is_tree) (defBody s_is_tree) (defScope s_is_tree) .none kV_is_tree dc_is_tree pm_is_tree an_is_tree cd_is_tree ct_is_tree), sl_is_tree⟩) (c_is_tree : PySem.W.codeIn K cd_is_tree "is_tree" = true) (k_is_tree : PySem.W.keepIn K (.ref f_is_tree) = true)
    (a_root_of : PySem.W.nsIn K mainGlobals "root_of" = some (some (.ref f_root_of))) (l_root_of : K.lookup f_root_of = some ⟨oc_root_of, od_root_of, .func (PySem.W.fnOf "root_of" "root_of" (defArgs s_root_of) (defBody s_root_of) (defScope s_root_of) .none kV_root_of dc_root_of pm_root_of an_root_of cd_root_of ct_root_of), sl_root_of⟩) (c_root_of : PySem.W.codeIn K cd_root_of "root_of" = true) (k_root_of : PySem.W.keepIn K (.ref f_root_of) = true)
    (a_log_of : PySem.W.nsIn K mainGlobals "log_of" = some (some (.ref f_log_of))) (l_log_of : K.lookup f_log_of = some ⟨oc_log_of, od_log_of, .func (PySem.W.fnOf "log_of" "log_of" (defArgs s_log_of) (defBody s_log_of) (defScope s_log_of) .none kV_log_of dc_log_of pm_log_of an_log_of cd_log_of ct_log_of), sl_log_of⟩) (c_log_of : PySem.W.codeIn K cd_log_of "log_of" = true) (k_log_of : PySem.W.keepIn K (.ref f_log_of) = true)
    (a_common_divisor : PySem.W.nsIn K mainGlobals "common_divisor" = some (some (.ref f_common_divisor))) (l_common_divisor : K.lookup f_common_divisor = some ⟨oc_common_divisor, od_common_divisor, .func (PySem.W.fnOf "common_divisor" "common_divisor" (defArgs s_common_divisor) (defBody s_common_divisor) (defScope s_common_divisor) .none kV_common_divisor dc_common_divisor pm_common_divisor an_common_divisor cd_common_divisor ct_common_divisor), sl_common_divisor⟩) (c_common_divisor : PySem.W.codeIn K cd_common_divisor "common_divisor" = true) (k_common_divisor : PySem.W.keepIn K (.ref f_common_divisor) = true)
    (a_common_multiple : PySem.W.nsIn K mainGlobals "common_multiple" = some (some (.ref f_common_multiple))) (l_common_multiple : K.lookup f_common_multiple = some ⟨oc_common_multiple, od_common_multiple, .func (PySem.W.fnOf "common_multiple" "common_multiple" (defArgs s_common_multiple) (defBody s_common_multiple) (defScope s_common_multiple) .none kV_common_multiple dc_common_multiple pm_common_multiple an_common_multiple cd_common_multiple ct_common_multiple), sl_common_multiple⟩) (c_common_multiple : PySem.W.codeIn K cd_common_multiple "common_multiple" = true) (k_common_multiple : PySem.W.keepIn K (.ref f_common_multiple) = true)
    (a_determines : PySem.W.nsIn K mainGlobals "determines" = some (some (.ref f_determines))) (l_determines : K.lookup f_determines = some ⟨oc_determines, od_determines, .func (PySem.W.fnOf "determines" "determines" (defArgs s_determines) (defBody s_determines) (defScope s_determines) .none kV_determines dc_determines pm_determines an_determines cd_determines ct_determines), sl_determines⟩) (c_determines : PySem.W.codeIn K cd_determines "determines" = true) (k_determines : PySem.W.keepIn K (.ref f_determines) = true)
    (a_is_log : PySem.W.nsIn K mainGlobals "is_log" = some (some (.ref f_is_log))) (l_is_log : K.lookup f_is_log = some ⟨oc_is_log, od_is_log, .func (PySem.W.fnOf "is_log" "is_log" (defArgs s_is_log) (defBody s_is_log) (defScope s_is_log) .none kV_is_log dc_is_log pm_is_log an_is_log cd_is_log ct_is_log), sl_is_log⟩) (c_is_log : PySem.W.codeIn K cd_is_log "is_log" = true) (k_is_log : PySem.W.keepIn K (.ref f_is_log) = true)
    (a_is_entry : PySem.W.nsIn K mainGlobals "is_entry" = some (some (.ref f_is_entry))) (l_is_entry : K.lookup f_is_entry = some ⟨oc_is_entry, od_is_entry, .func (PySem.W.fnOf "is_entry" "is_entry" (defArgs s_is_entry) (defBody s_is_entry) (defScope s_is_entry) .none kV_is_entry dc_is_entry pm_is_entry an_is_entry cd_is_entry ct_is_entry), sl_is_entry⟩) (c_is_entry : PySem.W.codeIn K cd_is_entry "is_entry" = true) (k_is_entry : PySem.W.keepIn K (.ref f_is_entry) = true)
    (a_require_logs : PySem.W.nsIn K mainGlobals "require_logs" = some (some (.ref f_require_logs))) (l_require_logs : K.lookup f_require_logs = some ⟨oc_require_logs, od_require_logs, .func (PySem.W.fnOf "require_logs" "require_logs" (defArgs s_require_logs) (defBody s_require_logs) (defScope s_require_logs) .none kV_require_logs dc_require_logs pm_require_logs an_require_logs cd_require_logs ct_require_logs), sl_require_logs⟩) (c_require_logs : PySem.W.codeIn K cd_require_logs "require_logs" = true) (k_require_logs : PySem.W.keepIn K (.ref f_require_logs) = true)
    (a_spots_of : PySem.W.nsIn K mainGlobals "spots_of" = some (some (.ref f_spots_of))) (l_spots_of : K.lookup f_spots_of = some ⟨oc_spots_of, od_spots_of, .func (PySem.W.fnOf "spots_of" "spots_of" (defArgs s_spots_of) (defBody s_spots_of) (defScope s_spots_of) .none kV_spots_of dc_spots_of pm_spots_of an_spots_of cd_spots_of ct_spots_of), sl_spots_of⟩) (c_spots_of : PySem.W.codeIn K cd_spots_of "spots_of" = true) (k_spots_of : PySem.W.keepIn K (.ref f_spots_of) = true)
    (a_first_difference_of : PySem.W.nsIn K mainGlobals "first_difference_of" = some (some (.ref f_first_difference_of))) (l_first_difference_of : K.lookup f_first_difference_of = some ⟨oc_first_difference_of, od_first_difference_of, .func (PySem.W.fnOf "first_difference_of" "first_difference_of" (defArgs s_first_difference_of) (defBody s_first_difference_of) (defScope s_first_difference_of) .none kV_first_difference_of dc_first_difference_of pm_first_difference_of an_first_difference_of cd_first_difference_of ct_first_difference_of), sl_first_difference_of⟩) (c_first_difference_of : PySem.W.codeIn K cd_first_difference_of "first_difference_of" = true) (k_first_difference_of : PySem.W.keepIn K (.ref f_first_difference_of) = true)
    (a_path_to : PySem.W.nsIn K mainGlobals "path_to" = some (some (.ref f_path_to))) (l_path_to : K.lookup f_path_to = some ⟨oc_path_to, od_path_to, .func (PySem.W.fnOf "path_to" "path_to" (defArgs s_path_to) (defBody s_path_to) (defScope s_path_to) .none kV_path_to dc_path_to pm_path_to an_path_to cd_path_to ct_path_to), sl_path_to⟩) (c_path_to : PySem.W.codeIn K cd_path_to "path_to" = true) (k_path_to : PySem.W.keepIn K (.ref f_path_to) = true)
    (a_parent_by_logs : PySem.W.nsIn K mainGlobals "parent_by_logs" = some (some (.ref f_parent_by_logs))) (l_parent_by_logs : K.lookup f_parent_by_logs = some ⟨oc_parent_by_logs, od_parent_by_logs, .func (PySem.W.fnOf "parent_by_logs" "parent_by_logs" (defArgs s_parent_by_logs) (defBody s_parent_by_logs) (defScope s_parent_by_logs) .none kV_parent_by_logs dc_parent_by_logs pm_parent_by_logs an_parent_by_logs cd_parent_by_logs ct_parent_by_logs), sl_parent_by_logs⟩) (c_parent_by_logs : PySem.W.codeIn K cd_parent_by_logs "parent_by_logs" = true) (k_parent_by_logs : PySem.W.keepIn K (.ref f_parent_by_logs) = true)
    (a_forced_by_logs : PySem.W.nsIn K mainGlobals "forced_by_logs" = some (some (.ref f_forced_by_logs))) (l_forced_by_logs : K.lookup f_forced_by_logs = some ⟨oc_forced_by_logs, od_forced_by_logs, .func (PySem.W.fnOf "forced_by_logs" "forced_by_logs" (defArgs s_forced_by_logs) (defBody s_forced_by_logs) (defScope s_forced_by_logs) .none kV_forced_by_logs dc_forced_by_logs pm_forced_by_logs an_forced_by_logs cd_forced_by_logs ct_forced_by_logs), sl_forced_by_logs⟩) (c_forced_by_logs : PySem.W.codeIn K cd_forced_by_logs "forced_by_logs" = true) (k_forced_by_logs : PySem.W.keepIn K (.ref f_forced_by_logs) = true)
    (a_tree_from_logs : PySem.W.nsIn K mainGlobals "tree_from_logs" = some (some (.ref f_tree_from_logs))) (l_tree_from_logs : K.lookup f_tree_from_logs = some ⟨oc_tree_from_logs, od_tree_from_logs, .func (PySem.W.fnOf "tree_from_logs" "tree_from_logs" (defArgs s_tree_from_logs) (defBody s_tree_from_logs) (defScope s_tree_from_logs) .none kV_tree_from_logs dc_tree_from_logs pm_tree_from_logs an_tree_from_logs cd_tree_from_logs ct_tree_from_logs), sl_tree_from_logs⟩) (c_tree_from_logs : PySem.W.codeIn K cd_tree_from_logs "tree_from_logs" = true) (k_tree_from_logs : PySem.W.keepIn K (.ref f_tree_from_logs) = true)
    (a_Lsource : PySem.W.nsIn K mainGlobals "_law_source" = some (some (.ref f_Lsource))) (l_Lsource : K.lookup f_Lsource = some ⟨oc_Lsource, od_Lsource, .func (PySem.W.fnOf "_law_source" "_law_source" (defArgs s_Lsource) (defBody s_Lsource) (defScope s_Lsource) .none kV_Lsource dc_Lsource pm_Lsource an_Lsource cd_Lsource ct_Lsource), sl_Lsource⟩) (c_Lsource : PySem.W.codeIn K cd_Lsource "_law_source" = true) (k_Lsource : PySem.W.keepIn K (.ref f_Lsource) = true)
    (a_Ldraw : PySem.W.nsIn K mainGlobals "_law_draw" = some (some (.ref f_Ldraw))) (l_Ldraw : K.lookup f_Ldraw = some ⟨oc_Ldraw, od_Ldraw, .func (PySem.W.fnOf "_law_draw" "_law_draw" (defArgs s_Ldraw) (defBody s_Ldraw) (defScope s_Ldraw) .none kV_Ldraw dc_Ldraw pm_Ldraw an_Ldraw cd_Ldraw ct_Ldraw), sl_Ldraw⟩) (c_Ldraw : PySem.W.codeIn K cd_Ldraw "_law_draw" = true) (k_Ldraw : PySem.W.keepIn K (.ref f_Ldraw) = true)
    (a_Lpermutation : PySem.W.nsIn K mainGlobals "_law_permutation" = some (some (.ref f_Lpermutation))) (l_Lpermutation : K.lookup f_Lpermutation = some ⟨oc_Lpermutation, od_Lpermutation, .func (PySem.W.fnOf "_law_permutation" "_law_permutation" (defArgs s_Lpermutation) (defBody s_Lpermutation) (defScope s_Lpermutation) .none kV_Lpermutation dc_Lpermutation pm_Lpermutation an_Lpermutation cd_Lpermutation ct_Lpermutation), sl_Lpermutation⟩) (c_Lpermutation : PySem.W.codeIn K cd_Lpermutation "_law_permutation" = true) (k_Lpermutation : PySem.W.keepIn K (.ref f_Lpermutation) = true)
    (a_Lsize : PySem.W.nsIn K mainGlobals "_law_size" = some (some (.ref f_Lsize))) (l_Lsize : K.lookup f_Lsize = some ⟨oc_Lsize, od_Lsize, .func (PySem.W.fnOf "_law_size" "_law_size" (defArgs s_Lsize) (defBody s_Lsize) (defScope s_Lsize) .none kV_Lsize dc_Lsize pm_Lsize an_Lsize cd_Lsize ct_Lsize), sl_Lsize⟩) (c_Lsize : PySem.W.codeIn K cd_Lsize "_law_size" = true) (k_Lsize : PySem.W.keepIn K (.ref f_Lsize) = true)
    (a_Ltree : PySem.W.nsIn K mainGlobals "_law_tree" = some (some (.ref f_Ltree))) (l_Ltree : K.lookup f_Ltree = some ⟨oc_Ltree, od_Ltree, .func (PySem.W.fnOf "_law_tree" "_law_tree" (defArgs s_Ltree) (defBody s_Ltree) (defScope s_Ltree) .none kV_Ltree dc_Ltree pm_Ltree an_Ltree cd_Ltree ct_Ltree), sl_Ltree⟩) (c_Ltree : PySem.W.codeIn K cd_Ltree "_law_tree" = true) (k_Ltree : PySem.W.keepIn K (.ref f_Ltree) = true)
    (a_Lroot : PySem.W.nsIn K mainGlobals "_law_root" = some (some (.ref f_Lroot))) (l_Lroot : K.lookup f_Lroot = some ⟨oc_Lroot, od_Lroot, .func (PySem.W.fnOf "_law_root" "_law_root" (defArgs s_Lroot) (defBody s_Lroot) (defScope s_Lroot) .none kV_Lroot dc_Lroot pm_Lroot an_Lroot cd_Lroot ct_Lroot), sl_Lroot⟩) (c_Lroot : PySem.W.codeIn K cd_Lroot "_law_root" = true) (k_Lroot : PySem.W.keepIn K (.ref f_Lroot) = true)
    (a_Ldestroy : PySem.W.nsIn K mainGlobals "_law_destroy" = some (some (.ref f_Ldestroy))) (l_Ldestroy : K.lookup f_Ldestroy = some ⟨oc_Ldestroy, od_Ldestroy, .func (PySem.W.fnOf "_law_destroy" "_law_destroy" (defArgs s_Ldestroy) (defBody s_Ldestroy) (defScope s_Ldestroy) .none kV_Ldestroy dc_Ldestroy pm_Ldestroy an_Ldestroy cd_Ldestroy ct_Ldestroy), sl_Ldestroy⟩) (c_Ldestroy : PySem.W.codeIn K cd_Ldestroy "_law_destroy" = true) (k_Ldestroy : PySem.W.keepIn K (.ref f_Ldestroy) = true)
    (a_Llog : PySem.W.nsIn K mainGlobals "_law_log" = some (some (.ref f_Llog))) (l_Llog : K.lookup f_Llog = some ⟨oc_Llog, od_Llog, .func (PySem.W.fnOf "_law_log" "_law_log" (defArgs s_Llog) (defBody s_Llog) (defScope s_Llog) .none kV_Llog dc_Llog pm_Llog an_Llog cd_Llog ct_Llog), sl_Llog⟩) (c_Llog : PySem.W.codeIn K cd_Llog "_law_log" = true) (k_Llog : PySem.W.keepIn K (.ref f_Llog) = true)
    (a_Ldeciding : PySem.W.nsIn K mainGlobals "_law_deciding" = some (some (.ref f_Ldeciding))) (l_Ldeciding : K.lookup f_Ldeciding = some ⟨oc_Ldeciding, od_Ldeciding, .func (PySem.W.fnOf "_law_deciding" "_law_deciding" (defArgs s_Ldeciding) (defBody s_Ldeciding) (defScope s_Ldeciding) .none kV_Ldeciding dc_Ldeciding pm_Ldeciding an_Ldeciding cd_Ldeciding ct_Ldeciding), sl_Ldeciding⟩) (c_Ldeciding : PySem.W.codeIn K cd_Ldeciding "_law_deciding" = true) (k_Ldeciding : PySem.W.keepIn K (.ref f_Ldeciding) = true)
    (a_Ldetermines : PySem.W.nsIn K mainGlobals "_law_determines" = some (some (.ref f_Ldetermines))) (l_Ldetermines : K.lookup f_Ldetermines = some ⟨oc_Ldetermines, od_Ldetermines, .func (PySem.W.fnOf "_law_determines" "_law_determines" (defArgs s_Ldetermines) (defBody s_Ldetermines) (defScope s_Ldetermines) .none kV_Ldetermines dc_Ldetermines pm_Ldetermines an_Ldetermines cd_Ldetermines ct_Ldetermines), sl_Ldetermines⟩) (c_Ldetermines : PySem.W.codeIn K cd_Ldetermines "_law_determines" = true) (k_Ldetermines : PySem.W.keepIn K (.ref f_Ldetermines) = true)
    (a_Lsome_limits : PySem.W.nsIn K mainGlobals "_law_some_limits" = some (some (.ref f_Lsome_limits))) (l_Lsome_limits : K.lookup f_Lsome_limits = some ⟨oc_Lsome_limits, od_Lsome_limits, .func (PySem.W.fnOf "_law_some_limits" "_law_some_limits" (defArgs s_Lsome_limits) (defBody s_Lsome_limits) (defScope s_Lsome_limits) .none kV_Lsome_limits dc_Lsome_limits pm_Lsome_limits an_Lsome_limits cd_Lsome_limits ct_Lsome_limits), sl_Lsome_limits⟩) (c_Lsome_limits : PySem.W.codeIn K cd_Lsome_limits "_law_some_limits" = true) (k_Lsome_limits : PySem.W.keepIn K (.ref f_Lsome_limits) = true)
    (a_Ldamaged : PySem.W.nsIn K mainGlobals "_law_damaged" = some (some (.ref f_Ldamaged))) (l_Ldamaged : K.lookup f_Ldamaged = some ⟨oc_Ldamaged, od_Ldamaged, .func (PySem.W.fnOf "_law_damaged" "_law_damaged" (defArgs s_Ldamaged) (defBody s_Ldamaged) (defScope s_Ldamaged) .none kV_Ldamaged dc_Ldamaged pm_Ldamaged an_Ldamaged cd_Ldamaged ct_Ldamaged), sl_Ldamaged⟩) (c_Ldamaged : PySem.W.codeIn K cd_Ldamaged "_law_damaged" = true) (k_Ldamaged : PySem.W.keepIn K (.ref f_Ldamaged) = true)
    (a_Lplaces : PySem.W.nsIn K mainGlobals "_law_places" = some (some (.ref f_Lplaces))) (l_Lplaces : K.lookup f_Lplaces = some ⟨oc_Lplaces, od_Lplaces, .func (PySem.W.fnOf "_law_places" "_law_places" (defArgs s_Lplaces) (defBody s_Lplaces) (defScope s_Lplaces) .none kV_Lplaces dc_Lplaces pm_Lplaces an_Lplaces cd_Lplaces ct_Lplaces), sl_Lplaces⟩) (c_Lplaces : PySem.W.codeIn K cd_Lplaces "_law_places" = true) (k_Lplaces : PySem.W.keepIn K (.ref f_Lplaces) = true)
    (a_Lforced : PySem.W.nsIn K mainGlobals "_law_forced" = some (some (.ref f_Lforced))) (l_Lforced : K.lookup f_Lforced = some ⟨oc_Lforced, od_Lforced, .func (PySem.W.fnOf "_law_forced" "_law_forced" (defArgs s_Lforced) (defBody s_Lforced) (defScope s_Lforced) .none kV_Lforced dc_Lforced pm_Lforced an_Lforced cd_Lforced ct_Lforced), sl_Lforced⟩) (c_Lforced : PySem.W.codeIn K cd_Lforced "_law_forced" = true) (k_Lforced : PySem.W.keepIn K (.ref f_Lforced) = true)
    (a_Lall : PySem.W.nsIn K mainGlobals "_law_all" = some (some (.ref f_Lall))) (l_Lall : K.lookup f_Lall = some ⟨oc_Lall, od_Lall, .func (PySem.W.fnOf "_law_all" "_law_all" (defArgs s_Lall) (defBody s_Lall) (defScope s_Lall) .none kV_Lall dc_Lall pm_Lall an_Lall cd_Lall ct_Lall), sl_Lall⟩) (c_Lall : PySem.W.codeIn K cd_Lall "_law_all" = true) (k_Lall : PySem.W.keepIn K (.ref f_Lall) = true)
    (a_Lright : PySem.W.nsIn K mainGlobals "_law_right" = some (some (.ref f_Lright))) (l_Lright : K.lookup f_Lright = some ⟨oc_Lright, od_Lright, .func (PySem.W.fnOf "_law_right" "_law_right" (defArgs s_Lright) (defBody s_Lright) (defScope s_Lright) .none kV_Lright dc_Lright pm_Lright an_Lright cd_Lright ct_Lright), sl_Lright⟩) (c_Lright : PySem.W.codeIn K cd_Lright "_law_right" = true) (k_Lright : PySem.W.keepIn K (.ref f_Lright) = true)
    (a_law : PySem.W.nsIn K mainGlobals "law" = some (some (.ref f_law))) (l_law : K.lookup f_law = some ⟨oc_law, od_law, .func (PySem.W.fnOf "law" "law" (defArgs s_law) (defBody s_law) (defScope s_law) .none kV_law dc_law pm_law an_law cd_law ct_law), sl_law⟩) (c_law : PySem.W.codeIn K cd_law "law" = true) (k_law : PySem.W.keepIn K (.ref f_law) = true)
    (z_len : PySem.W.nsIn K mainGlobals "len" = some none)
    (z_isinstance : PySem.W.nsIn K mainGlobals "isinstance" = some none)
    (z_int : PySem.W.nsIn K mainGlobals "int" = some none)
    (z_bool : PySem.W.nsIn K mainGlobals "bool" = some none)
    (z_list : PySem.W.nsIn K mainGlobals "list" = some none)
    (z_tuple : PySem.W.nsIn K mainGlobals "tuple" = some none)
    (z_all : PySem.W.nsIn K mainGlobals "all" = some none)
    (z_any : PySem.W.nsIn K mainGlobals "any" = some none)
    (z_range : PySem.W.nsIn K mainGlobals "range" = some none)
    (z_min : PySem.W.nsIn K mainGlobals "min" = some none)
    (z_max : PySem.W.nsIn K mainGlobals "max" = some none)
    (z_sum : PySem.W.nsIn K mainGlobals "sum" = some none)
    (z_set : PySem.W.nsIn K mainGlobals "set" = some none)
    (z_enumerate : PySem.W.nsIn K mainGlobals "enumerate" = some none)
    (z_zip : PySem.W.nsIn K mainGlobals "zip" = some none)
    (z_abs : PySem.W.nsIn K mainGlobals "abs" = some none)
    (z_repr : PySem.W.nsIn K mainGlobals "repr" = some none)
    {t_nodes t_logs t_lim : Tok}
    (z_nodes : PySem.W.nsIn K mainGlobals "MOST_NODES" = some (some (.int 40 t_nodes)))
    (z_logs : PySem.W.nsIn K mainGlobals "MOST_LOGS" = some (some (.int 20 t_logs)))
    (z_lim : PySem.W.nsIn K mainGlobals "MOST_LIMIT" = some (some (.int (10 ^ 30) t_lim)))
    : ∃ fd : FuncData, (∀ (s : Shared) (v : Value), BindsTo s fd ⟨[v], []⟩ [("_law_script", v)]) ∧
      ∀ base : Heap, K.In base → base.Ns mainGlobals mg → FnG l.prog w K mg base 65 fa fd ["_law_script"] (sp_law K) := by
  have e := hfa.symm.trans (PySem.W.mg_of X G a_law)
  cases e
  have T : Txt mg := ⟨PySem.W.mg_none_of X G z_len, PySem.W.mg_none_of X G z_isinstance, PySem.W.mg_none_of X G z_int, PySem.W.mg_none_of X G z_bool, PySem.W.mg_none_of X G z_list, PySem.W.mg_none_of X G z_tuple, PySem.W.mg_none_of X G z_all, PySem.W.mg_none_of X G z_any, PySem.W.mg_none_of X G z_range, PySem.W.mg_none_of X G z_min, PySem.W.mg_none_of X G z_max, PySem.W.mg_none_of X G z_sum, PySem.W.mg_none_of X G z_set, PySem.W.mg_none_of X G z_enumerate, PySem.W.mg_none_of X G z_zip, PySem.W.mg_none_of X G z_abs, PySem.W.mg_none_of X G z_repr, ⟨_, PySem.W.mg_of X G z_nodes⟩, ⟨_, PySem.W.mg_of X G z_logs⟩, ⟨_, PySem.W.mg_of X G z_lim⟩⟩
  have R_is_integer : Raw K mg "is_integer" s_is_integer := raw_mk X G a_is_integer l_is_integer c_is_integer k_is_integer
  have R_is_between : Raw K mg "is_between" s_is_between := raw_mk X G a_is_between l_is_between c_is_between k_is_between
  have R_is_limit : Raw K mg "is_limit" s_is_limit := raw_mk X G a_is_limit l_is_limit c_is_limit k_is_limit
  have R_are_children : Raw K mg "are_children" s_are_children := raw_mk X G a_are_children l_are_children c_are_children k_are_children
  have R_preorder_from : Raw K mg "preorder_from" s_preorder_from := raw_mk X G a_preorder_from l_preorder_from c_preorder_from k_preorder_from
  have R_occurrences : Raw K mg "occurrences" s_occurrences := raw_mk X G a_occurrences l_occurrences c_occurrences k_occurrences
  have R_first_problem : Raw K mg "first_problem" s_first_problem := raw_mk X G a_first_problem l_first_problem c_first_problem k_first_problem
  have R_is_tree : Raw K mg "is_tree" s_is_tree := raw_mk X G a_is_tree l_is_tree c_is_tree k_is_tree
  have R_root_of : Raw K mg "root_of" s_root_of := raw_mk X G a_root_of l_root_of c_root_of k_root_of
  have R_log_of : Raw K mg "log_of" s_log_of := raw_mk X G a_log_of l_log_of c_log_of k_log_of
  have R_common_divisor : Raw K mg "common_divisor" s_common_divisor := raw_mk X G a_common_divisor l_common_divisor c_common_divisor k_common_divisor
  have R_common_multiple : Raw K mg "common_multiple" s_common_multiple := raw_mk X G a_common_multiple l_common_multiple c_common_multiple k_common_multiple
  have R_determines : Raw K mg "determines" s_determines := raw_mk X G a_determines l_determines c_determines k_determines
  have R_is_log : Raw K mg "is_log" s_is_log := raw_mk X G a_is_log l_is_log c_is_log k_is_log
  have R_is_entry : Raw K mg "is_entry" s_is_entry := raw_mk X G a_is_entry l_is_entry c_is_entry k_is_entry
  have R_require_logs : Raw K mg "require_logs" s_require_logs := raw_mk X G a_require_logs l_require_logs c_require_logs k_require_logs
  have R_spots_of : Raw K mg "spots_of" s_spots_of := raw_mk X G a_spots_of l_spots_of c_spots_of k_spots_of
  have R_first_difference_of : Raw K mg "first_difference_of" s_first_difference_of := raw_mk X G a_first_difference_of l_first_difference_of c_first_difference_of k_first_difference_of
  have R_path_to : Raw K mg "path_to" s_path_to := raw_mk X G a_path_to l_path_to c_path_to k_path_to
  have R_parent_by_logs : Raw K mg "parent_by_logs" s_parent_by_logs := raw_mk X G a_parent_by_logs l_parent_by_logs c_parent_by_logs k_parent_by_logs
  have R_forced_by_logs : Raw K mg "forced_by_logs" s_forced_by_logs := raw_mk X G a_forced_by_logs l_forced_by_logs c_forced_by_logs k_forced_by_logs
  have R_tree_from_logs : Raw K mg "tree_from_logs" s_tree_from_logs := raw_mk X G a_tree_from_logs l_tree_from_logs c_tree_from_logs k_tree_from_logs
  have R_Lsource : Raw K mg "_law_source" s_Lsource := raw_mk X G a_Lsource l_Lsource c_Lsource k_Lsource
  have R_Ldraw : Raw K mg "_law_draw" s_Ldraw := raw_mk X G a_Ldraw l_Ldraw c_Ldraw k_Ldraw
  have R_Lpermutation : Raw K mg "_law_permutation" s_Lpermutation := raw_mk X G a_Lpermutation l_Lpermutation c_Lpermutation k_Lpermutation
  have R_Lsize : Raw K mg "_law_size" s_Lsize := raw_mk X G a_Lsize l_Lsize c_Lsize k_Lsize
  have R_Ltree : Raw K mg "_law_tree" s_Ltree := raw_mk X G a_Ltree l_Ltree c_Ltree k_Ltree
  have R_Lroot : Raw K mg "_law_root" s_Lroot := raw_mk X G a_Lroot l_Lroot c_Lroot k_Lroot
  have R_Ldestroy : Raw K mg "_law_destroy" s_Ldestroy := raw_mk X G a_Ldestroy l_Ldestroy c_Ldestroy k_Ldestroy
  have R_Llog : Raw K mg "_law_log" s_Llog := raw_mk X G a_Llog l_Llog c_Llog k_Llog
  have R_Ldeciding : Raw K mg "_law_deciding" s_Ldeciding := raw_mk X G a_Ldeciding l_Ldeciding c_Ldeciding k_Ldeciding
  have R_Ldetermines : Raw K mg "_law_determines" s_Ldetermines := raw_mk X G a_Ldetermines l_Ldetermines c_Ldetermines k_Ldetermines
  have R_Lsome_limits : Raw K mg "_law_some_limits" s_Lsome_limits := raw_mk X G a_Lsome_limits l_Lsome_limits c_Lsome_limits k_Lsome_limits
  have R_Ldamaged : Raw K mg "_law_damaged" s_Ldamaged := raw_mk X G a_Ldamaged l_Ldamaged c_Ldamaged k_Ldamaged
  have R_Lplaces : Raw K mg "_law_places" s_Lplaces := raw_mk X G a_Lplaces l_Lplaces c_Lplaces k_Lplaces
  have R_Lforced : Raw K mg "_law_forced" s_Lforced := raw_mk X G a_Lforced l_Lforced c_Lforced k_Lforced
  have R_Lall : Raw K mg "_law_all" s_Lall := raw_mk X G a_Lall l_Lall c_Lall k_Lall
  have R_Lright : Raw K mg "_law_right" s_Lright := raw_mk X G a_Lright l_Lright c_Lright k_Lright
  have F_law := fun_mk (st := s_law) l_law c_law k_law
  refine ⟨PySem.W.fnOf "law" "law" (defArgs s_law) (defBody s_law) (defScope s_law) .none kV_law dc_law pm_law an_law cd_law ct_law, fun s v => .of_eq rfl, fun base _ _ => ?_⟩
  have D0 : Def l.prog w K mg base 1 "is_integer" ["value"] sp_isint := d_isint R_is_integer T
  have D1 : Def l.prog w K mg base 2 "is_between" ["value", "least", "most"] sp_between := d_between R_is_between D0
  have D_is_between : Def l.prog w K mg base 2 "is_between" ["value", "least", "most"] sp_is_between := D1
  have D_is_limit : Def l.prog w K mg base 3 "is_limit" ["value"] sp_is_limit := d_islimit R_is_limit T D1
  have D_are_children : Def l.prog w K mg base 3 "are_children" ["value", "size"] sp_are_children := d_are_children (R := R_are_children) (T := T) (D_is_between := D_is_between)
  have D_preorder_from : Def l.prog w K mg base 1 "preorder_from" ["children", "start"] sp_preorder_from := d_preorder_from (R := R_preorder_from)
  have D_occurrences : Def l.prog w K mg base 1 "occurrences" ["children"] sp_occurrences := d_occurrences (R := R_occurrences) (T := T)
  have D_first_problem : Def l.prog w K mg base 4 "first_problem" ["children"] sp_first_problem := d_first_problem (R := R_first_problem) (T := T) (D_are_children := D_are_children) (D_occurrences := D_occurrences) (D_preorder_from := D_preorder_from)
  have D_is_tree : Def l.prog w K mg base 5 "is_tree" ["value"] sp_is_tree := d_is_tree (R := R_is_tree) (T := T) (D_first_problem := D_first_problem)
  have D_root_of : Def l.prog w K mg base 2 "root_of" ["tree"] sp_root := d_root_of (R := R_root_of) (D_occurrences := D_occurrences)
  have D_log_of : DefK l.prog w K mg base 3 "log_of" ["tree", "limit"] 1 ["limit"] sp_log := d_log_of (R := R_log_of) (T := T) (D_root_of := D_root_of)
  have D_common_divisor : Def l.prog w K mg base 1 "common_divisor" ["one", "other"] sp_common_divisor := d_common_divisor (R := R_common_divisor)
  have D_common_multiple : Def l.prog w K mg base 2 "common_multiple" ["limits"] sp_common_multiple := d_common_multiple (R := R_common_multiple) (D_common_divisor := D_common_divisor)
  have D_determines : DefK l.prog w K mg base 3 "determines" ["limits", "size"] 1 ["size"] sp_determines := d_determines (R := R_determines) (D_common_multiple := D_common_multiple)
  have D_is_log : Def l.prog w K mg base 3 "is_log" ["value"] sp_is_log := d_is_log (R := R_is_log) (T := T) (D_is_between := D_is_between)
  have D_is_entry : Def l.prog w K mg base 4 "is_entry" ["value"] sp_is_entry := d_is_entry (R := R_is_entry) (T := T) (D_is_limit := D_is_limit) (D_is_log := D_is_log)
  have D_require_logs : Def l.prog w K mg base 5 "require_logs" ["logs"] sp_require_logs := d_require_logs (R := R_require_logs) (T := T) (D_determines := D_determines) (D_is_entry := D_is_entry)
  have D_spots_of : Def l.prog w K mg base 1 "spots_of" ["log"] sp_spots := d_spots_of (R := R_spots_of) (T := T)
  have D_first_difference_of : Def l.prog w K mg base 1 "first_difference_of" ["one", "other"] sp_first_difference_of := d_first_difference_of (R := R_first_difference_of) (T := T)
  have D_path_to : Def l.prog w K mg base 1 "path_to" ["above", "node"] sp_path_to := d_path_to (R := R_path_to)
  have D_parent_by_logs : Def l.prog w K mg base 2 "parent_by_logs" ["above", "last", "node", "spots"] sp_parent_by_logs := d_parent_by_logs (R := R_parent_by_logs) (T := T) (D_path_to := D_path_to)
  have D_forced_by_logs : Def l.prog w K mg base 3 "forced_by_logs" ["logs"] sp_forced_by_logs := d_forced_by_logs (R := R_forced_by_logs) (T := T) (D_parent_by_logs := D_parent_by_logs) (D_spots_of := D_spots_of)
  have D_tree_from_logs : Def l.prog w K mg base 6 "tree_from_logs" ["logs"] sp_tree_from_logs := d_tree_from_logs (R := R_tree_from_logs) (D_first_difference_of := D_first_difference_of) (D_forced_by_logs := D_forced_by_logs) (D_log_of := D_log_of) (D_require_logs := D_require_logs)
  have D_tree_from_logs_kw : DefK l.prog w K mg base 6 "tree_from_logs" ["logs"] 0 ["logs"] sp_tree_from_logs := d_tree_from_logs_kw (R := R_tree_from_logs) (D_first_difference_of := D_first_difference_of) (D_forced_by_logs := D_forced_by_logs) (D_log_of := D_log_of) (D_require_logs := D_require_logs)
  have D_Lsource : Def l.prog w K mg base 1 "_law_source" ["_law_script"] (sp_source K) := d_Lsource (R := R_Lsource) (T := T)
  have D_Ldraw : Def l.prog w K mg base 1 "_law_draw" ["_law_source_here", "_law_bound"] sp_draw := d_Ldraw (R := R_Ldraw) (T := T)
  have D_Lpermutation : Def l.prog w K mg base 2 "_law_permutation" ["_law_source_here", "_law_size_here"] sp_permutation := d_Lpermutation (R := R_Lpermutation) (T := T) (D_Ldraw := D_Ldraw)
  have D_Lsize : Def l.prog w K mg base 2 "_law_size" ["_law_source_here", "_law_most"] sp_size := d_Lsize (R := R_Lsize) (D_Ldraw := D_Ldraw)
  have D_Ltree : Def l.prog w K mg base 3 "_law_tree" ["_law_source_here", "_law_size_here"] sp_tree := d_Ltree (R := R_Ltree) (T := T) (D_Ldraw := D_Ldraw) (D_Lpermutation := D_Lpermutation)
  have D_Lroot : Def l.prog w K mg base 1 "_law_root" ["_law_tree_here"] sp_root := d_Lroot (R := R_Lroot) (T := T)
  have D_Ldestroy : Def l.prog w K mg base 41 "_law_destroy" ["_law_tree_here", "_law_node", "_law_depth", "_law_limit", "_law_log_here", "_law_shelf"] (sp_destroy 40) := d_Ldestroy R_Ldestroy 40
  have D_Llog : Def l.prog w K mg base 42 "_law_log" ["_law_tree_here", "_law_limit"] sp_log := d_Llog (R := R_Llog) (T := T) (D_Ldestroy := D_Ldestroy) (D_Lroot := D_Lroot)
  have D_Ldeciding : Def l.prog w K mg base 1 "_law_deciding" ["_law_limits", "_law_size_here"] sp_deciding := d_Ldeciding (R := R_Ldeciding) (T := T)
  have D_Ldetermines : Def l.prog w K mg base 2 "_law_determines" ["_law_limits", "_law_size_here"] sp_Ldetermines := d_Ldetermines (R := R_Ldetermines) (D_Ldeciding := D_Ldeciding)
  have D_Lsome_limits : Def l.prog w K mg base 3 "_law_some_limits" ["_law_source_here", "_law_size_here"] sp_some_limits := d_Lsome_limits (R := R_Lsome_limits) (T := T) (D_Ldetermines := D_Ldetermines) (D_Ldraw := D_Ldraw)
  have D_Ldamaged : Def l.prog w K mg base 3 "_law_damaged" ["_law_source_here", "_law_pairs"] sp_damaged := d_Ldamaged (R := R_Ldamaged) (T := T) (D_Ldraw := D_Ldraw) (D_Lpermutation := D_Lpermutation)
  have D_Lplaces : Def l.prog w K mg base 1 "_law_places" ["_law_log_here"] sp_places := d_Lplaces (R := R_Lplaces) (T := T)
  have D_Lforced : Def l.prog w K mg base 2 "_law_forced" ["_law_pairs"] sp_Lforced := d_Lforced (R := R_Lforced) (T := T) (D_Lplaces := D_Lplaces)
  have D_Lall : Def l.prog w K mg base 1 "_law_all" ["_law_order"] sp_all := d_Lall (R := R_Lall) (T := T)
  have D_Lright : DefG l.prog w K mg base 43 "_law_right" ["_law_pairs"] sp_right := d_Lright (R := R_Lright) (T := T) (D_Lall := D_Lall) (D_Lforced := D_Lforced) (D_Llog := D_Llog) (D_is_tree := D_is_tree) (D_tree_from_logs := D_tree_from_logs)
  have F := d_law (P := l.prog) (w := w) (base := base) (hf := F_law) (T := T) (D_Ldamaged := D_Ldamaged) (D_Llog := D_Llog) (D_Lright := D_Lright) (D_Lsize := D_Lsize) (D_Lsome_limits := D_Lsome_limits) (D_Lsource := D_Lsource) (D_Ltree := D_Ltree) (D_tree_from_logs := D_tree_from_logs) (D_tree_from_logs_kw := D_tree_from_logs_kw)
  exact ⟨F.len, fun A outer s H args us vs Q E g hr => F.run A outer s H args us vs Q E g (hr.mono (by decide))⟩
end SF
end

set_option Elab.async false
open PySem PySem.W PyProof.Rows
set_option maxRecDepth 100000 in
set_option maxHeartbeats 0 in
theorem PySem.Challenge.cw_slotfall_k52_whole_trees_from_logs_holds : PySem.Challenge.rw_slotfall_k52_whole_trees_from_logs.Holds := by
  w_on; o_law; k_head; (case hw => w_witness2)
  k_fill
  refine SF.walkG (l := PySem.Challenge.rw_slotfall_k52_whole_trees_from_logs) rfl rfl (fun w h Y => PySem.W.kIn_of Y) ?F
  case F =>
    intro w mg fa h KX G hmg
    refine' SF.all_mk KX G hmg ?a_is_integer ?l_is_integer ?c_is_integer ?k_is_integer ?a_is_between ?l_is_between ?c_is_between ?k_is_between ?a_is_limit ?l_is_limit ?c_is_limit ?k_is_limit ?a_are_children ?l_are_children ?c_are_children ?k_are_children ?a_preorder_from ?l_preorder_from ?c_preorder_from ?k_preorder_from ?a_occurrences ?l_occurrences ?c_occurrences ?k_occurrences ?a_first_problem ?l_first_problem ?c_first_problem ?k_first_problem ?a_is_tree ?l_is_tree ?c_is_tree ?k_is_tree ?a_root_of ?l_root_of ?c_root_of ?k_root_of ?a_log_of ?l_log_of ?c_log_of ?k_log_of ?a_common_divisor ?l_common_divisor ?c_common_divisor ?k_common_divisor ?a_common_multiple ?l_common_multiple ?c_common_multiple ?k_common_multiple ?a_determines ?l_determines ?c_determines ?k_determines ?a_is_log ?l_is_log ?c_is_log ?k_is_log ?a_is_entry ?l_is_entry ?c_is_entry ?k_is_entry ?a_require_logs ?l_require_logs ?c_require_logs ?k_require_logs ?a_spots_of ?l_spots_of ?c_spots_of ?k_spots_of ?a_first_difference_of ?l_first_difference_of ?c_first_difference_of ?k_first_difference_of ?a_path_to ?l_path_to ?c_path_to ?k_path_to ?a_parent_by_logs ?l_parent_by_logs ?c_parent_by_logs ?k_parent_by_logs ?a_forced_by_logs ?l_forced_by_logs ?c_forced_by_logs ?k_forced_by_logs ?a_tree_from_logs ?l_tree_from_logs ?c_tree_from_logs ?k_tree_from_logs ?a_Lsource ?l_Lsource ?c_Lsource ?k_Lsource ?a_Ldraw ?l_Ldraw ?c_Ldraw ?k_Ldraw ?a_Lpermutation ?l_Lpermutation ?c_Lpermutation ?k_Lpermutation ?a_Lsize ?l_Lsize ?c_Lsize ?k_Lsize ?a_Ltree ?l_Ltree ?c_Ltree ?k_Ltree ?a_Lroot ?l_Lroot ?c_Lroot ?k_Lroot ?a_Ldestroy ?l_Ldestroy ?c_Ldestroy ?k_Ldestroy ?a_Llog ?l_Llog ?c_Llog ?k_Llog ?a_Ldeciding ?l_Ldeciding ?c_Ldeciding ?k_Ldeciding ?a_Ldetermines ?l_Ldetermines ?c_Ldetermines ?k_Ldetermines ?a_Lsome_limits ?l_Lsome_limits ?c_Lsome_limits ?k_Lsome_limits ?a_Ldamaged ?l_Ldamaged ?c_Ldamaged ?k_Ldamaged ?a_Lplaces ?l_Lplaces ?c_Lplaces ?k_Lplaces ?a_Lforced ?l_Lforced ?c_Lforced ?k_Lforced ?a_Lall ?l_Lall ?c_Lall ?k_Lall ?a_Lright ?l_Lright ?c_Lright ?k_Lright ?a_law ?l_law ?c_law ?k_law ?z_len ?z_isinstance ?z_int ?z_bool ?z_list ?z_tuple ?z_all ?z_any ?z_range ?z_min ?z_max ?z_sum ?z_set ?z_enumerate ?z_zip ?z_abs ?z_repr ?z_nodes ?z_logs ?z_lim
    (case a_is_integer => k_is); (case l_is_integer => k_is); (case c_is_integer => k_is); (case k_is_integer => k_is)
    (case a_is_between => k_is); (case l_is_between => k_is); (case c_is_between => k_is); (case k_is_between => k_is)
    (case a_is_limit => k_is); (case l_is_limit => k_is); (case c_is_limit => k_is); (case k_is_limit => k_is)
    (case a_are_children => k_is); (case l_are_children => k_is); (case c_are_children => k_is); (case k_are_children => k_is)
    (case a_preorder_from => k_is); (case l_preorder_from => k_is); (case c_preorder_from => k_is); (case k_preorder_from => k_is)
    (case a_occurrences => k_is); (case l_occurrences => k_is); (case c_occurrences => k_is); (case k_occurrences => k_is)
    (case a_first_problem => k_is); (case l_first_problem => k_is); (case c_first_problem => k_is); (case k_first_problem => k_is)
    (case a_is_tree => k_is); (case l_is_tree => k_is); (case c_is_tree => k_is); (case k_is_tree => k_is)
    (case a_root_of => k_is); (case l_root_of => k_is); (case c_root_of => k_is); (case k_root_of => k_is)
    (case a_log_of => k_is); (case l_log_of => k_is); (case c_log_of => k_is); (case k_log_of => k_is)
    (case a_common_divisor => k_is); (case l_common_divisor => k_is); (case c_common_divisor => k_is); (case k_common_divisor => k_is)
    (case a_common_multiple => k_is); (case l_common_multiple => k_is); (case c_common_multiple => k_is); (case k_common_multiple => k_is)
    (case a_determines => k_is); (case l_determines => k_is); (case c_determines => k_is); (case k_determines => k_is)
    (case a_is_log => k_is); (case l_is_log => k_is); (case c_is_log => k_is); (case k_is_log => k_is)
    (case a_is_entry => k_is); (case l_is_entry => k_is); (case c_is_entry => k_is); (case k_is_entry => k_is)
    (case a_require_logs => k_is); (case l_require_logs => k_is); (case c_require_logs => k_is); (case k_require_logs => k_is)
    (case a_spots_of => k_is); (case l_spots_of => k_is); (case c_spots_of => k_is); (case k_spots_of => k_is)
    (case a_first_difference_of => k_is); (case l_first_difference_of => k_is); (case c_first_difference_of => k_is); (case k_first_difference_of => k_is)
    (case a_path_to => k_is); (case l_path_to => k_is); (case c_path_to => k_is); (case k_path_to => k_is)
    (case a_parent_by_logs => k_is); (case l_parent_by_logs => k_is); (case c_parent_by_logs => k_is); (case k_parent_by_logs => k_is)
    (case a_forced_by_logs => k_is); (case l_forced_by_logs => k_is); (case c_forced_by_logs => k_is); (case k_forced_by_logs => k_is)
    (case a_tree_from_logs => k_is); (case l_tree_from_logs => k_is); (case c_tree_from_logs => k_is); (case k_tree_from_logs => k_is)
    (case a_Lsource => k_is); (case l_Lsource => k_is); (case c_Lsource => k_is); (case k_Lsource => k_is)
    (case a_Ldraw => k_is); (case l_Ldraw => k_is); (case c_Ldraw => k_is); (case k_Ldraw => k_is)
    (case a_Lpermutation => k_is); (case l_Lpermutation => k_is); (case c_Lpermutation => k_is); (case k_Lpermutation => k_is)
    (case a_Lsize => k_is); (case l_Lsize => k_is); (case c_Lsize => k_is); (case k_Lsize => k_is)
    (case a_Ltree => k_is); (case l_Ltree => k_is); (case c_Ltree => k_is); (case k_Ltree => k_is)
    (case a_Lroot => k_is); (case l_Lroot => k_is); (case c_Lroot => k_is); (case k_Lroot => k_is)
    (case a_Ldestroy => k_is); (case l_Ldestroy => k_is); (case c_Ldestroy => k_is); (case k_Ldestroy => k_is)
    (case a_Llog => k_is); (case l_Llog => k_is); (case c_Llog => k_is); (case k_Llog => k_is)
    (case a_Ldeciding => k_is); (case l_Ldeciding => k_is); (case c_Ldeciding => k_is); (case k_Ldeciding => k_is)
    (case a_Ldetermines => k_is); (case l_Ldetermines => k_is); (case c_Ldetermines => k_is); (case k_Ldetermines => k_is)
    (case a_Lsome_limits => k_is); (case l_Lsome_limits => k_is); (case c_Lsome_limits => k_is); (case k_Lsome_limits => k_is)
    (case a_Ldamaged => k_is); (case l_Ldamaged => k_is); (case c_Ldamaged => k_is); (case k_Ldamaged => k_is)
    (case a_Lplaces => k_is); (case l_Lplaces => k_is); (case c_Lplaces => k_is); (case k_Lplaces => k_is)
    (case a_Lforced => k_is); (case l_Lforced => k_is); (case c_Lforced => k_is); (case k_Lforced => k_is)
    (case a_Lall => k_is); (case l_Lall => k_is); (case c_Lall => k_is); (case k_Lall => k_is)
    (case a_Lright => k_is); (case l_Lright => k_is); (case c_Lright => k_is); (case k_Lright => k_is)
    (case a_law => k_is); (case l_law => k_is); (case c_law => k_is); (case k_law => k_is)
    (case z_len => k_is)
    (case z_isinstance => k_is)
    (case z_int => k_is)
    (case z_bool => k_is)
    (case z_list => k_is)
    (case z_tuple => k_is)
    (case z_all => k_is)
    (case z_any => k_is)
    (case z_range => k_is)
    (case z_min => k_is)
    (case z_max => k_is)
    (case z_sum => k_is)
    (case z_set => k_is)
    (case z_enumerate => k_is)
    (case z_zip => k_is)
    (case z_abs => k_is)
    (case z_repr => k_is)
    (case z_nodes => k_is)
    (case z_logs => k_is)
    (case z_lim => k_is)
