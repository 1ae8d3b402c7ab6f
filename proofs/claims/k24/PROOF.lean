import PyProof.Rows.All
import Wide.All
import OpenK.AllK
import Wide.FinOn
import HandS.ForMost
import HandS.Codes
import HandS.IsInst
import HandS.SortRule
import HandS.TupSets
import HandS.Conv
import KE.KTupSum
import KE.SortKeyHeap
import KE.KLam
import HandS.List
import HandS.Call
import HandS.Lambda
import HandS.Nested
import HandS.TupAny
import KE.KNestM
import HandS.EndTab
import PySem.Challenge.RW_gazette_k24_whole_signatures_needed
set_option Elab.async false
set_option linter.all false
set_option maxRecDepth 100000
set_option maxHeartbeats 4000000
/-! The mathematics of the law about further signatures: plain lists of whole numbers, no program. -/
namespace K24
/-- the greater of two, as the built-in answers -/
def mx (i j : Int) : Int := if j > i then j else i
def mn (i j : Int) : Int := if j < i then j else i
theorem mx_spec (i j : Int) : i ≤ mx i j ∧ j ≤ mx i j ∧ (mx i j = i ∨ mx i j = j) := by
  unfold mx; split <;> omega
theorem mn_spec (i j : Int) : mn i j ≤ i ∧ mn i j ≤ j ∧ (mn i j = i ∨ mn i j = j) := by
  unfold mn; split <;> omega
/-- the counts of the first n districts, padded by noughts -/
def pad (cs : List Int) (n : Nat) : List Int := cs.take n ++ List.replicate (n - cs.length) 0
theorem pad_len (cs : List Int) (n : Nat) : (pad cs n).length = n := by
  unfold pad
  rw [List.length_append, List.length_take, List.length_replicate]
  omega
theorem pad_nn {cs : List Int} {n : Nat} (h : ∀ x ∈ cs, 0 ≤ x) : ∀ x ∈ pad cs n, 0 ≤ x := by
  intro x hx
  rcases List.mem_append.mp hx with q | q
  · exact h x (List.mem_of_mem_take q)
  · rw [(List.mem_replicate.mp q).2]; exact Int.le_refl 0
theorem pad_le {cs : List Int} {n : Nat} {m : Int} (h : ∀ x ∈ cs, x ≤ m) (hm : 0 ≤ m) : ∀ x ∈ pad cs n, x ≤ m := by
  intro x hx
  rcases List.mem_append.mp hx with q | q
  · exact h x (List.mem_of_mem_take q)
  · rw [(List.mem_replicate.mp q).2]; exact hm
theorem pad_ext {cs : List Int} {n : Nat} (h : n ≤ 9) : (cs ++ List.replicate 9 (0 : Int)).take n = pad cs n := by
  unfold pad
  rw [List.take_append, List.take_replicate]
  congr 2
  omega
/-- the shortfalls -/
def shorts (p : Int) (known : List Int) : List Int := known.map fun c => mx (p - c) 0
theorem shorts_len (p : Int) (known : List Int) : (shorts p known).length = known.length := List.length_map _
theorem shorts_nn (p : Int) (known : List Int) : ∀ x ∈ shorts p known, 0 ≤ x := by
  intro x hx
  obtain ⟨c, _, rfl⟩ := List.mem_map.mp hx
  exact (mx_spec _ _).2.1
/-- the districts with their shortfalls -/
def prs (sh : List Int) : List (Int × Int) := (List.range sh.length).map fun (d : Nat) => (sh.getD d 0, (d : Int))
def lexle (a b : Int × Int) : Prop := a.1 < b.1 ∨ (a.1 = b.1 ∧ a.2 ≤ b.2)
instance (a b : Int × Int) : Decidable (lexle a b) := by unfold lexle; infer_instance
theorem lexle_trans (a b c : Int × Int) (h : lexle a b) (k : lexle b c) : lexle a c := by
  unfold lexle at *; omega
theorem lexle_total (a b : Int × Int) : lexle a b ∨ lexle b a := by
  unfold lexle; omega
theorem lexle_anti (a b : Int × Int) (h : lexle a b) (k : lexle b a) : a = b := by
  unfold lexle at *
  apply Prod.ext <;> omega
/-- the ranking -/
def rank (sh : List Int) : List (Int × Int) := (prs sh).mergeSort fun a b => decide (lexle a b)
theorem rank_perm (sh : List Int) : (rank sh).Perm (prs sh) := List.mergeSort_perm _ _
theorem rank_sorted (sh : List Int) : (rank sh).Pairwise lexle := by
  have h := List.pairwise_mergeSort (le := fun a b : Int × Int => decide (lexle a b))
    (fun a b c h k => decide_eq_true (lexle_trans a b c (of_decide_eq_true h) (of_decide_eq_true k)))
    (fun a b => by rcases lexle_total a b with h | h <;> simp [h]) (prs sh)
  exact h.imp fun q => of_decide_eq_true q
theorem sorted_one {l m : List (Int × Int)} (hp : l.Perm m) (hl : l.Pairwise lexle) (hm : m.Pairwise lexle) : l = m :=
  List.Perm.eq_of_pairwise (fun a b _ _ h k => lexle_anti a b h k) hl hm hp
theorem rank_one {sh : List Int} {l : List (Int × Int)} (hp : l.Perm (prs sh)) (hs : l.Pairwise lexle) : l = rank sh :=
  sorted_one (hp.trans (rank_perm sh).symm) hs (rank_sorted sh)
theorem rank_len (sh : List Int) : (rank sh).length = sh.length := by
  rw [(rank_perm sh).length_eq]
  unfold prs
  rw [List.length_map, List.length_range]
theorem mem_prs {sh : List Int} {p : Int × Int} (h : p ∈ prs sh) : ∃ d : Nat, d < sh.length ∧ p = (sh.getD d 0, (d : Int)) := by
  unfold prs at h
  obtain ⟨d, hd, rfl⟩ := List.mem_map.mp h
  exact ⟨d, List.mem_range.mp hd, rfl⟩
theorem mem_rank {sh : List Int} {p : Int × Int} (h : p ∈ rank sh) : ∃ d : Nat, d < sh.length ∧ p = (sh.getD d 0, (d : Int)) :=
  mem_prs ((rank_perm sh).mem_iff.mp h)
theorem rank_nodup (sh : List Int) : ((rank sh).map (·.2.toNat)).Nodup := by
  have e : ((rank sh).map (·.2.toNat)).Perm (List.range sh.length) := by
    have q := (rank_perm sh).map (·.2.toNat)
    have z : (prs sh).map (·.2.toNat) = List.range sh.length := by
      unfold prs
      rw [List.map_map]
      have : ((fun p : Int × Int => p.2.toNat) ∘ fun (d : Nat) => (sh.getD d 0, (d : Int))) = id := by
        funext d; simp
      rw [this, List.map_id]
    rw [z] at q
    exact q
  exact e.nodup_iff.mpr List.nodup_range
/-- storing the shortfalls of the pairs at their districts -/
def lay (f : List Int) (l : List (Int × Int)) : List Int := l.foldl (fun g p => g.set p.2.toNat p.1) f
theorem lay_len (l : List (Int × Int)) : ∀ f : List Int, (lay f l).length = f.length := by
  induction l with
  | nil => intro f; rfl
  | cons p l ih => intro f; show (lay (f.set _ _) l).length = _; rw [ih, List.length_set]
theorem sum_set : ∀ (f : List Int) (i : Nat) (v : Int), i < f.length → (f.set i v).sum = f.sum - f.getD i 0 + v
  | [], i, v, h => by simp at h
  | x :: f, 0, v, _ => by simp [List.set, List.sum_cons]; omega
  | x :: f, i + 1, v, h => by
    have ih := sum_set f i v (by simpa using h)
    simp only [List.set_cons_succ, List.sum_cons, List.getD_cons_succ]
    omega
theorem getD_set_ne (f : List Int) (i j : Nat) (v : Int) (h : i ≠ j) : (f.set i v).getD j 0 = f.getD j 0 := by
  simp only [List.getD_eq_getElem?_getD]
  rw [List.getElem?_set_ne h]
theorem getD_set_eq (f : List Int) (i : Nat) (v : Int) (h : i < f.length) : (f.set i v).getD i 0 = v := by
  simp only [List.getD_eq_getElem?_getD]
  rw [List.getElem?_set_self h]
  rfl
theorem lay_out (l : List (Int × Int)) : ∀ (f : List Int) (j : Nat), j ∉ l.map (·.2.toNat) → (lay f l).getD j 0 = f.getD j 0 := by
  induction l with
  | nil => intro f j _; rfl
  | cons p l ih =>
    intro f j hj
    rw [List.map_cons, List.mem_cons, not_or] at hj
    show (lay (f.set p.2.toNat p.1) l).getD j 0 = _
    rw [ih _ j hj.2, getD_set_ne _ _ _ _ (Ne.symm hj.1)]
theorem lay_in (l : List (Int × Int)) : ∀ (f : List Int), (l.map (·.2.toNat)).Nodup → (∀ p ∈ l, p.2.toNat < f.length) → ∀ p ∈ l, (lay f l).getD p.2.toNat 0 = p.1 := by
  induction l with
  | nil => intro f _ _ p hp; cases hp
  | cons q l ih =>
    intro f hn hb p hp
    rw [List.map_cons, List.nodup_cons] at hn
    show (lay (f.set q.2.toNat q.1) l).getD p.2.toNat 0 = _
    rcases List.mem_cons.mp hp with e | hp
    · subst e
      rw [lay_out l _ _ hn.1, getD_set_eq _ _ _ (hb p List.mem_cons_self)]
    · exact ih _ hn.2 (fun z hz => by rw [List.length_set]; exact hb z (List.mem_cons_of_mem _ hz)) p hp
theorem lay_sum (l : List (Int × Int)) : ∀ (f : List Int), (l.map (·.2.toNat)).Nodup → (∀ p ∈ l, p.2.toNat < f.length) → (∀ p ∈ l, f.getD p.2.toNat 0 = 0) → (lay f l).sum = f.sum + (l.map (·.1)).sum := by
  induction l with
  | nil => intro f _ _ _; show f.sum = f.sum + 0; omega
  | cons q l ih =>
    intro f hn hb hz
    rw [List.map_cons, List.nodup_cons] at hn
    show (lay (f.set q.2.toNat q.1) l).sum = _
    rw [ih _ hn.2 (fun z hz' => by rw [List.length_set]; exact hb z (List.mem_cons_of_mem _ hz')) (fun z hz' => by
      rw [getD_set_ne _ _ _ _ (fun e => hn.1 (by rw [e]; exact List.mem_map.mpr ⟨z, hz', rfl⟩))]
      exact hz z (List.mem_cons_of_mem _ hz')), sum_set _ _ _ (hb q List.mem_cons_self), hz q List.mem_cons_self, List.map_cons, List.sum_cons]
    omega
theorem sum_rep (n : Nat) : (List.replicate n (0 : Int)).sum = 0 := by
  induction n with
  | zero => rfl
  | succ n ih => rw [List.replicate_succ, List.sum_cons, ih]; rfl
theorem getD_rep (n j : Nat) : (List.replicate n (0 : Int)).getD j 0 = 0 := by
  simp only [List.getD_eq_getElem?_getD, List.getElem?_replicate]
  split <;> rfl
/-- the further signatures ahead of what the total lacks -/
def base (sh : List Int) (r : Nat) : List Int := lay (List.replicate sh.length 0) ((rank sh).take r)
theorem base_len (sh : List Int) (r : Nat) : (base sh r).length = sh.length := by
  unfold base; rw [lay_len, List.length_replicate]
theorem take_nodup (sh : List Int) (r : Nat) : (((rank sh).take r).map (·.2.toNat)).Nodup := by
  rw [List.map_take]
  exact (rank_nodup sh).sublist (List.take_sublist _ _)
theorem take_bound (sh : List Int) (r : Nat) : ∀ p ∈ (rank sh).take r, p.2.toNat < sh.length := by
  intro p hp
  obtain ⟨d, hd, rfl⟩ := mem_rank (List.mem_of_mem_take hp)
  simpa using hd
theorem base_sum (sh : List Int) (r : Nat) : (base sh r).sum = (((rank sh).take r).map (·.1)).sum := by
  unfold base
  rw [lay_sum _ _ (take_nodup sh r) (fun p hp => by rw [List.length_replicate]; exact take_bound sh r p hp) (fun p _ => getD_rep _ _), sum_rep, Int.zero_add]
theorem base_in (sh : List Int) (r : Nat) : ∀ p ∈ (rank sh).take r, (base sh r).getD p.2.toNat 0 = p.1 :=
  lay_in _ _ (take_nodup sh r) fun p hp => by rw [List.length_replicate]; exact take_bound sh r p hp
theorem getD_mem_or (f : List Int) (j : Nat) : f.getD j 0 ∈ f ∨ f.getD j 0 = 0 := by
  rw [List.getD_eq_getElem?_getD]
  cases e : f[j]? with
  | none => exact .inr rfl
  | some x => exact .inl (List.mem_of_getElem? e)
theorem lay_nn (l : List (Int × Int)) : ∀ f : List Int, (∀ x ∈ f, 0 ≤ x) → (∀ p ∈ l, 0 ≤ p.1) → ∀ x ∈ lay f l, 0 ≤ x := by
  induction l with
  | nil => intro f hf _; exact hf
  | cons p l ih =>
    intro f hf hl
    refine ih (f.set p.2.toNat p.1) (fun x hx => ?_) fun q hq => hl q (List.mem_cons_of_mem _ hq)
    rcases List.mem_or_eq_of_mem_set hx with h | h
    · exact hf x h
    · rw [h]; exact hl p List.mem_cons_self
theorem rank_nn {sh : List Int} (h : ∀ x ∈ sh, 0 ≤ x) : ∀ p ∈ rank sh, 0 ≤ p.1 := by
  intro p hp
  obtain ⟨d, _, rfl⟩ := mem_rank hp
  rcases getD_mem_or sh d with q | q
  · exact h _ q
  · show 0 ≤ sh.getD d 0
    rw [q]; exact Int.le_refl 0
theorem base_nn {sh : List Int} (h : ∀ x ∈ sh, 0 ≤ x) (r : Nat) : ∀ x ∈ base sh r, 0 ≤ x :=
  lay_nn _ _ (fun x hx => by rw [(List.mem_replicate.mp hx).2]; exact Int.le_refl 0) fun p hp => rank_nn h p (List.mem_of_mem_take hp)
/-- what is lacking goes to district 0 -/
def top0 (f : List Int) (m : Int) : List Int := if m > 0 then f.set 0 (f.getD 0 0 + m) else f
/-- the further signatures -/
def due (p total : Int) (r : Nat) (known : List Int) : List Int := top0 (base (shorts p known) r) (total - known.sum - (base (shorts p known) r).sum)
theorem sum_nn : ∀ {f : List Int}, (∀ x ∈ f, 0 ≤ x) → 0 ≤ f.sum
  | [], _ => Int.le_refl 0
  | x :: f, h => by
    have h1 := h x List.mem_cons_self
    have h2 := sum_nn (f := f) fun y hy => h y (List.mem_cons_of_mem _ hy)
    rw [List.sum_cons]
    omega
/-- the law's own lacking -/
theorem due_law (p total : Int) (r : Nat) (known : List Int) : top0 (base (shorts p known) r) (mx (total - known.sum) 0 - (base (shorts p known) r).sum) = due p total r known := by
  unfold due top0
  have h0 := sum_nn (base_nn (shorts_nn p known) r)
  have hm := mx_spec (total - known.sum) 0
  by_cases h : total - known.sum - (base (shorts p known) r).sum > 0
  · have e : mx (total - known.sum) 0 = total - known.sum := by omega
    rw [e]
  · rw [if_neg h, if_neg (by omega)]
theorem due_len (p total : Int) (r : Nat) (known : List Int) : (due p total r known).length = known.length := by
  unfold due top0
  split
  · rw [List.length_set, base_len, shorts_len]
  · rw [base_len, shorts_len]
theorem due_nn (p total : Int) (r : Nat) (known : List Int) : ∀ x ∈ due p total r known, 0 ≤ x := by
  unfold due top0
  have hb := base_nn (shorts_nn p known) r
  split
  · intro x hx
    rcases List.mem_or_eq_of_mem_set hx with h | h
    · exact hb x h
    · rw [h]
      rcases getD_mem_or (base (shorts p known) r) 0 with q | q
      · have := hb _ q; omega
      · rw [q]; omega
  · exact hb
/-- its sum -/
theorem due_sum {p total : Int} {r : Nat} {known : List Int} (h : known = [] → total ≤ 0) : (due p total r known).sum = mx (total - known.sum) (base (shorts p known) r).sum := by
  unfold due top0
  have hm := mx_spec (total - known.sum) (base (shorts p known) r).sum
  by_cases c : total - known.sum - (base (shorts p known) r).sum > 0
  · rw [if_pos c, sum_set]
    · omega
    · rw [base_len, shorts_len]
      cases known with
      | nil =>
        have := h rfl
        have e : (([] : List Int)).sum = 0 := rfl
        have e2 : (base (shorts p []) r).sum = 0 := by
          have := base_len (shorts p []) r
          have z : base (shorts p []) r = [] := List.eq_nil_of_length_eq_zero this
          rw [z]; rfl
        omega
      | cons x l => simp
  · rw [if_neg c]
    omega
/-- base is at or below due, place by place -/
theorem base_le_due (p total : Int) (r : Nat) (known : List Int) (j : Nat) : (base (shorts p known) r).getD j 0 ≤ (due p total r known).getD j 0 := by
  unfold due top0
  split
  · by_cases hj : j = 0
    · subst hj
      by_cases hl : 0 < (base (shorts p known) r).length
      · rw [getD_set_eq _ _ _ hl]; omega
      · have : base (shorts p known) r = [] := List.eq_nil_of_length_eq_zero (by omega)
        rw [this]; exact Int.le_refl _
    · rw [getD_set_ne _ _ _ _ (Ne.symm hj)]; exact Int.le_refl _
  · exact Int.le_refl _
/-- adding place by place, as the law does -/
def plus (a b : List Int) (n : Nat) : List Int := (List.range n).map fun (d : Nat) => a.getD d 0 + b.getD d 0
theorem plus_len (a b : List Int) (n : Nat) : (plus a b n).length = n := by unfold plus; rw [List.length_map, List.length_range]
theorem plus_get (a b : List Int) (n j : Nat) (h : j < n) : (plus a b n).getD j 0 = a.getD j 0 + b.getD j 0 := by
  unfold plus
  rw [List.getD_eq_getElem?_getD, List.getElem?_map, List.getElem?_range h]
  rfl
theorem map_getD (a : List Int) : (List.range a.length).map (fun (d : Nat) => a.getD d 0) = a := by
  apply List.ext_getElem
  · rw [List.length_map, List.length_range]
  · intro i h1 h2
    rw [List.getElem_map, List.getElem_range, List.getD_eq_getElem?_getD, List.getElem?_eq_getElem h2]
    rfl
theorem sum_add (l : List Nat) (f g : Nat → Int) : (l.map fun d => f d + g d).sum = (l.map f).sum + (l.map g).sum := by
  induction l with
  | nil => rfl
  | cons x l ih => simp only [List.map_cons, List.sum_cons, ih]; omega
theorem plus_sum {a b : List Int} {n : Nat} (ha : a.length = n) (hb : b.length = n) : (plus a b n).sum = a.sum + b.sum := by
  unfold plus
  rw [sum_add]
  have h1 := map_getD a
  have h2 := map_getD b
  rw [ha] at h1
  rw [hb] at h2
  rw [h1, h2]
theorem plus_nn {a b : List Int} (ha : ∀ x ∈ a, 0 ≤ x) (hb : ∀ x ∈ b, 0 ≤ x) (n : Nat) : ∀ x ∈ plus a b n, 0 ≤ x := by
  intro x hx
  unfold plus at hx
  obtain ⟨d, _, rfl⟩ := List.mem_map.mp hx
  have h1 : 0 ≤ a.getD d 0 := by
    rcases getD_mem_or a d with q | q
    · exact ha _ q
    · rw [q]; exact Int.le_refl 0
  have h2 : 0 ≤ b.getD d 0 := by
    rcases getD_mem_or b d with q | q
    · exact hb _ q
    · rw [q]; exact Int.le_refl 0
  omega
/-- how many districts have enough -/
def many (p : Int) (c : List Int) : Nat := (c.filter fun x => decide (p ≤ x)).length
def enough (total p : Int) (r : Int) (c : List Int) : Prop := total ≤ c.sum ∧ r ≤ (many p c : Int)
instance (total p r : Int) (c : List Int) : Decidable (enough total p r c) := by unfold enough; infer_instance
/-- counted over the ranking -/
theorem many_rank (p : Int) (c sh : List Int) (h : c.length = sh.length) : many p c = (rank sh).countP fun q => decide (p ≤ c.getD q.2.toNat 0) := by
  unfold many
  rw [← List.countP_eq_length_filter, (rank_perm sh).countP_eq]
  unfold prs
  rw [List.countP_map]
  conv => lhs; rw [← map_getD c]
  rw [List.countP_map, h]
  congr 1
theorem countP_take {α : Type} (l : List α) (r : Nat) (g : α → Bool) (hr : r ≤ l.length) (h : ∀ x ∈ l.take r, g x = true) : r ≤ l.countP g := by
  have e : l.countP g = (l.take r).countP g + (l.drop r).countP g := by
    rw [← List.countP_append, List.take_append_drop]
  have e2 : (l.take r).countP g = (l.take r).length := List.countP_eq_length.mpr h
  rw [List.length_take] at e2
  omega
/-- with the further signatures the counts are enough -/
theorem after_enough {p total : Int} {r : Nat} {known : List Int} (hr : r ≤ known.length) (h : known = [] → total ≤ 0) : enough total p r (plus known (due p total r known) known.length) := by
  have hl := due_len p total r known
  refine ⟨?_, ?_⟩
  · rw [plus_sum rfl hl, due_sum h]
    have := mx_spec (total - known.sum) (base (shorts p known) r).sum
    omega
  · have hc : (plus known (due p total r known) known.length).length = (shorts p known).length := by rw [plus_len, shorts_len]
    rw [many_rank p _ _ hc]
    have := countP_take (rank (shorts p known)) r (fun q => decide (p ≤ (plus known (due p total r known) known.length).getD q.2.toNat 0)) (by rw [rank_len, shorts_len]; exact hr) fun q hq => by
      have hb := take_bound _ _ q hq
      rw [shorts_len] at hb
      apply decide_eq_true
      rw [plus_get _ _ _ _ hb]
      have h1 := base_in _ _ q hq
      have h2 := base_le_due p total r known q.2.toNat
      obtain ⟨d, hd, rfl⟩ := mem_rank (List.mem_of_mem_take hq)
      simp only [Int.toNat_natCast] at *
      have h3 : (shorts p known).getD d 0 = mx (p - known.getD d 0) 0 := by
        unfold shorts
        simp only [List.getD_eq_getElem?_getD, List.getElem?_map]
        rw [List.getElem?_eq_getElem hb]
        rfl
      have h4 := mx_spec (p - known.getD d 0) 0
      omega
    omega
/-- the greedy choice is least -/
theorem least : ∀ (l : List (Int × Int)) (r : Nat) (g : Int × Int → Bool), l.Pairwise lexle → (∀ q ∈ l, 0 ≤ q.1) → r ≤ l.countP g → ((l.take r).map (·.1)).sum ≤ ((l.filter g).map (·.1)).sum
  | [], r, g, _, _, _ => by simp
  | q :: l, 0, g, _, hn, _ => by
    rw [List.take_zero]
    show (0 : Int) ≤ _
    refine sum_nn fun x hx => ?_
    obtain ⟨z, hz, rfl⟩ := List.mem_map.mp hx
    exact hn z (List.mem_filter.mp hz).1
  | q :: l, r + 1, g, hs, hn, hc => by
    rw [List.pairwise_cons] at hs
    have hn' : ∀ z ∈ l, 0 ≤ z.1 := fun z hz => hn z (List.mem_cons_of_mem _ hz)
    by_cases hq : g q = true
    · rw [List.countP_cons_of_pos hq] at hc
      have ih := least l r g hs.2 hn' (by omega)
      rw [List.filter_cons_of_pos hq, List.take_succ_cons, List.map_cons, List.map_cons, List.sum_cons, List.sum_cons]
      omega
    · rw [List.countP_cons_of_neg hq] at hc
      have ih := least l (r + 1) g hs.2 hn' hc
      rw [List.filter_cons_of_neg hq, List.take_succ_cons, List.map_cons, List.sum_cons]
      have hl : r < l.length := by
        have := List.countP_le_length (p := g) (l := l)
        omega
      rw [List.take_add_one, List.getElem?_eq_getElem hl, Option.toList_some, List.map_append, List.sum_append] at ih
      have hx := hs.1 l[r] (List.getElem_mem hl)
      have : q.1 ≤ l[r].1 := by
        unfold lexle at hx
        omega
      simp only [List.map_cons, List.map_nil, List.sum_cons, List.sum_nil] at ih
      omega
theorem sum_le_filter (l : List (Int × Int)) (g : Int × Int → Bool) (v : Int × Int → Int) (hv : ∀ q ∈ l, 0 ≤ v q) (h : ∀ q ∈ l, g q = true → q.1 ≤ v q) : ((l.filter g).map (·.1)).sum ≤ (l.map v).sum := by
  induction l with
  | nil => exact Int.le_refl 0
  | cons q l ih =>
    have ih := ih (fun z hz => hv z (List.mem_cons_of_mem _ hz)) fun z hz => h z (List.mem_cons_of_mem _ hz)
    have h0 := hv q List.mem_cons_self
    rw [List.map_cons, List.sum_cons]
    by_cases hq : g q = true
    · have := h q List.mem_cons_self hq
      rw [List.filter_cons_of_pos hq, List.map_cons, List.sum_cons]
      omega
    · rw [List.filter_cons_of_neg hq]
      omega
theorem perm_sum {a b : List Int} (h : a.Perm b) : a.sum = b.sum := by
  induction h with
  | nil => rfl
  | cons x _ ih => rw [List.sum_cons, List.sum_cons, ih]
  | swap x y l => simp only [List.sum_cons]; omega
  | trans _ _ h1 h2 => exact h1.trans h2
theorem sum_rank (v sh : List Int) (h : v.length = sh.length) : ((rank sh).map fun q => v.getD q.2.toNat 0).sum = v.sum := by
  have e := (rank_perm sh).map fun q => v.getD q.2.toNat 0
  rw [perm_sum e]
  unfold prs
  rw [List.map_map, ← h]
  have e2 : ((fun q : Int × Int => v.getD q.2.toNat 0) ∘ fun (d : Nat) => (sh.getD d 0, (d : Int))) = fun d => v.getD d 0 := by
    funext d; simp
  rw [e2, map_getD]
/-- with fewer signatures, however they are spread, the counts are not enough -/
theorem fewer_not {p total : Int} {r : Nat} {known few : List Int} (hf : few.length = known.length) (hn : ∀ x ∈ few, 0 ≤ x) (h : known = [] → total ≤ 0) (hs : few.sum < (due p total r known).sum) :
    ¬ enough total p r (plus known few known.length) := by
  rintro ⟨h1, h2⟩
  rw [plus_sum rfl hf] at h1
  rw [due_sum h] at hs
  have hc : (plus known few known.length).length = (shorts p known).length := by rw [plus_len, shorts_len]
  rw [many_rank p _ _ hc] at h2
  have hm := mx_spec (total - known.sum) (base (shorts p known) r).sum
  rw [base_sum] at hs hm
  have hl := least (rank (shorts p known)) r (fun q => decide (p ≤ (plus known few known.length).getD q.2.toNat 0)) (rank_sorted _) (rank_nn (shorts_nn p known)) (by omega : r ≤ _)
  have hv := sum_le_filter (rank (shorts p known)) (fun q => decide (p ≤ (plus known few known.length).getD q.2.toNat 0)) (fun q => few.getD q.2.toNat 0) (fun q _ => by
    rcases getD_mem_or few q.2.toNat with z | z
    · exact hn _ z
    · show 0 ≤ few.getD q.2.toNat 0
      rw [z]; exact Int.le_refl 0) fun q hq hg => by
    have hg := of_decide_eq_true hg
    obtain ⟨d, hd, rfl⟩ := mem_rank hq
    simp only [Int.toNat_natCast] at *
    rw [shorts_len] at hd
    rw [plus_get _ _ _ _ hd] at hg
    have h3 : (shorts p known).getD d 0 = mx (p - known.getD d 0) 0 := by
      unfold shorts
      simp only [List.getD_eq_getElem?_getD, List.getElem?_map]
      rw [List.getElem?_eq_getElem hd]
      rfl
    have h4 := mx_spec (p - known.getD d 0) 0
    have h5 : 0 ≤ few.getD d 0 := by
      rcases getD_mem_or few d with z | z
      · exact hn _ z
      · rw [z]; exact Int.le_refl 0
    show (shorts p known).getD d 0 ≤ few.getD d 0
    omega
  rw [sum_rank few _ (by rw [shorts_len]; exact hf)] at hv
  omega
end K24
/-! The petition's signatures: plain lists. -/
namespace K24
/-- the signatures of district d, n of them -/
def blk (d n : Nat) : List (Int × Int) := (List.range n).map fun (k : Nat) => ((d : Int), 16 * (k : Int) + (d : Int))
/-- of the first i districts -/
def sgs (c : List Int) (i : Nat) : List (Int × Int) := (List.range i).flatMap fun (d : Nat) => blk d (c.getD d 0).toNat
theorem blk_succ (d n : Nat) : blk d (n + 1) = blk d n ++ [((d : Int), 16 * (n : Int) + (d : Int))] := by
  unfold blk
  rw [List.range_succ, List.map_append]
  rfl
theorem blk_len (d n : Nat) : (blk d n).length = n := by unfold blk; rw [List.length_map, List.length_range]
theorem sgs_succ (c : List Int) (i : Nat) : sgs c (i + 1) = sgs c i ++ blk i (c.getD i 0).toNat := by
  unfold sgs
  rw [List.range_succ, List.flatMap_append]
  simp
theorem take_sum_succ (c : List Int) (i : Nat) : (c.take (i + 1)).sum = (c.take i).sum + c.getD i 0 := by
  rw [List.take_add_one, List.sum_append, List.getD_eq_getElem?_getD]
  cases c[i]? with
  | none => rfl
  | some x => simp
theorem getD_nn {c : List Int} (h : ∀ x ∈ c, 0 ≤ x) (j : Nat) : 0 ≤ c.getD j 0 := by
  rcases getD_mem_or c j with q | q
  · exact h _ q
  · rw [q]; exact Int.le_refl 0
theorem sgs_len {c : List Int} (h : ∀ x ∈ c, 0 ≤ x) : ∀ i : Nat, ((sgs c i).length : Int) = (c.take i).sum
  | 0 => by simp [sgs]
  | i + 1 => by
    have ih := sgs_len h i
    have h0 := getD_nn h i
    rw [sgs_succ, List.length_append, blk_len, take_sum_succ, ← ih]
    omega
/-- one more in its district -/
def bump (f : List Int) (p : Int × Int) : List Int := f.set p.1.toNat (f.getD p.1.toNat 0 + 1)
theorem bump_len (l : List (Int × Int)) : ∀ f : List Int, (l.foldl bump f).length = f.length := by
  induction l with
  | nil => intro f; rfl
  | cons p l ih => intro f; rw [List.foldl_cons, ih]; unfold bump; rw [List.length_set]
theorem set_self (f : List Int) (d : Nat) : f.set d (f.getD d 0) = f := by
  apply List.ext_getElem?
  intro i
  by_cases h : d = i
  · subst h
    by_cases hl : d < f.length
    · rw [List.getElem?_set_self hl, List.getD_eq_getElem?_getD, List.getElem?_eq_getElem hl]
      rfl
    · rw [List.getElem?_eq_none (by rw [List.length_set]; omega), List.getElem?_eq_none (by omega)]
  · rw [List.getElem?_set_ne h]
theorem bump_blk (f : List Int) (d : Nat) (hd : d < f.length) : ∀ n : Nat, (blk d n).foldl bump f = f.set d (f.getD d 0 + (n : Int))
  | 0 => by
    have e : blk d 0 = [] := rfl
    rw [e, List.foldl_nil]
    have := set_self f d
    simp only [Int.natCast_zero, Int.add_zero]
    exact this.symm
  | n + 1 => by
    rw [blk_succ, List.foldl_append, bump_blk f d hd n, List.foldl_cons, List.foldl_nil]
    unfold bump
    simp only [Int.toNat_natCast]
    rw [getD_set_eq _ _ _ hd, List.set_set]
    congr 1
    omega
theorem bump_sgs {c : List Int} (h : ∀ x ∈ c, 0 ≤ x) : ∀ i : Nat, i ≤ c.length → (sgs c i).foldl bump (List.replicate c.length 0) = c.take i ++ List.replicate (c.length - i) 0
  | 0, _ => by simp [sgs]
  | i + 1, hi => by
    have ih := bump_sgs h i (by omega)
    have hl : i < c.length := by omega
    have hlen : (c.take i).length = i := by rw [List.length_take]; omega
    rw [sgs_succ, List.foldl_append, ih, bump_blk _ _ (by rw [List.length_append, List.length_take, List.length_replicate]; omega)]
    have e0 : (c.take i ++ List.replicate (c.length - i) (0 : Int)).getD i 0 = 0 := by
      rw [List.getD_eq_getElem?_getD, List.getElem?_append_right (by omega), List.getElem?_replicate]
      split <;> rfl
    have h0 := getD_nn h i
    rw [e0, Int.zero_add, Int.toNat_of_nonneg h0, List.set_append_right _ _ (by omega), hlen, Nat.sub_self,
      show c.length - i = (c.length - (i + 1)) + 1 by omega, List.replicate_succ, List.set_cons_zero, List.take_add_one, List.getElem?_eq_getElem hl, List.append_assoc]
    congr 1
    rw [List.getD_eq_getElem?_getD, List.getElem?_eq_getElem hl]
    rfl
theorem bump_all {c : List Int} (h : ∀ x ∈ c, 0 ≤ x) : (sgs c c.length).foldl bump (List.replicate c.length 0) = c := by
  rw [bump_sgs h _ (Nat.le_refl _), List.take_length, Nat.sub_self]
  simp
theorem sgs_all_len {c : List Int} (h : ∀ x ∈ c, 0 ≤ x) : ((sgs c c.length).length : Int) = c.sum := by
  rw [sgs_len h, List.take_length]
theorem mem_blk {d n : Nat} {p : Int × Int} (h : p ∈ blk d n) : p.1 = (d : Int) ∧ ∃ k : Nat, k < n ∧ p.2 = 16 * (k : Int) + (d : Int) := by
  unfold blk at h
  obtain ⟨k, hk, rfl⟩ := List.mem_map.mp h
  exact ⟨rfl, k, List.mem_range.mp hk, rfl⟩
theorem mem_sgs {c : List Int} {i : Nat} {p : Int × Int} (h : p ∈ sgs c i) : ∃ d : Nat, d < i ∧ p.1 = (d : Int) := by
  unfold sgs at h
  obtain ⟨d, hd, hp⟩ := List.mem_flatMap.mp h
  exact ⟨d, List.mem_range.mp hd, (mem_blk hp).1⟩
theorem blk_nodup (d n : Nat) : (blk d n).Nodup := by
  unfold blk
  rw [List.nodup_iff_pairwise_ne, List.pairwise_map]
  refine List.Pairwise.imp ?_ List.nodup_range
  intro a b hab e
  have := congrArg Prod.snd e
  simp only at this
  omega
theorem sgs_nodup (c : List Int) : ∀ i : Nat, (sgs c i).Nodup
  | 0 => List.nodup_nil
  | i + 1 => by
    rw [sgs_succ, List.nodup_append]
    refine ⟨sgs_nodup c i, blk_nodup _ _, fun a ha b hb e => ?_⟩
    obtain ⟨d, hd, h1⟩ := mem_sgs ha
    have h2 := (mem_blk hb).1
    rw [← e, h1] at h2
    omega
/-- distinct items all of which stand in another list -/
theorem nodup_len {α : Type} [DecidableEq α] : ∀ (l m : List α), l.Nodup → (∀ x ∈ l, x ∈ m) → l.length ≤ m.length
  | [], _, _, _ => Nat.zero_le _
  | x :: l, m, hn, h => by
    rw [List.nodup_cons] at hn
    have hx := h x List.mem_cons_self
    have ih := nodup_len l (m.erase x) hn.2 fun y hy => (List.mem_erase_of_ne (fun e => hn.1 (by rw [← e]; exact hy))).mpr (h y (List.mem_cons_of_mem _ hy))
    have e := List.length_erase_of_mem hx
    have := List.length_pos_of_mem hx
    rw [List.length_cons]
    omega
end K24
/-! The text by places, the built-ins' names, heaps, the tape. -/
namespace K24
open PySem PySem.Spec PyProof.Rows L2
abbrev PW : Program := PySem.Challenge.pw_gazette_k24_whole_signatures_needed
def stAt (i : Nat) : Stmt := PW.main.body.getD i (.Pass ⟨0, 0, 0, 0⟩)
abbrev sQual : Stmt := stAt 1
abbrev sCnt : Stmt := stAt 2
abbrev sFur : Stmt := stAt 3
abbrev sNeed : Stmt := stAt 4
abbrev sTape : Stmt := stAt 6
abbrev sDraw : Stmt := stAt 7
abbrev sSame : Stmt := stAt 8
abbrev sPet : Stmt := stAt 9
abbrev sEno : Stmt := stAt 10
abbrev sFuL : Stmt := stAt 11
abbrev sSgd : Stmt := stAt 12
abbrev sFew : Stmt := stAt 13
abbrev sRig : Stmt := stAt 14
abbrev sLaw : Stmt := stAt 15
/-- no name of the module hides a built-in that is asked -/
structure Free (mg : Str → Option Value) : Prop where
  len : mg "len" = none
  abs : mg "abs" = none
  int : mg "int" = none
  max : mg "max" = none
  min : mg "min" = none
  sum : mg "sum" = none
  range : mg "range" = none
  list : mg "list" = none
  tuple : mg "tuple" = none
  set : mg "set" = none
  sorted : mg "sorted" = none
  isin : mg "isinstance" = none
  bool : mg "bool" = none
  str : mg "str" = none
/-! ### heaps -/
/-- all but the object at t stays -/
def But (t : Addr) (H G : Hp) : Prop := ∀ b o, b ≠ t → H b = some o → G b = some o
theorem But.refl (t : Addr) (H : Hp) : But t H H := fun _ _ _ h => h
theorem But.trans {t : Addr} {H G J : Hp} (a : But t H G) (b : But t G J) : But t H J := fun c o n h => b c o n (a c o n h)
theorem But.of {t : Addr} {H G : Hp} (a : Same H G) : But t H G := fun c o _ h => a c o h
theorem But.upd {t : Addr} {H G : Hp} {o : HO} (a : But t H G) : But t H (upd G t o) := fun c u n h => by
  rw [upd_ne n]
  exact a c u n h
theorem same_new {H G : Hp} {p : Addr} {o : HO} (a : Same H G) (n : G p = none) : Same H (upd G p o) := fun c u h => by
  have k := a c u h
  rw [upd_ne (ne_of_none k n)]
  exact k
theorem but_new {t : Addr} {H G : Hp} {p : Addr} {o : HO} (a : But t H G) (n : G p = none) : But t H (upd G p o) := fun c u h k => by
  have q := a c u h k
  rw [upd_ne (ne_of_none q n)]
  exact q
/-- an object that was new at H is written -/
theorem same_put {H G : Hp} {p : Addr} {o : HO} (a : Same H G) (n : H p = none) : Same H (upd G p o) := fun c u h => by
  rw [upd_ne (ne_of_none h n)]
  exact a c u h
theorem but_put {t : Addr} {H G : Hp} {p : Addr} {o : HO} (a : But t H G) (n : H p = none) : But t H (upd G p o) := fun c u h k => by
  rw [upd_ne (ne_of_none k n)]
  exact a c u h k
theorem But.free {t : Addr} {H G : Hp} (e : But t H G) {l : Addr} (n : l ≠ t) (h : G l = none) : H l = none := by
  cases q : H l with
  | none => rfl
  | some o =>
    rw [e l o n q] at h
    cases h
/-! ### the tape -/
def tapeO (l : Addr) (pl big st : Int) : HO := .lst [.ref l, .int pl, .int big, .int st]
structure TapeAt (H : Hp) (t l : Addr) (ns : List Int) (pl big st : Int) : Prop where
  at_ : H t = some (tapeO l pl big st)
  own : H l = some (.lst (ns.map V.int))
  p0 : 0 ≤ pl
  b0 : 0 ≤ big
  s0 : 0 ≤ st
  s1 : st < 2147483647
def Tape (H : Hp) (t l : Addr) (ns : List Int) : Prop := ∃ (pl big st : Int), TapeAt H t l ns pl big st
theorem TapeAt.ne {H : Hp} {t l : Addr} {ns : List Int} {pl big st : Int} (T : TapeAt H t l ns pl big st) : l ≠ t := by
  refine ne_of T.own T.at_ fun z => ?_
  injection z with z
  cases ns with
  | nil => cases z
  | cons x r => rw [List.map_cons] at z; injection z with z _; cases z
theorem TapeAt.put {H : Hp} {t l : Addr} {ns : List Int} {pl big st : Int} (T : TapeAt H t l ns pl big st) {pl' big' st' : Int} (h1 : 0 ≤ pl') (h2 : 0 ≤ big') (h3 : 0 ≤ st') (h4 : st' < 2147483647) :
    TapeAt (upd H t (tapeO l pl' big' st')) t l ns pl' big' st' :=
  ⟨upd_same, by rw [upd_ne T.ne]; exact T.own, h1, h2, h3, h4⟩
theorem TapeAt.same {H G : Hp} {t l : Addr} {ns : List Int} {pl big st : Int} (T : TapeAt H t l ns pl big st) (s : Same H G) : TapeAt G t l ns pl big st :=
  ⟨s _ _ T.at_, s _ _ T.own, T.p0, T.b0, T.s0, T.s1⟩
theorem Tape.same {H G : Hp} {t l : Addr} {ns : List Int} (T : Tape H t l ns) (s : Same H G) : Tape G t l ns := by
  obtain ⟨pl, big, st, T⟩ := T
  exact ⟨pl, big, st, T.same s⟩
theorem Tape.lst {H : Hp} {t l : Addr} {ns : List Int} (T : Tape H t l ns) : ∃ xs, H t = some (.lst xs) := by
  obtain ⟨pl, big, st, T⟩ := T
  exact ⟨_, T.at_⟩
theorem Tape.own {H : Hp} {t l : Addr} {ns : List Int} (T : Tape H t l ns) : H l = some (.lst (ns.map V.int)) := by
  obtain ⟨pl, big, st, T⟩ := T
  exact T.own
/-- an object beside the tape is written -/
theorem Tape.put {H : Hp} {t l p : Addr} {ns : List Int} {o : HO} (T : Tape H t l ns) (h1 : p ≠ t) (h2 : p ≠ l) : Tape (upd H p o) t l ns := by
  obtain ⟨pl, big, st, T⟩ := T
  exact ⟨pl, big, st, by rw [upd_ne h1.symm]; exact T.at_, by rw [upd_ne h2.symm]; exact T.own, T.p0, T.b0, T.s0, T.s1⟩
/-- what is new at the tape's heap is beside it -/
theorem Tape.apart {H : Hp} {t l p : Addr} {ns : List Int} (T : Tape H t l ns) (n : H p = none) : p ≠ t ∧ p ≠ l := by
  obtain ⟨xs, h1⟩ := T.lst
  exact ⟨(ne_of_none h1 n).symm, (ne_of_none T.own n).symm⟩
theorem scTape : FnScope ["_law_script", "_law_total", "_law_cell"] ["_law_script"] (defScope sTape) := ⟨rfl, rfl, rfl, by decide +kernel, rfl, by decide +kernel, by decide +kernel⟩
theorem scDraw : FnScope ["_law_tape_here", "_law_many", "_law_place", "_law_number"] ["_law_tape_here", "_law_many"] (defScope sDraw) := ⟨rfl, rfl, rfl, by decide +kernel, rfl, by decide +kernel, by decide +kernel⟩
section
variable {P : Program} {w : World} {K : PySem.W.Frag} {mg : Str → Option Value} {base : Heap}
def spTape (K : PySem.W.Frag) : Sp := fun vs H Q _ => ∃ (a : Addr) (ns : List Int), vs = [.ref a] ∧ SqL K H a (ns.map V.int) ∧ ns.length ≤ 63 ∧ ∀ G t l, Same H G → Tape G t l ns → Q (.ref t) G
theorem ok_tape {f : Addr} {fd : FuncData} (F : Fun K "_law_tape" "_law_tape" sTape f fd) (T : Free mg) : FnOk P w K mg base CX0 1 f fd ["_law_script"] (spTape K) := by
  refine F.ok scTape (fun vs H Q E h => ?_) (fun cdv A outer s H vs Q E hr h => ?_)
  · obtain ⟨a, ns, rfl, _⟩ := h
    rfl
  · obtain ⟨a, ns, rfl, hS, hlen, q⟩ := h
    refine ⟨_, pss_cons (ps_set (i := 1) scTape.nd rfl (.inl rfl) pe_int)
      (pss_cons (ps_for PassesOwn.never rfl (pi_list (pv 0)) (pg_name (i := 2) scTape.nd rfl (.inl rfl))
        (pss_one (ps_set (i := 1) scTape.nd rfl (.inl rfl) (pe_op op_mod (pe_callTy call_int1 (by rfl) T.int (by decide +kernel) (pa_cons (pe_op op_add (pe_op op_mul (pv 1) pe_int)
          (pe_callB call_abs (by rfl) T.abs (by decide +kernel) (pa_cons (pe_callTy call_int1 (by rfl) T.int (by decide +kernel) (pa_cons (pv 2) pa_nil)) pa_nil))) pa_nil)) pe_int))))
      (pss_one (ps_ret (pe_lst (pa_cons (pe_callTy call_list_of (by rfl) T.list (by decide +kernel) (pa_cons (pv 0) pa_nil)) (pa_cons pe_int (pa_cons pe_int (pa_cons (pv 1) pa_nil)))))))), ?_⟩
    refine ⟨.ref a, rfl, a, rfl, ⟨_, hS⟩, for_list (xs := ns.map V.int) (fun _ σ G => G = H ∧ ∃ (x : Option V) (v : Int), σ = [some (.ref a), some (.int v), x] ∧ 0 ≤ v ∧ v < 2147483647)
      ⟨rfl, _, 7, rfl, by decide, by decide⟩ (fun i σ G _ h => by rw [h.1]; exact hS) (fun i x σ G hx h => ?_) (fun σ G h => ?_)⟩
    · obtain ⟨rfl, y, v, rfl, h0, h1⟩ := h
      rw [List.getElem?_map] at hx
      obtain ⟨n, _, rfl⟩ := Option.map_eq_some_iff.mp hx
      refine ⟨.int v, rfl, v, 31, rfl, rfl, .inl ⟨by omega, by omega⟩, .int n, rfl, .inl ⟨n, rfl, n, rfl, _, _, rfl, rfl, .inl ⟨_, rfl, _, _, rfl, rfl, (by show (0 : Int) < 2147483647; decide), rfl, _, _, rfl, ?_, ?_⟩⟩⟩
      · exact Int.emod_nonneg _ (by decide)
      · exact Int.emod_lt_of_pos _ (by decide)
    · obtain ⟨rfl, y, v, rfl, h0, h1⟩ := h
      refine ⟨.ref a, rfl, a, _, rfl, .inl hS, fun l nl => ⟨.int v, rfl, by show 4 ≤ sizeLine; decide, fun t nt => ?_⟩⟩
      have s1 : Same G (upd G l (.lst (ns.map V.int))) := same_new (Same.refl _) nl
      refine q _ _ l (same_new s1 nt) ⟨0, 0, v, upd_same, ?_, by decide, by decide, h0, h1⟩
      rw [upd_ne (ne_of_none upd_same nt)]
      exact upd_same
/-- a draw: some number below max(many, 1); the tape alone is changed -/
def spDraw : Sp := fun vs H Q _ => ∃ (t l : Addr) (ns : List Int) (m : Int), vs = [.ref t, .int m] ∧ Tape H t l ns ∧ m < 1000000 ∧ ∀ G k, But t H G → Tape G t l ns → 0 ≤ k → k < mx m 1 → Q (.int k) G
theorem ok_draw {f : Addr} {fd : FuncData} (F : Fun K "_law_draw" "_law_draw" sDraw f fd) (T : Free mg) : FnOk P w K mg base CX0 1 f fd ["_law_tape_here", "_law_many"] spDraw := by
  refine F.ok scDraw (fun vs H Q E h => ?_) (fun cdv A outer s H vs Q E hr h => ?_)
  · obtain ⟨t, l, ns, m, rfl, _⟩ := h
    rfl
  · obtain ⟨t, l, ns, m, rfl, ⟨pl, big, st, TA⟩, hm, q⟩ := h
    refine ⟨_, C8.pss_cut (ps_if (pt_cmpR op_eq (pe_ix ix_list (pv 0) pe_int (fun _ _ => rfl)) pe_int (nomark _))
        (pss_cons (ps_set (i := 2) scDraw.nd rfl (.inl rfl) (pe_ix ix_list (pv 0) pe_int (fun _ _ => rfl)))
        (pss_cons (ps_set (i := 3) scDraw.nd rfl (.inl rfl) pe_int)
        (C8.pss_cut (ps_if (pt_cmpR op_lt (pv 2) (pe_callB call_len_seq (by rfl) T.len PySem.boot_len (pa_cons (pe_ix ix_list (pv 0) pe_int (fun _ _ => rfl)) pa_nil)) (nomark _))
            (pss_one (ps_set (i := 3) scDraw.nd rfl (.inl rfl) (pe_callB call_abs (by rfl) T.abs (by decide +kernel) (pa_cons (pe_callTy call_int1 (by rfl) T.int (by decide +kernel)
              (pa_cons (pe_ix ix_list (pe_ix ix_list (pv 0) pe_int (fun _ _ => rfl)) (pv 2) (fun _ _ => rfl)) pa_nil)) pa_nil))))
            (pss_cons (ps_asg (pe_op op_mod (pe_callTy call_int1 (by rfl) T.int (by decide +kernel) (pa_cons (pe_op op_add (pe_op op_add (pe_op op_mul (pe_ix ix_list (pv 0) pe_int (fun _ _ => rfl)) pe_int) (pv 2)) pe_int) pa_nil)) pe_int)
                (pg_sub (pv 0) pe_int set_list))
              (pss_one (ps_set (i := 3) scDraw.nd rfl (.inl rfl) (pe_ix ix_list (pv 0) pe_int (fun _ _ => rfl))))))
        (pss_cons (ps_asg (pe_op op_add (pv 2) pe_int) (pg_sub (pv 0) pe_int set_list))
        (pss_cons (ps_if (pt_cmpR op_lt (pv 3) (pe_op op_pow pe_int pe_int) (nomark _))
            (pss_cons (ps_set (i := 3) scDraw.nd rfl (.inl rfl) (pe_op op_mod (pe_callTy call_int1 (by rfl) T.int (by decide +kernel) (pa_cons (pe_op op_add (pe_op op_add (pe_op op_mul (pv 3) pe_int) (pe_op op_mul (pv 2) pe_int)) pe_int) pa_nil)) pe_int))
            (pss_cons (ps_set (i := 3) scDraw.nd rfl (.inl rfl) (pe_op op_mod (pe_callTy call_int1 (by rfl) T.int (by decide +kernel) (pa_cons (pe_op op_mul (pv 3) pe_int) pa_nil)) pe_int))
            (pss_one (ps_ret (pe_op op_mod (pe_callTy call_int1 (by rfl) T.int (by decide +kernel) (pa_cons (pv 3) pa_nil)) (pe_callB (call_max2 rfl) (by rfl) T.max (by decide +kernel) (pa_cons (pv 1) (pa_cons pe_int pa_nil))))))))
            pss_nil)
        (pss_one (ps_asg (pv 3) (pg_sub (pv 0) pe_int set_list))))))))
        pss_nil)
      (pss_cons (ps_set (i := 3) scDraw.nd rfl (.inl rfl) (pe_ix ix_list (pv 0) pe_int (fun _ _ => rfl)))
      (pss_cons (ps_asg (pe_op op_fdivN (pv 3) (pe_callB (call_max2 rfl) (by rfl) T.max (by decide +kernel) (pa_cons (pv 1) (pa_cons pe_int pa_nil)))) (pg_sub (pv 0) pe_int set_list))
      (pss_one (ps_ret (pe_op op_mod (pe_callTy call_int1 (by rfl) T.int (by decide +kernel) (pa_cons (pv 3) pa_nil)) (pe_callB (call_max2 rfl) (by rfl) T.max (by decide +kernel) (pa_cons (pv 1) (pa_cons pe_int pa_nil)))))))), ?_⟩
    have m1 := mx_spec m 1
    have m2 := mx_spec m 2
    refine ⟨fun σ' G => ∃ (a b : Option V) (pl big st : Int), σ' = [some (.ref t), some (.int m), a, b] ∧ But t H G ∧ TapeAt G t l ns pl big st, ?_, ?_⟩
    · refine ⟨.ref t, rfl, t, _, 2, .int big, rfl, rfl, .inl (.inl TA.at_), atI_nat (j := 2) rfl, rfl, _, rfl, ite2 (fun e => ?_) (fun e => ?_)⟩
      · -- the number is drawn from the script, or made
        refine ⟨.ref t, rfl, t, _, 1, .int pl, rfl, rfl, .inl (.inl TA.at_), atI_nat (j := 1) rfl, ?_⟩
        refine ⟨fun σ' G => ∃ (n : Int) (st : Int), σ' = [some (.ref t), some (.int m), some (.int pl), some (.int n)] ∧ But t H G ∧ TapeAt G t l ns pl big st ∧ 0 ≤ n, ?_, ?_⟩
        · refine ⟨.int pl, rfl, .ref t, rfl, t, _, 0, .ref l, rfl, rfl, .inl (.inl TA.at_), atI_nat (j := 0) rfl, l, _, rfl, .inl (.inl (.inl TA.own)), pl, _, rfl, rfl, _, rfl, ite2 (fun e2 => ?_) (fun e2 => ?_)⟩
          · have hp := of_decide_eq_true e2
            rw [List.length_map] at hp
            have p0 := TA.p0
            have hx : pl.toNat < ns.length := by omega
            have g : (ns.map V.int)[pl.toNat]? = some (.int ns[pl.toNat]) := by
              rw [List.getElem?_map, List.getElem?_eq_getElem hx]
              rfl
            have g2 := atI_nat g
            rw [Int.toNat_of_nonneg p0] at g2
            refine ⟨.ref t, rfl, t, _, 0, .ref l, rfl, rfl, .inl (.inl TA.at_), atI_nat (j := 0) rfl, .int pl, rfl, l, _, pl, .int ns[pl.toNat], rfl, rfl, .inl (.inl TA.own), g2, .inl ⟨_, rfl, _, rfl, ?_⟩⟩
            refine ⟨_, st, rfl, But.refl _ _, TA, ?_⟩
            split <;> omega
          · refine ⟨.ref t, rfl, t, _, 3, .int st, rfl, rfl, .inl (.inl TA.at_), atI_nat (j := 3) rfl, st, 48271, rfl, rfl, .inr ⟨by decide, by decide⟩, .int pl, rfl, _, pl, rfl, rfl, _, 1, rfl, rfl, .inl ⟨_, rfl, _, 2147483647, rfl, rfl, (by show (0 : Int) < 2147483647; decide), ?_⟩⟩
            refine ⟨.ref t, rfl, t, _, 3, 3, rfl, rfl, TA.at_, rfl, ?_⟩
            have hm0 := Int.emod_nonneg (st * 48271 + pl + 1) (show (2147483647 : Int) ≠ 0 by decide)
            have hm1 := Int.emod_lt_of_pos (st * 48271 + pl + 1) (show (0 : Int) < 2147483647 by decide)
            have TB := TA.put TA.p0 TA.b0 hm0 hm1
            exact ⟨.ref t, rfl, t, _, 3, _, rfl, rfl, .inl (.inl TB.at_), atI_nat (j := 3) rfl, _, _, rfl, (But.refl t H).upd, TB, hm0⟩
        · rintro σ' G ⟨n, st, rfl, hB, TG, n0⟩
          refine ⟨.int pl, rfl, pl, 1, rfl, rfl, .ref t, rfl, t, _, 1, 1, rfl, rfl, TG.at_, rfl, ?_⟩
          have p0 := TG.p0
          have TB := TG.put (pl' := pl + 1) (by omega) TG.b0 TG.s0 TG.s1
          refine ⟨.int n, rfl, 10, 18, rfl, rfl, ⟨by decide, by decide, by decide⟩, n, _, rfl, rfl, _, rfl, ite2 (fun e2 => ?_) (fun e2 => ?_)⟩
          · have e3 := of_decide_eq_true e2
            refine ⟨.int n, rfl, n, 48271, rfl, rfl, .inr ⟨by decide, by decide⟩, .int pl, rfl, pl, 69621, rfl, rfl, .inr ⟨by decide, by decide⟩, _, _, rfl, rfl, _, 5, rfl, rfl, .inl ⟨_, rfl, _, 2147483647, rfl, rfl, (by show (0 : Int) < 2147483647; decide), ?_⟩⟩
            refine ⟨_, rfl, _, 69621, rfl, rfl, .inr ⟨by decide, by decide⟩, .inl ⟨_, rfl, _, 2147483629, rfl, rfl, (by show (0 : Int) < 2147483629; decide), ?_⟩⟩
            refine ⟨_, rfl, .inl ⟨_, rfl, .int m, rfl, m, 1, rfl, _, mx m 1, rfl, rfl, (by show 0 < mx m 1; omega), ?_⟩⟩
            exact q _ _ hB.upd ⟨_, big, st, TB⟩ (Int.emod_nonneg _ (by omega)) (Int.emod_lt_of_pos _ (by omega))
          · refine ⟨.int n, rfl, .ref t, rfl, t, _, 2, 2, rfl, rfl, TB.at_, rfl, ?_⟩
            have TC := TB.put (big' := n) TB.p0 n0 TB.s0 TB.s1
            exact ⟨_, _, pl + 1, n, st, rfl, hB.upd.upd, TC⟩
      · exact ⟨_, _, pl, big, st, rfl, But.refl _ _, TA⟩
    · rintro σ' G ⟨a, b, pl, big, st, rfl, hB, TG⟩
      refine ⟨.ref t, rfl, t, _, 2, .int big, rfl, rfl, .inl (.inl TG.at_), atI_nat (j := 2) rfl, ?_⟩
      have b0 := TG.b0
      refine ⟨.int big, rfl, .int m, rfl, m, 2, rfl, big, mx m 2, rfl, rfl, ⟨by omega, by omega⟩, .ref t, rfl, t, _, 2, 2, rfl, rfl, TG.at_, rfl, ?_⟩
      have hd : 0 ≤ big.fdiv (mx m 2) := Int.fdiv_nonneg b0 (by omega)
      have TB := TG.put TG.p0 hd TG.s0 TG.s1
      refine ⟨.int big, rfl, .inl ⟨_, rfl, .int m, rfl, m, 1, rfl, big, mx m 1, rfl, rfl, (by show 0 < mx m 1; omega), ?_⟩⟩
      exact q _ _ hB.upd ⟨_, _, _, TB⟩ (Int.emod_nonneg _ (by omega)) (Int.emod_lt_of_pos _ (by omega))
end
end K24
/-! The law's own equality. -/
namespace K24
open PySem PySem.Spec PyProof.Rows L2
theorem scSame : FnScope ["_law_actual", "_law_expected", "_law_k"] ["_law_actual", "_law_expected"] (defScope sSame) := ⟨rfl, rfl, rfl, by decide +kernel, rfl, by decide +kernel, by decide +kernel⟩
section
variable {P : Program} {w : World} {K : PySem.W.Frag} {mg : Str → Option Value} {base : Heap}
/-- two equal whole numbers, two equal truth values -/
def spSame0 : Sp := fun vs H Q _ => ∃ x : V, vs = [x, x] ∧ ((∃ i, x = .int i) ∨ ∃ b, x = .bl b) ∧ Q (.bl true) H
/-- two equal tuples of whole numbers -/
def spSame1 : Sp := fun vs H Q _ => ∃ (a b : Addr) (ns : List Int), vs = [.ref a, .ref b] ∧ H a = some (.tup (ns.map V.int)) ∧ H b = some (.tup (ns.map V.int)) ∧ ns.length ≤ 1000 ∧ Q (.bl true) H
theorem ok_same0 {f : Addr} {fd : FuncData} (F : Fun K "_law_same" "_law_same" sSame f fd) (T : Free mg) : FnOk P w K mg base CX0 1 f fd ["_law_actual", "_law_expected"] spSame0 := by
  refine F.ok scSame (fun vs H Q E h => ?_) (fun cdv A outer s H vs Q E hr h => ?_)
  · obtain ⟨x, rfl, _⟩ := h
    rfl
  · obtain ⟨x, rfl, hx, q⟩ := h
    refine ⟨_, pss_cons (ps_if (pt_cmp (pc_isN (pv 1))) (pss_one (ps_ret (pe_cmp (pc_isN (pv 0))))) pss_nil)
      (pss_cons (ps_if (pt_val (pe_callB call_isi (by rfl) T.isin (by decide +kernel) (pa_cons (pv 1) (pa_cons (pe_bltn (v := .ty "tuple") (by rfl) T.tuple (by decide +kernel) rfl) pa_nil)))) pss_never pss_nil)
      (pss_cons (ps_if (pt_val (pe_callB call_isi (by rfl) T.isin (by decide +kernel) (pa_cons (pv 1) (pa_cons (pe_bltn (v := .ty "bool") (by rfl) T.bool (by decide +kernel) rfl) pa_nil))))
        (pss_one (ps_ret (pe_and (pe_callB call_isi (by rfl) T.isin (by decide +kernel) (pa_cons (pv 0) (pa_cons (pe_bltn (v := .ty "bool") (by rfl) T.bool (by decide +kernel) rfl) pa_nil))) (pe_one (pe_cmpR op_eq (pv 0) (pv 1) (nomark _)))))) pss_nil)
      (pss_cons (ps_if (pt_val (pe_callB call_isi (by rfl) T.isin (by decide +kernel) (pa_cons (pv 1) (pa_cons (pe_bltn (v := .ty "str") (by rfl) T.str (by decide +kernel) rfl) pa_nil)))) pss_never pss_nil)
      (pss_one (ps_ret (pe_and (pe_callB call_isi (by rfl) T.isin (by decide +kernel) (pa_cons (pv 0) (pa_cons (pe_bltn (v := .ty "int") (by rfl) T.int (by decide +kernel) rfl) pa_nil)))
        (pe_and (pe_not (pe_callB call_isi (by rfl) T.isin (by decide +kernel) (pa_cons (pv 0) (pa_cons (pe_bltn (v := .ty "bool") (by rfl) T.bool (by decide +kernel) rfl) pa_nil))))
          (pe_one (pe_cmpR op_eq (pv 0) (pv 1) (nomark _)))))))))), ?_⟩
    rcases hx with ⟨i, rfl⟩ | ⟨b, rfl⟩
    · refine ⟨_, rfl, _, rfl, iteF ?_⟩
      refine ⟨_, rfl, _, _, _, _, false, rfl, .ty "tuple", .base (.int i), kit_ty (by decide +kernel), _, rfl, iteF ?_⟩
      refine ⟨_, rfl, _, _, _, _, false, rfl, .ty "bool", .base (.int i), kit_ty (by decide +kernel), _, rfl, iteF ?_⟩
      refine ⟨_, rfl, _, _, _, _, false, rfl, .ty "str", .base (.int i), kit_ty (by decide +kernel), _, rfl, iteF ?_⟩
      refine ⟨_, rfl, _, _, _, _, true, rfl, .ty "int", .base (.int i), kit_ty (by decide +kernel), _, rfl, iteT ?_⟩
      refine ⟨_, rfl, _, _, _, _, false, rfl, .ty "bool", .base (.int i), kit_ty (by decide +kernel), _, rfl, _, rfl, iteT ?_⟩
      refine ⟨_, rfl, _, rfl, rfl, ?_⟩
      rw [decide_eq_true rfl]
      exact q
    · refine ⟨_, rfl, _, rfl, iteF ?_⟩
      refine ⟨_, rfl, _, _, _, _, false, rfl, .ty "tuple", .base (.bl b), kit_ty (by decide +kernel), _, rfl, iteF ?_⟩
      refine ⟨_, rfl, _, _, _, _, true, rfl, .ty "bool", .base (.bl b), kit_ty (by decide +kernel), _, rfl, iteT ?_⟩
      refine ⟨_, rfl, _, _, _, _, true, rfl, .ty "bool", .base (.bl b), kit_ty (by decide +kernel), _, rfl, iteT ?_⟩
      refine ⟨_, rfl, _, rfl, rfl, ?_⟩
      rw [decide_eq_true rfl]
      exact q
theorem ok_same1 {f : Addr} {fd : FuncData} (F : Fun K "_law_same" "_law_same" sSame f fd) (b : Binds K fd ["_law_actual", "_law_expected"] []) (g : mg "_law_same" = some (.ref f)) (T : Free mg) : FnOk P w K mg base CX0 2 f fd ["_law_actual", "_law_expected"] spSame1 := by
  have G0 : FnOk P w K mg base CX0 1 f fd ["_law_actual", "_law_expected"] spSame0 := ok_same0 F T
  refine F.ok scSame (fun vs H Q E h => ?_) (fun cdv A outer s H vs Q E hr h => ?_)
  · obtain ⟨x, y, ns, rfl, _⟩ := h
    rfl
  · obtain ⟨x, y, ns, rfl, hx, hy, hl, q⟩ := h
    refine ⟨_, pss_cons (ps_if (pt_cmp (pc_isN (pv 1))) pss_never pss_nil)
      (pss_cons (ps_if (pt_val (pe_callB call_isi (by rfl) T.isin (by decide +kernel) (pa_cons (pv 1) (pa_cons (pe_bltn (v := .ty "tuple") (by rfl) T.tuple (by decide +kernel) rfl) pa_nil))))
        (pss_cons (ps_if (PW.pt (pw_or (pt_not (pt_val (pe_callB call_isi (by rfl) T.isin (by decide +kernel) (pa_cons (pv 0) (pa_cons (pe_bltn (v := .ty "tuple") (by rfl) T.tuple (by decide +kernel) rfl) pa_nil)))))
            (pw_or1 (pt_cmpR op_ne (pe_callB call_len_seq (by rfl) T.len PySem.boot_len (pa_cons (pv 0) pa_nil)) (pe_callB call_len_seq (by rfl) T.len PySem.boot_len (pa_cons (pv 1) pa_nil)) (nomark _)))))
            pss_never pss_nil)
        (pss_cons (ps_for PassesOwn.never rfl (pi_range1 rfl T.range (pa_cons (pe_callB call_len_seq (by rfl) T.len PySem.boot_len (pa_cons (pv 1) pa_nil)) pa_nil)) (pg_name (i := 2) scSame.nd rfl (.inl rfl))
          (pss_one (ps_if (pt_not (pt_val (pe_call G0 hr (by rfl) g F.kp b .nil pass0 (pa_cons (pe_ix ix_tup (pv 0) (pv 2) (fun _ _ => rfl)) (pa_cons (pe_ix ix_tup (pv 1) (pv 2) (fun _ _ => rfl)) pa_nil))))) pss_never pss_nil)))
        (pss_one (ps_ret pe_bl))))
        pss_nil)
      pss_never), ?_⟩
    have lx : (ns.map V.int).length = ns.length := List.length_map _
    refine ⟨_, rfl, _, rfl, iteF ?_⟩
    refine ⟨_, rfl, _, _, _, _, true, rfl, .ty "tuple", .base (.tup hy), kit_ty (by decide +kernel), _, rfl, iteT ?_⟩
    refine ⟨_, rfl, _, _, _, _, true, rfl, .ty "tuple", .base (.tup hx), kit_ty (by decide +kernel), _, rfl, iteF ?_⟩
    refine ⟨_, rfl, _, _, rfl, .inr (.inl (.inl hx)), _, rfl, _, _, rfl, .inr (.inl (.inl hy)), rfl, _, rfl, iteNS rfl ?_⟩
    refine ⟨_, rfl, _, _, rfl, .inr (.inl (.inl hy)), _, rfl, by omega, by rw [lx]; omega, for_range (fun _ σ G => G = H ∧ ∃ z : Option V, σ = [some (.ref x), some (.ref y), z]) ⟨rfl, _, rfl⟩ (fun i σ G hi hp => ?_) (fun σ G hp => ?_)⟩
    · obtain ⟨rfl, z, rfl⟩ := hp
      have hi : i < ns.length := by
        rw [lx] at hi
        omega
      have e : (ns.map V.int)[i]? = some (.int ns[i]) := by
        rw [List.getElem?_map, List.getElem?_eq_getElem hi]
        rfl
      have e2 := atI_nat e
      have e3 : (0 : Int) + (i : Int) = (i : Int) := Int.zero_add _
      rw [← e3] at e2
      exact ⟨_, rfl, _, rfl, x, _, _, _, rfl, rfl, .inl (.inl hx), e2, _, rfl, _, rfl, y, _, _, _, rfl, rfl, .inl (.inl hy), e2, .int ns[i], rfl, .inl ⟨_, rfl⟩, true, rfl, iteF ⟨rfl, _, rfl⟩⟩
    · obtain ⟨rfl, z, rfl⟩ := hp
      exact q
end
end K24
/-! The law's own: enough, further, signed. -/
namespace K24
open PySem PySem.Spec PyProof.Rows L2
def thr (d l p r : Int) : HO := .tup [.int d, .int l, .int p, .int r]
theorem scEno : FnScope ["_law_threshold", "_law_counts", "_law_many", "_law_count"] ["_law_threshold", "_law_counts"] (defScope sEno) := ⟨rfl, rfl, rfl, by decide +kernel, rfl, by decide +kernel, by decide +kernel⟩
theorem fil_succ {p : Int} {cs : List Int} {i : Nat} {n : Int} (h : cs[i]? = some n) : (cs.take (i + 1)).filter (fun x => decide (p ≤ x)) = (cs.take i).filter (fun x => decide (p ≤ x)) ++ (if p ≤ n then [n] else []) := by
  rw [List.take_add_one, h, List.filter_append]
  congr 1
  by_cases c : p ≤ n
  · simp [c]
  · simp [c]
section
variable {P : Program} {w : World} {K : PySem.W.Frag} {mg : Str → Option Value} {base : Heap}
def spEno (K : PySem.W.Frag) : Sp := fun vs H Q _ => ∃ (t c : Addr) (d l p r : Int) (cs : List Int), vs = [.ref t, .ref c] ∧ H t = some (thr d l p r) ∧ SqL K H c (cs.map V.int) ∧ cs.length ≤ 1000 ∧
  ∀ G b, Same H G → (b = true ↔ enough l p r cs) → Q (.bl b) G
theorem ok_eno {f : Addr} {fd : FuncData} (F : Fun K "_law_enough" "_law_enough" sEno f fd) (T : Free mg) : FnOk P w K mg base CX0 1 f fd ["_law_threshold", "_law_counts"] (spEno K) := by
  refine F.ok scEno (fun vs H Q E h => ?_) (fun cdv A outer s H vs Q E hr h => ?_)
  · obtain ⟨t, c, d, l, p, r, cs, rfl, _⟩ := h
    rfl
  · obtain ⟨t, c, d, l, p, r, cs, rfl, ht, hS, hlen, q⟩ := h
    refine ⟨_, pss_cons (ps_set (i := 2) scEno.nd rfl (.inl rfl) (pe_callB call_len_seq (by rfl) T.len PySem.boot_len (pa_cons
        (pe_lc (own := [("_law_count", 3)]) (g := gName 3) rfl scEno.nd (pi_list (pv 1)) (blkOk_by (own := [("_law_count", 3)]) (N := ["_law_threshold", "_law_counts", "_law_many", "_law_count"]) (sc := defScope sEno) (by decide +kernel))
          (fun _ _ _ _ _ => pg_name (i := 3) scEno.nd rfl (Or.inl rfl)) (fun _ _ _ _ _ => pts_one (pt_cmpR op_ge (pv 3) (pe_ix (r := rIxT K) ix_tup (pv 0) pe_int (fun _ _ => rfl)) (nomark _))) (fun _ _ _ _ _ => pv 3)) pa_nil)))
      (pss_one (ps_ret (pe_and (pe_cmpR op_ge (pe_callB (cr_sum rfl) (by rfl) T.sum (by decide +kernel) (pa_cons (pv 1) pa_nil)) (pe_ix ix_tup (pv 0) pe_int (fun _ _ => rfl)) (nomark _))
        (pe_one (pe_cmpR op_ge (pv 2) (pe_ix ix_tup (pv 0) pe_int (fun _ _ => rfl)) (nomark _)))))), ?_⟩
    refine ⟨_, rfl, c, rfl, ⟨_, hS⟩, fun D nD => lc_list (xs := cs.map V.int) (fun i G => Same H G ∧ G D = some (.lst (((cs.take i).filter fun x => decide (p ≤ x)).map V.int))) ⟨same_new (Same.refl _) nD, upd_same⟩ (fun i G _ h => h.1.seq hS) (fun i x G hx h => ?_) (fun G h => ?_)⟩
    · rw [List.getElem?_map] at hx
      obtain ⟨n, hn, rfl⟩ := Option.map_eq_some_iff.mp hx
      have ef := fil_succ (p := p) hn
      have el : ((cs.take i).filter fun x => decide (p ≤ x)).length ≤ cs.length := Nat.le_trans (List.length_filter_le _ _) (by rw [List.length_take]; omega)
      refine ⟨rfl, _, rfl, _, rfl, t, _, 2, .int p, rfl, rfl, .inl (.inl (h.1 _ _ ht)), atI_nat (j := 2) rfl, n, p, rfl, rfl, _, rfl, ite2 (fun e => ?_) (fun e => ?_)⟩
      · have e := of_decide_eq_true e
        refine ⟨_, rfl, _, h.2, ?_, same_put h.1 nD, ?_⟩
        · rw [List.length_map]
          exact small1000 (by omega)
        · rw [upd_same, ef, if_pos e, List.map_append]
          rfl
      · have e : ¬ p ≤ n := fun z => e (decide_eq_true z)
        refine ⟨h.1, ?_⟩
        rw [ef, if_neg e, List.append_nil]
        exact h.2
    · have e : cs.take (cs.map V.int).length = cs := List.take_of_length_le (by rw [List.length_map]; omega)
      rw [e] at h
      have hT := h.1 _ _ ht
      refine ⟨D, _, rfl, .inl (.inl (.inl h.2)), _, rfl, c, cs, rfl, h.1.seq hS, _, rfl, t, _, 1, .int l, rfl, rfl, .inl (.inl hT), atI_nat (j := 1) rfl, _, l, rfl, rfl, _, rfl, ite2 (fun e1 => ?_) (fun e1 => ?_)⟩
      · have e1 := of_decide_eq_true e1
        refine ⟨_, rfl, _, rfl, t, _, 3, .int r, rfl, rfl, .inl (.inl hT), atI_nat (j := 3) rfl, _, r, rfl, rfl, q _ _ h.1 ?_⟩
        rw [List.length_map]
        exact ⟨fun z => ⟨e1, of_decide_eq_true z⟩, fun z => decide_eq_true z.2⟩
      · have e1 : ¬ l ≤ cs.sum := fun z => e1 (decide_eq_true z)
        exact q _ _ h.1 ⟨fun z => Bool.noConfusion z, fun z => absurd z.1 e1⟩
end
end K24
/-! The law's own further signatures. -/
namespace K24
open PySem PySem.Spec PyProof.Rows L2
theorem lay_next {f : List Int} {l : List (Int × Int)} {i : Nat} {q : Int × Int} (h : l[i]? = some q) : lay f (l.take (i + 1)) = (lay f (l.take i)).set q.2.toNat q.1 := by
  unfold lay
  rw [List.take_add_one, h, Option.toList_some, List.foldl_append]
  rfl
theorem ixN_at {n j : Nat} (h : j < n) : ixN n (j : Int) = some j := by
  unfold ixN
  rw [if_pos (Int.natCast_nonneg j), if_pos (by omega), Int.toNat_natCast]
theorem cut_take (xs : List V) (k : Nat) : cutV xs none (some (k : Int)) = xs.take k := by
  unfold cutV
  rw [HT.sIx_none, HT.sIx_nat, List.drop_zero, Nat.sub_zero]
  by_cases h : k ≤ xs.length
  · rw [Nat.min_eq_left h]
  · rw [Nat.min_eq_right (by omega), List.take_length, List.take_of_length_le (by omega)]
theorem prs_get {sh : List Int} {i : Nat} (h : i < sh.length) : (prs sh)[i]? = some (sh.getD i 0, (i : Int)) := by
  unfold prs
  rw [List.getElem?_map, List.getElem?_range h]
  rfl
theorem prs_len (sh : List Int) : (prs sh).length = sh.length := by
  unfold prs
  rw [List.length_map, List.length_range]
theorem shorts_get (p : Int) {known : List Int} {i : Nat} {c : Int} (h : known[i]? = some c) : (shorts p known).getD i 0 = mx (p - c) 0 := by
  unfold shorts
  rw [List.getD_eq_getElem?_getD, List.getElem?_map, h]
  rfl
theorem map_int_get {ds : List Int} {i : Nat} (h : i < ds.length) : (ds.map V.int)[i]? = some (.int (ds.getD i 0)) := by
  rw [List.getElem?_map, List.getD_eq_getElem?_getD, List.getElem?_eq_getElem h]
  rfl
/-- the pair that a value stands for -/
def kyOf (G : Hp) (x : V) : Int × Int := match x with
  | .ref a => (match G a with
    | some (.tup [.int i, .int j]) => (i, j)
    | _ => (0, 0))
  | _ => (0, 0)
theorem kyOf_at {G : Hp} {a : Addr} {i j : Int} (h : G a = some (.tup [.int i, .int j])) : kyOf G (.ref a) = (i, j) := by
  unfold kyOf
  simp only [h]
theorem scFuL : FnScope ["_law_threshold", "_law_counts", "_law_ranks", "_law_further_here", "_law_rank", "_law_missing", "_law_d"] ["_law_threshold", "_law_counts"] (defScope sFuL) := ⟨rfl, rfl, rfl, by decide +kernel, rfl, by decide +kernel, by decide +kernel⟩
section
variable {P : Program} {w : World} {K : PySem.W.Frag} {mg : Str → Option Value} {base : Heap}
def spFuL (K : PySem.W.Frag) : Sp := fun vs H Q _ => ∃ (t c : Addr) (l p : Int) (r : Nat) (known : List Int), vs = [.ref t, .ref c] ∧ H t = some (thr (known.length : Nat) l p (r : Nat)) ∧ SqL K H c (known.map V.int) ∧ known.length ≤ 9 ∧ r ≤ known.length ∧
  (known = [] → l ≤ 0) ∧ ∀ G u, Same H G → G u = some (.tup ((due p l r known).map V.int)) → Q (.ref u) G
theorem ok_fuL {f : Addr} {fd : FuncData} (F : Fun K "_law_further" "_law_further" sFuL f fd) (T : Free mg) : FnOk P w K mg base CX0 1 f fd ["_law_threshold", "_law_counts"] (spFuL K) := by
  refine F.ok scFuL (fun vs H Q E h => ?_) (fun cdv A outer s H vs Q E hr h => ?_)
  · obtain ⟨t, c, l, p, r, known, rfl, _⟩ := h
    rfl
  · obtain ⟨t, c, l, p, r, known, rfl, ht, hS, hlen, hrk, hz, q⟩ := h
    refine ⟨_, pss_cons (ps_set (i := 2) scFuL.nd rfl (.inl rfl) (pe_callB cr_sortedPO (by rfl) T.sorted (by decide +kernel) (pa_cons
        (pe_lc (own := [("_law_d", 6)]) (g := gName 6) (tt := tYes) rfl scFuL.nd (pi_range1 rfl T.range (pa_cons (pe_ix ix_tup (pv 0) pe_int (fun _ _ => rfl)) pa_nil))
          (blkOk_by (own := [("_law_d", 6)]) (N := ["_law_threshold", "_law_counts", "_law_ranks", "_law_further_here", "_law_rank", "_law_missing", "_law_d"]) (sc := defScope sFuL) (by decide +kernel))
          (fun _ _ _ _ _ => pg_name (i := 6) scFuL.nd rfl (Or.inl rfl)) (fun _ _ _ _ _ => pts_nil)
          (fun _ _ _ _ _ => pe_tup (pa_cons (pe_callB (call_max2 rfl) (by rfl) T.max (by decide +kernel) (pa_cons (pe_op op_sub (pe_ix (r := rIxT K) ix_tup (pv 0) pe_int (fun _ _ => rfl)) (pe_ix (r := rIxL K) ix_list (pv 1) (pv 6) (fun _ _ => rfl))) (pa_cons pe_int pa_nil)))
            (pa_cons (pv 6) pa_nil)))) pa_nil)))
      (pss_cons (ps_setLc (i := 3) (own := [("_law_d", 6)]) (g := gName 6) (tt := tYes) rfl scFuL.nd rfl rfl (sw_true rfl rfl rfl (by decide +kernel)) (pi_range1 rfl T.range (pa_cons (pe_ix ix_tup (pv 0) pe_int (fun _ _ => rfl)) pa_nil))
          (blkOk_by (own := [("_law_d", 6)]) (N := ["_law_threshold", "_law_counts", "_law_ranks", "_law_further_here", "_law_rank", "_law_missing", "_law_d"]) (sc := defScope sFuL) (by decide +kernel))
          (fun _ _ _ _ _ => pg_name (i := 6) scFuL.nd rfl (Or.inl rfl)) (fun _ _ _ _ _ => pts_nil) (fun _ _ _ _ _ => pe_int))
      (pss_cons (ps_for PassesOwn.never rfl (pi_list (pe_slice sl_list (pv 2) po_none (po_some (pe_ix ix_tup (pv 0) pe_int (fun _ _ => rfl))))) (pg_name (i := 4) scFuL.nd rfl (.inl rfl))
        (pss_one (ps_asg (pe_ix ix_tup (pv 4) pe_int (fun _ _ => rfl)) (pg_sub (pv 3) (pe_ix ix_tup (pv 4) pe_int (fun _ _ => rfl)) set_list))))
      (pss_cons (ps_set (i := 5) scFuL.nd rfl (.inl rfl) (pe_op op_sub (pe_callB (call_max2 rfl) (by rfl) T.max (by decide +kernel) (pa_cons (pe_op op_sub (pe_ix ix_tup (pv 0) pe_int (fun _ _ => rfl)) (pe_callB (cr_sum rfl) (by rfl) T.sum (by decide +kernel) (pa_cons (pv 1) pa_nil))) (pa_cons pe_int pa_nil)))
          (pe_callB (cr_sum rfl) (by rfl) T.sum (by decide +kernel) (pa_cons (pv 3) pa_nil))))
      (C8.pss_cut (ps_if (pt_cmpR op_gt (pv 5) pe_int (nomark _)) (pss_one (ps_asg (pe_op op_add (pe_ix ix_list (pv 3) pe_int (fun _ _ => rfl)) (pv 5)) (pg_sub (pv 3) pe_int set_list))) pss_nil)
      (pss_one (ps_ret (pe_callTy call_tuple_of (by rfl) T.tuple (by decide +kernel) (pa_cons (pv 3) pa_nil)))))))), ?_⟩
    have hn0 : (0 : Int) ≤ (known.length : Nat) := Int.natCast_nonneg _
    have hsh := shorts_len p known
    -- the pairs
    refine ⟨_, rfl, t, _, 0, _, rfl, rfl, .inl (.inl ht), atI_nat (j := 0) rfl, _, rfl, by omega, by omega, fun D nD => ?_⟩
    refine lc_range (lo := 0) (fun i G => Same H G ∧ ∃ ks : List (Addr × (Int × Int)), ks.map (·.2) = (prs (shorts p known)).take i ∧ G D = some (.lst (ks.map fun e => V.ref e.1)) ∧ ∀ e ∈ ks, G e.1 = some (.tup [.int e.2.1, .int e.2.2]))
      ⟨same_new (Same.refl _) nD, [], rfl, upd_same, fun e he => (by cases he)⟩ (fun i G hi h => ?_) (fun G h => ?_)
    · obtain ⟨sH, ks, k1, k2, k3⟩ := h
      have hi : i < known.length := by omega
      have hx : (known.map V.int)[i]? = some (.int known[i]) := by
        rw [List.getElem?_map, List.getElem?_eq_getElem hi]
        rfl
      have hx2 := atI_nat hx
      have e3 : (0 : Int) + (i : Int) = (i : Int) := Int.zero_add _
      rw [e3]
      have hT := sH _ _ ht
      refine ⟨rfl, _, rfl, t, _, 2, .int p, rfl, rfl, .inl (.inl hT), atI_nat (j := 2) rfl, _, rfl, _, rfl, c, _, _, _, rfl, rfl, sH.seq hS, hx2, p, known[i], rfl, rfl, p - known[i], 0, rfl, _, rfl, by show 2 ≤ sizeLine; decide, fun a na => ?_⟩
      have nDa : D ≠ a := ne_of_none k2 na
      have kl : ks.length ≤ known.length := by
        have z := congrArg List.length k1
        rw [List.length_map, List.length_take, prs_len, hsh] at z
        omega
      refine ⟨ks.map fun e => V.ref e.1, ?_, ?_, ?_, ks ++ [(a, (mx (p - known[i]) 0, (i : Int)))], ?_, ?_, ?_⟩
      · rw [upd_ne nDa]
        exact k2
      · rw [List.length_map]
        exact small1000 (by omega)
      · exact same_put (same_new sH na) nD
      · rw [List.map_append, k1, List.take_add_one, prs_get (by omega), shorts_get p (List.getElem?_eq_getElem hi)]
        rfl
      · rw [upd_same, List.map_append]
        rfl
      · intro e he
        rcases List.mem_append.mp he with he | he
        · have z := k3 e he
          rw [upd_ne (ne_of z k2 (fun y => by cases y)), upd_ne (ne_of_none z na)]
          exact z
        · rw [List.mem_singleton.mp he, upd_ne nDa.symm]
          exact upd_same
    · obtain ⟨sH, ks, k1, k2, k3⟩ := h
      rw [List.take_of_length_le (by rw [prs_len, hsh]; omega)] at k1
      have hmem : ∀ x ∈ ks.map (fun e => V.ref e.1), ∃ a, x = V.ref a ∧ G a = some (.tup [.int (kyOf G x).1, .int (kyOf G x).2]) := fun x hx => by
        obtain ⟨e, he, rfl⟩ := List.mem_map.mp hx
        exact ⟨e.1, rfl, by rw [kyOf_at (k3 e he)]; exact k3 e he⟩
      refine ⟨D, ks.map fun e => V.ref e.1, kyOf G, rfl, .inl (.inl k2), hmem, fun ys pR hs hb nR => ?_⟩
      have hys : ys.map (kyOf G) = rank (shorts p known) := by
        refine rank_one ?_ ?_
        · have z := hb.perm.map (kyOf G)
          have z2 : (ks.map fun e => V.ref e.1).map (kyOf G) = ks.map (·.2) := by
            rw [List.map_map]
            exact List.map_congr_left fun e he => kyOf_at (k3 e he)
          rw [z2, k1] at z
          exact z
        · rw [List.pairwise_map]
          refine List.Pairwise.imp ?_ hs
          intro x y hxy
          have z := SrtO.lexB_no.mp hxy
          unfold lexle
          omega
      have hyl : ys.length = known.length := by
        have z := congrArg List.length hys
        rw [List.length_map, rank_len, hsh] at z
        exact z
      have s1 : Same G (upd G pR (.lst ys)) := same_new (Same.refl _) nR
      have hT1 := s1 _ _ (sH _ _ ht)
      -- the noughts
      refine ⟨_, rfl, t, _, 0, _, rfl, rfl, .inl (.inl hT1), atI_nat (j := 0) rfl, _, rfl, by omega, by omega, fun F nF => ?_⟩
      refine lc_range (lo := 0) (fun i J => Same (upd G pR (.lst ys)) J ∧ J F = some (.lst (List.replicate i (V.int 0)))) ⟨same_new (Same.refl _) nF, upd_same⟩ (fun i J hi h => ?_) (fun J h => ?_)
      · refine ⟨rfl, _, h.2, ?_, same_put h.1 nF, ?_⟩
        · rw [List.length_replicate]
          exact small1000 (by omega)
        · rw [upd_same, ← List.replicate_succ']
      · obtain ⟨s2, hF⟩ := h
        have hT2 := s2 _ _ hT1
        have hR2 := s2 _ _ (upd_same (H := G) (a := pR) (o := .lst ys))
        refine ⟨.ref pR, rfl, _, rfl, t, _, 3, _, rfl, rfl, .inl (.inl hT2), atI_nat (j := 3) rfl, _, rfl, pR, ys, rfl, .inl (.inl hR2), fun pS nS => ?_⟩
        rw [cut_take]
        have s3 : Same J (upd J pS (.lst (ys.take r))) := same_new (Same.refl _) nS
        have hF3 := s3 _ _ hF
        have nFS : pS ≠ F := (ne_of_none hF nS).symm
        have s03 : Same H (upd J pS (.lst (ys.take r))) := ((sH.trans s1).trans s2).trans s3
        have sG3 : Same G (upd J pS (.lst (ys.take r))) := (s1.trans s2).trans s3
        have nFH : H F = none := (sH.trans s1).free nF
        have toH : ∀ {J2 : Hp}, But F (upd J pS (.lst (ys.take r))) J2 → Same H J2 := fun hB b o e => hB b o (ne_of_none e nFH) (s03 b o e)
        refine ⟨pS, rfl, ⟨_, .inl (.inl upd_same)⟩, for_list (xs := ys.take r) (fun i σ J2 => (∃ z : Option V, σ = [some (.ref t), some (.ref c), some (.ref pR), some (.ref F), z, none, none]) ∧ But F (upd J pS (.lst (ys.take r))) J2 ∧
            J2 F = some (.lst ((lay (List.replicate (shorts p known).length 0) ((rank (shorts p known)).take i)).map V.int)))
          ⟨⟨_, rfl⟩, But.refl _ _, ?_⟩ (fun i σ J2 _ h => .inl (.inl (h.2.1 _ _ nFS upd_same))) (fun i x σ J2 hx h => ?_) (fun σ J2 h => ?_)⟩
        · rw [hF3, List.take_zero]
          show _ = some (HO.lst ((List.replicate (shorts p known).length (0 : Int)).map V.int))
          rw [List.map_replicate, hsh, Int.toNat_natCast]
        · obtain ⟨⟨z, rfl⟩, hB, hL⟩ := h
          have hir : i < r := by
            have := (List.getElem?_eq_some_iff.mp hx).1
            rw [List.length_take] at this
            omega
          rw [List.getElem?_take_of_lt hir] at hx
          obtain ⟨a, rfl, ha⟩ := hmem x (hb.perm.mem_iff.mp (List.mem_of_getElem? hx))
          have hk : (rank (shorts p known))[i]? = some (kyOf G (V.ref a)) := by
            rw [← hys, List.getElem?_map, hx]
            rfl
          obtain ⟨d, hd, ed⟩ := mem_rank (List.mem_of_getElem? hk)
          rw [ed] at ha hk
          have ha3 := sG3 _ _ ha
          have ha4 := hB _ _ (ne_of ha3 hF3 (fun y => by cases y)) ha3
          refine ⟨_, rfl, a, _, 0, _, rfl, rfl, .inl (.inl ha4), atI_nat (j := 0) rfl, .ref F, rfl, _, rfl, a, _, 1, _, rfl, rfl, .inl (.inl ha4), atI_nat (j := 1) rfl, F, _, _, d, rfl, rfl, hL, ixN_at (by rw [List.length_map, lay_len, List.length_replicate]; exact hd), ?_⟩
          refine ⟨⟨_, rfl⟩, hB.upd, ?_⟩
          rw [upd_same, lay_next hk, List.map_set, Int.toNat_natCast]
        · obtain ⟨⟨z, rfl⟩, hB, hL⟩ := h
          have sE := toH hB
          have eT : (rank (shorts p known)).take (ys.take r).length = (rank (shorts p known)).take r := by
            rw [List.length_take, hyl, Nat.min_eq_left hrk]
          rw [eT] at hL
          have hL : J2 F = some (.lst ((K24.base (shorts p known) r).map V.int)) := hL
          have hT4 := sE _ _ ht
          refine ⟨_, rfl, t, _, 1, .int l, rfl, rfl, .inl (.inl hT4), atI_nat (j := 1) rfl, _, rfl, c, known, rfl, sE.seq hS, l, _, rfl, rfl, _, _, rfl, .ref F, rfl, F, _, rfl, .inl (.inl hL), _, _, rfl, rfl, ?_⟩
          refine ⟨fun σ' J3 => (∃ y z : Option V, σ' = [some (.ref t), some (.ref c), some (.ref pR), some (.ref F), y, z, none]) ∧ Same H J3 ∧ J3 F = some (.lst ((due p l r known).map V.int)), ?_, ?_⟩
          · have eD := due_law p l r known
            unfold top0 at eD
            refine ⟨_, rfl, _, 0, rfl, rfl, _, rfl, ite2 (fun e => ?_) (fun e => ?_)⟩
            · have e := of_decide_eq_true e
              rw [if_pos (show mx (l - known.sum) 0 - (K24.base (shorts p known) r).sum > 0 from e)] at eD
              have hpos : 0 < (K24.base (shorts p known) r).length := by
                rw [base_len, hsh]
                cases known with
                | nil =>
                  have := hz rfl
                  have e1 : (([] : List Int)).sum = 0 := rfl
                  have e2 : (K24.base (shorts p []) r).sum = 0 := by
                    have y : K24.base (shorts p []) r = [] := List.eq_nil_of_length_eq_zero (base_len (shorts p []) r)
                    rw [y]; rfl
                  have e4 := mx_spec (l - (([] : List Int)).sum) 0
                  have e : 0 < mx (l - (([] : List Int)).sum) 0 - (K24.base (shorts p []) r).sum := e
                  omega
                | cons x r => simp
              have h0 : ((K24.base (shorts p known) r).map V.int)[0]? = some (.int ((K24.base (shorts p known) r).getD 0 0)) := by
                rw [List.getElem?_map, List.getD_eq_getElem?_getD, List.getElem?_eq_getElem hpos]
                rfl
              have h1 := atI_nat h0
              refine ⟨.ref F, rfl, F, _, 0, _, rfl, rfl, .inl (.inl hL), h1, _, rfl, _, _, rfl, rfl, .ref F, rfl, F, _, 0, 0, rfl, rfl, hL, ixN_at (j := 0) (by rw [List.length_map]; exact hpos), ?_⟩
              refine ⟨⟨_, _, rfl⟩, same_put sE nFH, ?_⟩
              rw [upd_same, ← List.map_set]
              exact congrArg (fun v => some (HO.lst (v.map V.int))) eD
            · have e : ¬ mx (l - known.sum) 0 - (K24.base (shorts p known) r).sum > 0 := fun y => e (decide_eq_true y)
              rw [if_neg e] at eD
              rw [eD] at hL
              exact ⟨⟨_, _, rfl⟩, sE, hL⟩
          · rintro σ' J3 ⟨⟨y, z, rfl⟩, sJ, hJ⟩
            exact ⟨.ref F, rfl, F, _, rfl, .inl ⟨.inl (.inl hJ), fun u nu => q _ _ (same_new sJ nu) upd_same⟩⟩
end
end K24
/-! The law's own signatures. -/
namespace K24
open PySem PySem.Spec PyProof.Rows L2
theorem scSgd : FnScope ["_law_counts", "_law_signatures", "_law_d", "_law_k"] ["_law_counts"] (defScope sSgd) := ⟨rfl, rfl, rfl, by decide +kernel, rfl, by decide +kernel, by decide +kernel⟩
/-- the objects of these pairs -/
def PrsAt (G : Hp) (ks : List (Addr × (Int × Int))) : Prop := ∀ e ∈ ks, G e.1 = some (.tup [.int e.2.1, .int e.2.2])
theorem getD_le_sum : ∀ {c : List Int}, (∀ x ∈ c, 0 ≤ x) → ∀ j : Nat, c.getD j 0 ≤ c.sum
  | [], _, j => by simp
  | x :: c, h, 0 => by
    have := sum_nn (f := c) fun y hy => h y (List.mem_cons_of_mem _ hy)
    simp only [List.getD_cons_zero, List.sum_cons]
    omega
  | x :: c, h, j + 1 => by
    have h1 := getD_le_sum (c := c) (fun y hy => h y (List.mem_cons_of_mem _ hy)) j
    have h2 := h x List.mem_cons_self
    simp only [List.getD_cons_succ, List.sum_cons]
    omega
theorem take_sum_le {c : List Int} (h : ∀ x ∈ c, 0 ≤ x) (i : Nat) : (c.take i).sum ≤ c.sum := by
  have e : c.sum = (c.take i).sum + (c.drop i).sum := by rw [← List.sum_append, List.take_append_drop]
  have := sum_nn (f := c.drop i) fun y hy => h y (List.mem_of_mem_drop hy)
  omega
section
variable {P : Program} {w : World} {K : PySem.W.Frag} {mg : Str → Option Value} {base : Heap}
def spSgd (K : PySem.W.Frag) : Sp := fun vs H Q _ => ∃ (c : Addr) (cs : List Int), vs = [.ref c] ∧ SqL K H c (cs.map V.int) ∧ cs.length ≤ 9 ∧ (∀ x ∈ cs, 0 ≤ x) ∧ cs.sum ≤ 60 ∧
  ∀ G u (ks : List (Addr × (Int × Int))), Same H G → ks.map (·.2) = sgs cs cs.length → G u = some (.tup (ks.map fun e => V.ref e.1)) → PrsAt G ks → Q (.ref u) G
theorem ok_sgd {f : Addr} {fd : FuncData} (F : Fun K "_law_signed" "_law_signed" sSgd f fd) (T : Free mg) : FnOk P w K mg base CX0 1 f fd ["_law_counts"] (spSgd K) := by
  refine F.ok scSgd (fun vs H Q E h => ?_) (fun cdv A outer s H vs Q E hr h => ?_)
  · obtain ⟨c, cs, rfl, _⟩ := h
    rfl
  · obtain ⟨c, cs, rfl, hS, hlen, hn, hsum, q⟩ := h
    refine ⟨_, pss_cons (ps_set (i := 1) scSgd.nd rfl (.inl rfl) (pe_lst pa_nil))
      (pss_cons (ps_for PassesOwn.never rfl (pi_range1 rfl T.range (pa_cons (pe_callB call_len_seq (by rfl) T.len PySem.boot_len (pa_cons (pv 0) pa_nil)) pa_nil)) (pg_name (i := 2) scSgd.nd rfl (.inl rfl))
        (pss_one (ps_for PassesOwn.never rfl (pi_range1 rfl T.range (pa_cons (pe_ix ix_list (pv 0) (pv 2) (fun _ _ => rfl)) pa_nil)) (pg_name (i := 3) scSgd.nd rfl (.inl rfl))
          (pss_one (ps_expr (pe_bm PySem.F.plainAttrs_list PySem.F.slot_list_append PySem.F.type_list_append mt_append (pv 1)
            (pa_cons (pe_tup (pa_cons (pv 2) (pa_cons (pe_op op_add (pe_op op_mul pe_int (pv 3)) (pv 2)) pa_nil))) pa_nil)))))))
      (pss_one (ps_ret (pe_callTy call_tuple_of (by rfl) T.tuple (by decide +kernel) (pa_cons (pv 1) pa_nil))))), ?_⟩
    refine ⟨Nat.zero_le _, fun S nS => ?_⟩
    have s1 : Same H (upd H S (.lst [])) := same_new (Same.refl _) nS
    have lm : (cs.map V.int).length = cs.length := List.length_map _
    refine ⟨_, rfl, c, _, rfl, .inl (s1.seq hS), _, rfl, by omega, by omega, for_range (lo := 0) (fun i σ G => (∃ y z : Option V, σ = [some (.ref c), some (.ref S), y, z]) ∧ Same H G ∧
        ∃ ks : List (Addr × (Int × Int)), ks.map (·.2) = sgs cs i ∧ G S = some (.lst (ks.map fun e => V.ref e.1)) ∧ PrsAt G ks)
      ⟨⟨_, _, rfl⟩, s1, [], rfl, upd_same, fun e he => (by cases he)⟩ (fun i σ G hi h => ?_) (fun σ G h => ?_)⟩
    · obtain ⟨⟨y, z, rfl⟩, sH, ks, k1, k2, k3⟩ := h
      rw [lm, Int.toNat_natCast] at hi
      have e3 : (0 : Int) + (i : Int) = (i : Int) := Int.zero_add _
      rw [e3]
      have hx : (cs.map V.int)[i]? = some (.int (cs.getD i 0)) := by
        rw [List.getElem?_map, List.getD_eq_getElem?_getD, List.getElem?_eq_getElem hi]
        rfl
      have g0 := getD_nn hn i
      have g1 := getD_le_sum hn i
      have kl : (ks.length : Int) = (cs.take i).sum := by
        rw [← sgs_len hn i, ← k1, List.length_map]
      have kl2 : (cs.take i).sum + cs.getD i 0 ≤ 60 := by
        have := take_sum_le hn (i + 1)
        rw [take_sum_succ] at this
        omega
      refine ⟨_, rfl, _, rfl, c, _, _, _, rfl, rfl, sH.seq hS, atI_nat hx, _, rfl, by omega, by omega, for_range (lo := 0) (fun j σ G2 => (∃ z : Option V, σ = [some (.ref c), some (.ref S), some (.int (i : Int)), z]) ∧ Same H G2 ∧
          ∃ ks : List (Addr × (Int × Int)), ks.map (·.2) = sgs cs i ++ blk i j ∧ G2 S = some (.lst (ks.map fun e => V.ref e.1)) ∧ PrsAt G2 ks)
        ⟨⟨_, rfl⟩, sH, ks, (by rw [k1]; simp [blk]), k2, k3⟩ (fun j σ G2 hj h => ?_) (fun σ G2 h => ?_)⟩
      · obtain ⟨⟨z, rfl⟩, sH2, ls, l1, l2, l3⟩ := h
        have e4 : (0 : Int) + (j : Int) = (j : Int) := Int.zero_add _
        rw [e4]
        have ll : ls.length < 1000 := by
          have z := congrArg List.length l1
          rw [List.length_map, List.length_append, blk_len] at z
          have z2 := sgs_len hn i
          omega
        refine ⟨_, rfl, .inl ⟨rfl, _, .inl (.inl l2)⟩, _, rfl, _, rfl, 16, _, rfl, rfl, .inl ⟨by decide, by decide⟩, _, rfl, _, _, rfl, rfl, by show 2 ≤ sizeLine; decide, fun a na => ?_⟩
        have nSa : S ≠ a := ne_of_none l2 na
        refine ⟨S, _, _, rfl, rfl, by rw [upd_ne nSa]; exact l2, by rw [List.length_map]; exact small1000 (by omega), ?_⟩
        refine ⟨⟨_, rfl⟩, same_put (same_new sH2 na) nS, ls ++ [(a, ((i : Int), 16 * (j : Int) + (i : Int)))], ?_, ?_, ?_⟩
        · rw [List.map_append, l1, blk_succ, List.append_assoc]
          rfl
        · rw [upd_same, List.map_append]
          rfl
        · intro e he
          rcases List.mem_append.mp he with he | he
          · have y := l3 e he
            rw [upd_ne (ne_of y l2 (fun v => by cases v)), upd_ne (ne_of_none y na)]
            exact y
          · rw [List.mem_singleton.mp he, upd_ne nSa.symm]
            exact upd_same
      · obtain ⟨⟨z, rfl⟩, sH2, ls, l1, l2, l3⟩ := h
        exact ⟨⟨_, _, rfl⟩, sH2, ls, by rw [l1, sgs_succ], l2, l3⟩
    · obtain ⟨⟨y, z, rfl⟩, sH, ks, k1, k2, k3⟩ := h
      rw [lm, Int.toNat_natCast] at k1
      refine ⟨_, rfl, S, _, rfl, .inl ⟨.inl (.inl k2), fun u nu => q _ u ks (same_new sH nu) k1 upd_same fun e he => ?_⟩⟩
      have y := k3 e he
      rw [upd_ne (ne_of_none y nu)]
      exact y
end
end K24
/-! Rules that the layer lacks: the sum of a tuple, an item read for an operator's store, len(set(t)) of a tuple of tuples. -/
namespace K24
open PySem PySem.Spec PyProof.Rows L2
section
variable {X : Cx}
/-- sum(t), t a tuple of whole numbers -/
def rSumT (K : PySem.W.Frag) : List V → Hp → VK → Prop := fun vs H Q => ∃ (a : Addr) (ns : List Int), vs = [V.ref a] ∧ SqT K H a (ns.map V.int) ∧ Q (.int ns.sum) H
theorem cr_sumT (hc : X.calm = true) : CallR X (.builtin "sum") (rSumT X.K) := by
  intro pins s st H vs us Q I r h
  obtain ⟨a, ns, rfl, hs, q⟩ := h
  obtain ⟨its, rv, ht, _⟩ := I.tuple hs
  rw [Vals.ref1 r]
  have hi := rv.ints
  obtain ⟨xs, e⟩ := hi.allInts.items
  have hn : numsOf (intItems xs).toList = ns := by rw [← e]; exact hi.numsOf
  rw [nums_intItems] at hn
  have ht' : s.heap.IsTuple a (intItems xs) := by rw [← e]; exact ht
  refine PySem.W.ktm_sumG (I.ok.hd hc) ht' fun h' tk t' hk => ⟨.int ns.sum, H, I.kept hk, ⟨t', ?_⟩, q⟩
  rw [preSum_eq, List.take_of_length_le (by simp), hn]
/-- xs[j] of a list, for xs[j] op= e -/
def rGetL (K : PySem.W.Frag) : V → V → Hp → VK → Prop := fun o i H Q => ∃ (p : Addr) (xs : List V) (j : Nat) (v : V), o = .ref p ∧ i = .int (j : Int) ∧ SqL K H p xs ∧ xs[j]? = some v ∧ Q v H
theorem pg_lst : PGet X (rGetL X.K) := by
  intro pins s st H o i ov iv Q I ro ri h
  obtain ⟨p, xs, j, v, rfl, rfl, hs, hv, q⟩ := h
  obtain rfl : ov = .ref p := ro
  obtain ⟨t, rfl⟩ := ri
  obtain ⟨its, rv, hl, hz⟩ := I.list hs
  obtain ⟨u, hu, ru⟩ := rv.get hv
  have hj := (List.getElem?_eq_some_iff.mp hv).1
  have hn := line63
  exact PySem.wpAny_getItem_list hl.isList (Int.natCast_nonneg j) (by omega) (by rw [Int.toNat_natCast]; simpa using hu) ⟨v, H, I, ru, q⟩
end
end K24
namespace K24
open PySem PySem.Spec PyProof.Rows L2
section
variable {P : Program} {w : World} {A : Around} {E : Value → Shared → Prop} {s : Shared}
/-- a set just made -/
abbrev setO0 (w : World) : Obj := { cls := .type "set", dict := none, data := .set #[] 0 (.fresh 0 0 (!w.params.followText "set-order")) }
/-- what set(t) leaves -/
def SetLeft (P : Program) (w : World) (h0 : Heap) (a : Addr) (ks : List (Addr × List Int)) (h' : Heap) : Prop :=
  (∃ L es ep t, SetTR P w h' a L es ep t ∧ Got ks ks.length L) ∧ ∀ b o, h0.get? b = some o → h'.get? b = some o
set_option maxHeartbeats 8000000 in
theorem call_set_tt {l : Addr} {items : Array Value} (ks : List (Addr × List Int)) {Q : Value → Shared → Prop} (hh : A.handled = none) (hl : s.heap.IsTuple l items) (hit : items.toList = ks.map fun p => Value.ref p.1)
    (hk : ∀ p ∈ ks, IsT P w s.heap p.2 p.1) (hfew : ks.length < 64) (hu : A.units + 3 < cLine)
    (h : ∀ (h' : Heap) (tk : Nat), SetLeft P w s.heap s.heap.objs.size ks h' → Q (.ref s.heap.objs.size) { s with heap := h', toks := tk }) :
    wpAny (model P w) A (call (.type "set") [.ref l]) Q E s := by
  have hisz : items.size = ks.length := by rw [← Array.length_toList, hit, List.length_map]
  obtain ⟨c, tl, hmro⟩ := F.called_set.mro
  have hmade := F.called_set.made
  have hsub := F.called_set.sub
  refine wpAny_call (codeAny_of_tree (?_ : wpAny _ _ (callAny (.type "set") _) _ _ _))
  refine wpAny_pure ⟨Code.quiet_builtin _ (by decide +kernel), codeAny_builtin F.entry_type_call (?_ : _)⟩
  rw [Around.under_plain (weight_type_call_type "set" [.ref l] []) rfl]
  have hty := F.called_set.notType
  have hcan := F.called_set.canCreate
  have hone := F.typeCall_set_1 (.ref l)
  repeat (any_goals (first | assumption | wp_step))
  have hpush : ∀ b o, s.heap.get? b = some o → (s.heap.push (setO0 w)).get? b = some o := fun b o e => Heap.get?_push_of_some _ e
  refine codeAny_mono (code_set_led1 (.ref l) (E := E) (Q₁ := fun obj u => obj = .ref s.heap.objs.size ∧ u = { s with heap := s.heap.push (setO0 w) }) ⟨rfl, rfl⟩) fun r u hr => ?_
  cases r with
  | error e => exact hr
  | ok fl =>
    cases fl with
    | next => exact hr.elim
    | brk => exact hr.elim
    | cont => exact hr.elim
    | ret obj =>
      obtain ⟨rfl, rfl⟩ := hr
      have hS : (s.heap.push (setO0 w)).get? s.heap.objs.size = some (setO0 w) := Heap.get?_push_size _ rfl
      have hT : Shared.TypeIs { s with heap := s.heap.push (setO0 w) } (.ref s.heap.objs.size) "set" := ⟨_, hS, rfl⟩
      have hi1 := F.called_set.init.lookup
      have hi2 := F.called_set.init.bind (.ref s.heap.objs.size)
      repeat (any_goals (first | assumption | wp_step))
      refine codeAny_mono (codeAny_call_builtin (R := wants (fun r v => r = .none ∧ ∃ h' tk, v = { s with heap := h', toks := tk } ∧ SetLeft P w s.heap s.heap.objs.size ks h') E) F.called_set.init.plain F.entry_set_init (check_set_init_1 hT ?_)) fun r2 v hr2 => ?_
      · obtain ⟨⟨ocls, odict, odata, oslots⟩, hol, hcl, nl, hdl⟩ := hl
        simp only at hcl hdl
        subst hcl
        subst hdl
        have hol' : (s.heap.push (setO0 w)).get? l = some { cls := .type "tuple", dict := odict, data := .seq items nl, slots := oslots } := hpush _ _ hol
        have hsub1 := F.sub_tuple_set
        have hsub2 := F.sub_tuple_frozenset
        have hnd : (Value.type "tuple" == Value.type "dict") = false := by decide
        have hl1 : (s.heap.push (setO0 w)).IsTuple l items := ⟨_, hol', rfl, nl, rfl⟩
        unfold Builtin.«set.__init__» noKeywords Builtin.Frozenset.updateFrom
        generalize hPI : pyIter = PI
        wp_walk
        subst hPI
        refine wpAny_pyIter_tuple hl1 (wpAny_bind (wpAny_runValue ?_))
        have hlS : l < s.heap.objs.size := Heap.lt_size hol
        have hh3 : A.in1.in1.in1.handled = none := by simp [hh]
        have hz1 : (s.heap.push (setO0 w)).objs.size = s.heap.objs.size + 1 := Heap.size_push ..
        have hlI : l ≠ (s.heap.push (setO0 w)).objs.size := by
          rw [hz1]
          exact Nat.ne_of_lt (Nat.lt_succ_of_lt hlS)
        have hSI : s.heap.objs.size ∉ [(s.heap.push (setO0 w)).objs.size, l] := by
          rw [hz1, List.mem_cons, List.mem_singleton, not_or]
          exact ⟨Nat.ne_of_lt (Nat.lt_succ_self _), Nat.ne_of_gt hlS⟩
        have hval : ∀ (i : Nat) (v : Value), items[i]? = some v → ∃ p, ks[i]? = some p ∧ v = .ref p.1 := fun i v hv => by
          have q : (ks.map fun p => Value.ref p.1)[i]? = some v := by rw [← hit, Array.getElem?_toList, hv]
          rw [List.getElem?_map] at q
          obtain ⟨p, hp, e⟩ := Option.map_eq_some_iff.mp q
          exact ⟨p, hp, e.symm⟩
        have gone : ∀ b, s.heap.objs.size ≤ b → s.heap.get? b = none := fun b hb => Heap.get?_none_of_le hb
        refine set_update_tups ((Walks.tuple hh3 _ l hlI items).toS) s.heap.objs.size hSI ks hisz hfew hval s.heap hk (gone _ (Nat.le_refl _))
          (fun b hb => gone b (by rw [List.mem_singleton.mp hb, hz1]; exact Nat.le_succ _)) hu (items.size - 0) 0 _ (by omega) (Nat.zero_le _)
          ⟨⟨_, Heap.get?_push_size _ rfl, rfl, rfl⟩, hl1.push _⟩ (fun b o e => Heap.get?_push_of_some _ (hpush b o e)) ⟨[], #[], 0, _, setTR_fresh (Heap.get?_push_of_some _ hS), Got.zero ks⟩ (fun s2 L es ep t hm hR g hkp => ?_)
        obtain ⟨h2, g2, d2, tk2, os2⟩ := s2
        obtain rfl : g2 = s.gens := hm.gens
        obtain rfl : d2 = s.drawn := hm.drawn
        obtain rfl : os2 = s.os := hm.os
        rw [hisz] at g
        refine wpAny_pure (?_ : wpAny _ _ (ret Value.none) _ _ _)
        exact wpAny_pure ⟨rfl, h2, tk2, rfl, ⟨L, es, ep, t, hR, g⟩, hkp⟩
      · cases r2 with
        | error e => exact hr2
        | ok fl2 =>
          cases fl2 with
          | next => exact hr2.elim
          | brk => exact hr2.elim
          | cont => exact hr2.elim
          | ret r =>
            obtain ⟨rfl, h', tk, rfl, hL⟩ := hr2
            repeat (any_goals (first | assumption | wp_step))
            exact h _ _ hL
end
end K24
/-! len(set(t)) of a tuple of tuples, over the layer. -/
namespace K24
open PySem PySem.Spec PyProof.Rows L2
section
variable {X : Cx}
/-- len(set(t)), t a tuple of distinct tuples of whole numbers -/
def tLenSetT (K : PySem.W.Frag) (ta : TE) : TE := fun σ H Q => ta σ H fun x H1 => ∃ (l : Addr) (ks : List (Addr × List Int)), x = V.ref l ∧ SqT K H1 l (ks.map fun p => V.ref p.1) ∧ (∀ p ∈ ks, SqT K H1 p.1 (p.2.map V.int)) ∧ (ks.map (·.2)).Nodup ∧ ks.length < 64 ∧ Q (.int ks.length) H1
theorem pe_lenSetTT {a : Expr} {ta : TE} {p p2 q pos : Pos} (hc : X.calm = true) (hu : X.A.units + 64 < cLine) (hg : Gl X "len") (hm : X.mg "len" = none) (hg2 : Gl X "set") (hm2 : X.mg "set" = none) (ha : PE X a ta)
    (na : starEach [a] X.env = (false, eval a X.env) :: starEach [] X.env := by rfl) : PE X (.Call (.Name "len" p) [.Call (.Name "set" p2) [a] [] q] [] pos) (tLenSetT X.K ta) := by
  refine ⟨fun pins s st H Q I h => ?_⟩
  refine Call_ (ld_blt I hg hm PySem.boot_len (PyProof.Rows.callWith_builtin1 (PyProof.Rows.args_cons ?_ rfl) rfl rfl))
  refine Call_ (ld_blt I hg2 hm2 PyProof.Rows.boot_set (PyProof.Rows.callWith_type1 (PyProof.Rows.args_cons (thn (ha.run pins s st H _ I h) fun v s1 ⟨x, H1, I1, r1, q1⟩ => PyProof.Rows.args_nil ?_) na) na rfl))
  obtain ⟨l, ks, rfl, hq, hks, hnd, hfew, q1⟩ := q1
  obtain rfl : v = .ref l := r1
  obtain ⟨its, r, pl, hz⟩ := I1.tuple hq
  refine call_set_tt (P := X.prog) (w := X.w) ks (I1.ok.hd hc) pl (by simpa using refs_of_vals r) (fun p hp => I1.isT (hks p hp)) hfew (by omega) fun h' tk hL => PyProof.Rows.args_nil ?_
  obtain ⟨⟨L, es, ep, t, R, g⟩, hk⟩ := hL
  have hlen : L.length = ks.length := by
    have h1 := g.len
    have h2 := nodup_len (ks.map (·.2)) (L.map (·.2)) hnd fun y hy => by
      obtain ⟨e, he, rfl⟩ := List.mem_map.mp hy
      exact g.all e (by rw [List.take_length]; exact he)
    rw [List.length_map, List.length_map] at h2
    omega
  have hes := SetTR.size (s := { s1 with heap := h', toks := tk }) R
  obtain ⟨o, ho, hex, hd⟩ := R.ob
  have I2 : Inv X pins st H1 { s1 with heap := h', toks := tk } := I1.kept hk
  exact call_len_set ho hex hd (SetTR.fits (s := { s1 with heap := h', toks := tk }) R) (by rw [hes] <;> omega) ⟨.int ks.length, H1, I2.tok _, ⟨_, by rw [hes, hlen]⟩, q1⟩
end
end K24
/-! The law's drawn fewer signatures. -/
namespace K24
open PySem PySem.Spec PyProof.Rows L2
/-- the districts that have a number above nought -/
def posAt (ds : List Int) (i : Nat) : List Nat := (List.range i).filter fun d => decide (0 < ds.getD d 0)
theorem posAt_succ (ds : List Int) (i : Nat) : posAt ds (i + 1) = posAt ds i ++ (if 0 < ds.getD i 0 then [i] else []) := by
  unfold posAt
  rw [List.range_succ, List.filter_append]
  congr 1
  simp only [List.filter_cons, List.filter_nil, decide_eq_true_eq]
theorem posAt_len (ds : List Int) (i : Nat) : (posAt ds i).length ≤ i := by
  have := List.length_filter_le (fun d => decide (0 < ds.getD d 0)) (List.range i)
  rw [List.length_range] at this
  exact this
theorem posAt_mem {ds : List Int} {i d : Nat} (h : d ∈ posAt ds i) : d < i ∧ 0 < ds.getD d 0 := by
  unfold posAt at h
  obtain ⟨h1, h2⟩ := List.mem_filter.mp h
  exact ⟨List.mem_range.mp h1, of_decide_eq_true h2⟩
theorem pos_there : ∀ {ds : List Int}, 0 < ds.sum → ∃ d : Nat, d < ds.length ∧ 0 < ds.getD d 0
  | [], h => by simp at h
  | x :: ds, h => by
    by_cases hx : 0 < x
    · exact ⟨0, by simp, by simpa using hx⟩
    · rw [List.sum_cons] at h
      obtain ⟨d, h1, h2⟩ := pos_there (ds := ds) (by omega)
      exact ⟨d + 1, by simpa using h1, by simpa using h2⟩
theorem posAt_some {ds : List Int} (h : 0 < ds.sum) : 0 < (posAt ds ds.length).length := by
  obtain ⟨d, h1, h2⟩ := pos_there h
  exact List.length_pos_of_mem (List.mem_filter.mpr ⟨List.mem_range.mpr h1, decide_eq_true h2⟩)
theorem cut_drop (xs : List V) (k : Nat) : cutV xs (some (k : Int)) none = xs.drop k := by
  unfold cutV
  rw [HT.sIx_none, HT.sIx_nat]
  by_cases h : k ≤ xs.length
  · rw [Nat.min_eq_left h, List.take_of_length_le (by rw [List.length_drop]; omega)]
  · rw [Nat.min_eq_right (by omega), Nat.sub_self, List.take_zero, List.drop_of_length_le (by omega)]
theorem set_nn {f : List Int} (h : ∀ x ∈ f, 0 ≤ x) (i : Nat) {v : Int} (hv : 0 ≤ v) : ∀ x ∈ f.set i v, 0 ≤ x := by
  intro x hx
  rcases List.mem_or_eq_of_mem_set hx with q | q
  · exact h x q
  · rw [q]; exact hv
theorem scFew : FnScope ["_law_tape_here", "_law_further_here", "_law_fewer_here", "_law_total", "_law_d", "_law_places", "_law_at"] ["_law_tape_here", "_law_further_here"] (defScope sFew) := ⟨rfl, rfl, rfl, by decide +kernel, rfl, by decide +kernel, by decide +kernel⟩
section
variable {P : Program} {w : World} {K : PySem.W.Frag} {mg : Str → Option Value} {base : Heap}
def spFew : Sp := fun vs H Q _ => ∃ (t u l : Addr) (ns ds : List Int), vs = [.ref t, .ref u] ∧ Tape H t l ns ∧ H u = some (.tup (ds.map V.int)) ∧ (∀ x ∈ ds, 0 ≤ x) ∧ 0 < ds.sum ∧ ds.sum < 900000 ∧ ds.length ≤ 9 ∧
  ∀ G f (fs : List Int), But t H G → Tape G t l ns → G f = some (.lst (fs.map V.int)) → fs.length = ds.length → (∀ x ∈ fs, 0 ≤ x) → fs.sum < ds.sum → Q (.ref f) G
theorem ok_few {f fD : Addr} {fd fdD : FuncData} (F : Fun K "_law_fewer" "_law_fewer" sFew f fd) (T : Free mg) (FD : Fun K "_law_draw" "_law_draw" sDraw fD fdD) (bD : Binds K fdD ["_law_tape_here", "_law_many"] []) (gD : mg "_law_draw" = some (.ref fD)) :
    FnOk P w K mg base CX0 2 f fd ["_law_tape_here", "_law_further_here"] spFew := by
  have GD : FnOk P w K mg base CX0 1 fD fdD ["_law_tape_here", "_law_many"] spDraw := ok_draw FD T
  refine F.ok scFew (fun vs H Q E h => ?_) (fun cdv A outer s H vs Q E hr h => ?_)
  · obtain ⟨t, u, l, ns, ds, rfl, _⟩ := h
    rfl
  · obtain ⟨t, u, l, ns, ds, rfl, hT, hU, hn, hp, hs, hl, q⟩ := h
    refine ⟨_, pss_cons (ps_set (i := 2) scFew.nd rfl (.inr rfl) (pe_callTy call_list_of (by rfl) T.list (by decide +kernel) (pa_cons (pv 1) pa_nil)))
      (pss_cons (ps_set (i := 3) scFew.nd rfl (.inl rfl) (pe_op op_sub (pe_callB (cr_sumT rfl) (by rfl) T.sum (by decide +kernel) (pa_cons (pv 1) pa_nil)) pe_int))
      (pss_cons (ps_if (pt_cmpR op_eq (pe_call GD hr (by rfl) gD FD.kp bD .nil pass0 (pa_cons (pv 0) (pa_cons pe_int pa_nil))) pe_int (nomark _))
        (pss_cons (ps_setLc (i := 5) (own := [("_law_d", 4)]) (g := gName 4) rfl scFew.nd rfl rfl (sw_true rfl rfl rfl (by decide +kernel)) (pi_range1 rfl T.range (pa_cons (pe_callB call_len_seq (by rfl) T.len PySem.boot_len (pa_cons (pv 2) pa_nil)) pa_nil))
            (blkOk_by (own := [("_law_d", 4)]) (N := ["_law_tape_here", "_law_further_here", "_law_fewer_here", "_law_total", "_law_d", "_law_places", "_law_at"]) (sc := defScope sFew) (by decide +kernel))
            (fun _ _ _ _ _ => pg_name (i := 4) scFew.nd rfl (Or.inl rfl)) (fun _ _ _ _ _ => pts_one (pt_cmpR op_gt (pe_ix (r := rIxL K) ix_list (pv 2) (pv 4) (fun _ _ => rfl)) pe_int (nomark _))) (fun _ _ _ _ _ => pv 4))
        (pss_cons (ps_set (i := 6) scFew.nd rfl (.inl rfl) (pe_ix ix_list (pv 5) (pe_call GD hr (by rfl) gD FD.kp bD .nil pass0 (pa_cons (pv 0) (pa_cons (pe_callB call_len_seq (by rfl) T.len PySem.boot_len (pa_cons (pv 5) pa_nil)) pa_nil))) (fun _ _ => rfl)))
        (pss_cons (ps_asg (pe_op op_sub (pe_ix ix_list (pv 2) (pv 6) (fun _ _ => rfl)) pe_int) (pg_sub (pv 2) (pv 6) set_list))
        (pss_one (ps_ret (pv 2))))))
        pss_nil)
      (pss_cons (ps_for PassesOwn.never rfl (pi_range1 rfl T.range (pa_cons (pe_callB call_len_seq (by rfl) T.len PySem.boot_len (pa_cons (pv 2) pa_nil)) pa_nil)) (pg_name (i := 4) scFew.nd rfl (.inl rfl))
        (pss_cons (ps_asg (pe_call GD hr (by rfl) gD FD.kp bD .nil pass0 (pa_cons (pv 0) (pa_cons (pe_op op_add (pv 3) pe_int) pa_nil))) (pg_sub (pv 2) (pv 4) set_list))
        (pss_one (ps_set (i := 3) scFew.nd rfl (.inl rfl) (pe_op op_sub (pv 3) (pe_ix ix_list (pv 2) (pv 4) (fun _ _ => rfl)))))))
      (pss_cons (ps_set (i := 6) scFew.nd rfl (.inl rfl) (pe_call GD hr (by rfl) gD FD.kp bD .nil pass0 (pa_cons (pv 0) (pa_cons (pe_callB call_len_seq (by rfl) T.len PySem.boot_len (pa_cons (pv 2) pa_nil)) pa_nil))))
      (pss_one (ps_ret (pe_op op_cat (pe_slice sl_list (pv 2) (po_some (pv 6)) po_none) (pe_slice sl_list (pv 2) po_none (po_some (pv 6)))))))))), ?_⟩
    have lm : (ds.map V.int).length = ds.length := List.length_map _
    refine ⟨_, rfl, u, _, rfl, .inr (.inl (.inl hU)), fun Fa nF => ?_⟩
    have s1 : Same H (upd H Fa (.lst (ds.map V.int))) := same_new (Same.refl _) nF
    obtain ⟨ntF, nlF⟩ := hT.apart nF
    refine ⟨_, rfl, u, ds, rfl, .inl (.inl (s1 _ _ hU)), _, 1, rfl, rfl, ?_⟩
    refine ⟨_, rfl, t, l, ns, 2, rfl, hT.same s1, by decide, fun G k hB TG k0 k1 => ?_⟩
    have hF : G Fa = some (.lst (ds.map V.int)) := hB _ _ ntF upd_same
    have hBH : But t H G := fun b o n e => hB b o n (s1 b o e)
    refine ⟨rfl, _, rfl, ite2 (fun e => ?_) (fun e => ?_)⟩
    · -- one less at a drawn district
      refine ⟨_, rfl, Fa, _, rfl, .inl (.inl (.inl hF)), _, rfl, by omega, by rw [lm]; omega, fun D nD => ?_⟩
      refine lc_range (lo := 0) (fun i J => Same G J ∧ J D = some (.lst ((posAt ds i).map fun (d : Nat) => V.int (d : Int)))) ⟨same_new (Same.refl _) nD, upd_same⟩ (fun i J hi h => ?_) (fun J h => ?_)
      · rw [lm, Int.toNat_natCast] at hi
        have e3 : (0 : Int) + (i : Int) = (i : Int) := Int.zero_add _
        rw [e3]
        refine ⟨rfl, .ref Fa, rfl, _, rfl, Fa, _, _, _, rfl, rfl, .inl (.inl (h.1 _ _ hF)), atI_nat (map_int_get hi), _, 0, rfl, rfl, _, rfl, ite2 (fun c => ?_) (fun c => ?_)⟩
        · have c := of_decide_eq_true c
          refine ⟨_, rfl, _, h.2, ?_, same_put h.1 nD, ?_⟩
          · rw [List.length_map]
            exact small1000 (by have := posAt_len ds i; omega)
          · rw [upd_same, posAt_succ, if_pos c, List.map_append]
            rfl
        · have c : ¬ 0 < ds.getD i 0 := fun z => c (decide_eq_true z)
          refine ⟨h.1, ?_⟩
          rw [posAt_succ, if_neg c, List.append_nil]
          exact h.2
      · obtain ⟨s2, hD⟩ := h
        rw [lm, Int.toNat_natCast] at hD
        have hpos := posAt_some hp
        refine ⟨.ref D, rfl, .ref t, rfl, .ref D, rfl, D, _, rfl, .inl (.inl (.inl hD)), t, l, ns, _, rfl, TG.same s2, ?_, fun G2 k hB2 TG2 k0 k1 => ?_⟩
        · rw [List.length_map]
          have := posAt_len ds ds.length
          omega
        · rw [List.length_map] at k1
          have k2 : k.toNat < (posAt ds ds.length).length := by
            have := mx_spec ((posAt ds ds.length).length : Int) 1
            omega
          have ek : ((posAt ds ds.length).map fun (d : Nat) => V.int (d : Int))[k.toNat]? = some (.int (((posAt ds ds.length)[k.toNat] : Nat) : Int)) := by
            rw [List.getElem?_map, List.getElem?_eq_getElem k2]
            rfl
          have ek2 := atI_nat ek
          rw [Int.toNat_of_nonneg k0] at ek2
          obtain ⟨d1, d2⟩ := posAt_mem (List.getElem_mem k2)
          generalize (posAt ds ds.length)[k.toNat] = d at ek2 d1 d2
          have nDt := (TG.apart nD).1
          have hF2 := hB2 _ _ ntF (s2 _ _ hF)
          refine ⟨D, _, k, _, rfl, rfl, .inl (.inl (hB2 _ _ nDt hD)), ek2, ?_⟩
          refine ⟨.ref Fa, rfl, _, rfl, Fa, _, _, _, rfl, rfl, .inl (.inl hF2), atI_nat (map_int_get d1), _, 1, rfl, rfl, .ref Fa, rfl, _, rfl, Fa, _, _, d, rfl, rfl, hF2, ixN_at (by rw [lm]; exact d1), .ref Fa, rfl, ?_⟩
          have hBE : But t H (upd G2 Fa (.lst ((ds.map V.int).set d (.int (ds.getD d 0 - 1))))) := but_put ((hBH.trans (But.of s2)).trans hB2) nF
          refine q _ _ (ds.set d (ds.getD d 0 - 1)) hBE (TG2.put ntF nlF) ?_ ?_ ?_ ?_
          · rw [upd_same, List.map_set]
          · rw [List.length_set]
          · exact set_nn hn _ (by omega)
          · rw [sum_set _ _ _ d1]
            omega
    · -- drawn numbers, turned round
      refine ⟨_, rfl, Fa, _, rfl, .inl (.inl (.inl hF)), _, rfl, by omega, by rw [lm]; omega, for_range (lo := 0) (fun i σ J => ∃ (y : Option V) (tot : Int) (fs : List Int), σ = [some (.ref t), some (.ref u), some (.ref Fa), some (.int tot), y, none, none] ∧
          But t H J ∧ Tape J t l ns ∧ J Fa = some (.lst (fs.map V.int)) ∧ fs.length = ds.length ∧ (∀ x ∈ fs, 0 ≤ x) ∧ 0 ≤ tot ∧ (fs.take i).sum + tot = ds.sum - 1)
        ⟨_, ds.sum - 1, ds, rfl, hBH, TG, hF, rfl, hn, by omega, by simp⟩ (fun i σ J hi h => ?_) (fun σ J h => ?_)⟩
      · obtain ⟨y, tot, fs, rfl, hBJ, TJ, hJ, hfl, hfn, ht0, hsum⟩ := h
        rw [lm, Int.toNat_natCast] at hi
        have e3 : (0 : Int) + (i : Int) = (i : Int) := Int.zero_add _
        rw [e3]
        have hts : tot ≤ ds.sum := by
          have := sum_nn (f := fs.take i) fun x hx => hfn x (List.mem_of_mem_take hx)
          omega
        refine ⟨_, rfl, _, rfl, tot, 1, rfl, rfl, t, l, ns, _, rfl, TJ, by omega, fun G2 k hB2 TG2 k0 k1 => ?_⟩
        have hJ2 := hB2 _ _ ntF hJ
        have hlt : i < (fs.map V.int).length := by rw [List.length_map]; omega
        have k2 : k ≤ tot := by
          have := mx_spec (tot + 1) 1
          omega
        have hli : i < fs.length := by omega
        refine ⟨_, rfl, _, rfl, Fa, _, _, i, rfl, rfl, hJ2, ixN_at hlt, ?_⟩
        have hget : ((fs.map V.int).set i (.int k))[i]? = some (.int k) := List.getElem?_set_self hlt
        refine ⟨_, rfl, .ref Fa, rfl, _, rfl, Fa, _, _, _, rfl, rfl, .inl (.inl upd_same), atI_nat hget, tot, k, rfl, rfl, _, tot - k, fs.set i k, rfl, but_put (hBJ.trans hB2) nF, TG2.put ntF nlF, ?_, ?_, set_nn hfn _ k0, by omega, ?_⟩
        · rw [upd_same, List.map_set]
        · rw [List.length_set, hfl]
        · rw [take_sum_succ, getD_set_eq _ _ _ hli, List.take_set_of_le (Nat.le_refl i)]
          omega
      · obtain ⟨y, tot, fs, rfl, hBJ, TJ, hJ, hfl, hfn, ht0, hsum⟩ := h
        rw [lm, Int.toNat_natCast, ← hfl, List.take_length] at hsum
        refine ⟨.ref t, rfl, .ref Fa, rfl, Fa, _, rfl, .inl (.inl (.inl hJ)), t, l, ns, _, rfl, TJ, ?_, fun G2 k hB2 TG2 k0 k1 => ?_⟩
        · rw [List.length_map]
          omega
        · rw [List.length_map] at k1
          have hdl : 0 < ds.length := by
            cases ds with
            | nil => simp at hp
            | cons x r => simp
          have k2 : k < fs.length := by
            have := mx_spec (fs.length : Int) 1
            omega
          obtain ⟨j, rfl⟩ : ∃ j : Nat, k = (j : Int) := ⟨k.toNat, (Int.toNat_of_nonneg k0).symm⟩
          have hJ2 := hB2 _ _ ntF hJ
          refine ⟨.ref Fa, rfl, _, rfl, _, rfl, Fa, _, rfl, .inl (.inl hJ2), fun a na => ?_⟩
          have hJ3 : (upd G2 a (.lst (cutV (fs.map V.int) (some (j : Int)) none))) Fa = some (.lst (fs.map V.int)) := by
            rw [upd_ne (ne_of_none hJ2 na)]
            exact hJ2
          refine ⟨.ref Fa, rfl, _, rfl, _, rfl, Fa, _, rfl, .inl (.inl hJ3), fun b nb => ?_⟩
          have nab : a ≠ b := ne_of_none upd_same nb
          refine ⟨a, b, _, _, rfl, rfl, by rw [upd_ne nab]; exact upd_same, upd_same, ?_, fun c nc => ?_⟩
          · rw [cut_drop, cut_take, List.length_drop, List.length_take, List.length_map]
            exact Nat.le_of_lt (small1000 (by omega))
          · have aT := TG2.apart na
            have TG3 := TG2.put (o := .lst (cutV (fs.map V.int) (some (j : Int)) none)) aT.1 aT.2
            have bT := TG3.apart nb
            have TG4 := TG3.put (o := .lst (cutV (fs.map V.int) none (some (j : Int)))) bT.1 bT.2
            have cT := TG4.apart nc
            refine q _ c (fs.drop j ++ fs.take j) (but_new (but_new (but_new (hBJ.trans hB2) na) nb) nc) (TG4.put cT.1 cT.2) ?_ ?_ ?_ ?_
            · rw [upd_same, cut_drop, cut_take, List.map_append, List.map_drop, List.map_take]
            · rw [List.length_append, List.length_drop, List.length_take]
              omega
            · intro x hx
              rcases List.mem_append.mp hx with z | z
              · exact hfn x (List.mem_of_mem_drop z)
              · exact hfn x (List.mem_of_mem_take z)
            · have e : (fs.drop j ++ fs.take j).sum = fs.sum := by
                rw [List.sum_append]
                conv => rhs; rw [← List.take_append_drop j fs, List.sum_append]
                omega
              omega
end
end K24
/-! The law's drawn petition threshold. -/
namespace K24
open PySem PySem.Spec PyProof.Rows L2
theorem Tape.ints {H : Hp} {t l c : Addr} {ns cs : List Int} (T : Tape H t l ns) (h : H c = some (.lst (cs.map V.int))) : c ≠ t := by
  obtain ⟨pl, big, st, T⟩ := T
  refine ne_of h T.at_ fun z => ?_
  injection z with z
  cases cs with
  | nil => cases z
  | cons x r => rw [List.map_cons] at z; injection z with z _; cases z
theorem at_ints (ns : List Int) {k : Int} (h0 : 0 ≤ k) (h1 : k < (ns.length : Int)) : ∃ v ∈ ns, atI (ns.map V.int) k = some (.int v) := by
  have hk : k.toNat < ns.length := by omega
  have e : (ns.map V.int)[k.toNat]? = some (.int ns[k.toNat]) := by
    rw [List.getElem?_map, List.getElem?_eq_getElem hk]
    rfl
  have e2 := atI_nat e
  rw [Int.toNat_of_nonneg h0] at e2
  exact ⟨_, List.getElem_mem hk, e2⟩
theorem scPet : FnScope ["_law_tape_here", "_law_counts", "_law_districts", "_law_total", "_law_per_district", "_law_required", "_law_many", "_law_d", "_law_count"] ["_law_tape_here", "_law_counts"] (defScope sPet) := ⟨rfl, rfl, rfl, by decide +kernel, rfl, by decide +kernel, by decide +kernel⟩
section
variable {P : Program} {w : World} {K : PySem.W.Frag} {mg : Str → Option Value} {base : Heap}
def spPet : Sp := fun vs H Q _ => ∃ (t c l : Addr) (ns cs : List Int), vs = [.ref t, .ref c] ∧ Tape H t l ns ∧ H c = some (.lst (cs.map V.int)) ∧ cs.length ≤ 9 ∧
  ∀ G u (d r : Nat) (tot per : Int), But t H G → Tape G t l ns → G u = some (thr (d : Nat) tot per (r : Nat)) → d ≤ 9 → r ≤ 9 → 0 ≤ tot → tot ≤ 100 → 0 ≤ per → per ≤ 100 → Q (.ref u) G
theorem ok_pet {f fD : Addr} {fd fdD : FuncData} (F : Fun K "_law_petition" "_law_petition" sPet f fd) (T : Free mg) (FD : Fun K "_law_draw" "_law_draw" sDraw fD fdD) (bD : Binds K fdD ["_law_tape_here", "_law_many"] []) (gD : mg "_law_draw" = some (.ref fD)) :
    FnOk P w K mg base CX0 2 f fd ["_law_tape_here", "_law_counts"] spPet := by
  have GD : FnOk P w K mg base CX0 1 fD fdD ["_law_tape_here", "_law_many"] spDraw := ok_draw FD T
  refine F.ok scPet (fun vs H Q E h => ?_) (fun cdv A outer s H vs Q E hr h => ?_)
  · obtain ⟨t, c, l, ns, cs, rfl, _⟩ := h
    rfl
  · obtain ⟨t, c, l, ns, cs, rfl, hT, hC, hl, q⟩ := h
    refine ⟨_, pss_cons (ps_set (i := 2) scPet.nd rfl (.inl rfl) (pe_call GD hr (by rfl) gD FD.kp bD .nil pass0 (pa_cons (pv 0) (pa_cons pe_int pa_nil))))
      (C8.pss_cut (ps_if (pt_cmpR op_gt (pe_call GD hr (by rfl) gD FD.kp bD .nil pass0 (pa_cons (pv 0) (pa_cons pe_int pa_nil))) pe_int (nomark _))
        (pss_one (ps_set (i := 2) scPet.nd rfl (.inl rfl) (pe_callB (cr_max rfl) (by rfl) T.max (by decide +kernel) (pa_cons (pe_op op_cat (pe_lst (pa_cons pe_int pa_nil))
          (pe_lc (own := [("_law_d", 7)]) (g := gName 7) rfl scPet.nd (pi_range1 rfl T.range (pa_cons (pe_callB call_len_seq (by rfl) T.len PySem.boot_len (pa_cons (pv 1) pa_nil)) pa_nil))
            (blkOk_by (own := [("_law_d", 7)]) (N := ["_law_tape_here", "_law_counts", "_law_districts", "_law_total", "_law_per_district", "_law_required", "_law_many", "_law_d", "_law_count"]) (sc := defScope sPet) (by decide +kernel))
            (fun _ _ _ _ _ => pg_name (i := 7) scPet.nd rfl (Or.inl rfl)) (fun _ _ _ _ _ => pts_one (pt_cmpR op_gt (pe_ix (r := rIxL K) ix_list (pv 1) (pv 7) (fun _ _ => rfl)) pe_int (nomark _))) (fun _ _ _ _ _ => pe_op op_add (pv 7) pe_int))) pa_nil)))) pss_nil)
      (pss_cons (ps_set (i := 3) scPet.nd rfl (.inl rfl) (pe_call GD hr (by rfl) gD FD.kp bD .nil pass0 (pa_cons (pv 0) (pa_cons (pe_ix ix_list (pe_lst (pa_cons pe_int (pa_cons pe_int pa_nil)))
          (pe_call GD hr (by rfl) gD FD.kp bD .nil pass0 (pa_cons (pv 0) (pa_cons pe_int pa_nil))) (fun _ _ => rfl)) pa_nil))))
      (C8.pss_cut (ps_if (pt_cmpR op_gt (pe_call GD hr (by rfl) gD FD.kp bD .nil pass0 (pa_cons (pv 0) (pa_cons pe_int pa_nil))) pe_int (nomark _))
        (pss_one (ps_set (i := 3) scPet.nd rfl (.inl rfl) (pe_callB (call_min2 rfl) (by rfl) T.min (by decide +kernel) (pa_cons (pe_callB (call_max2 rfl) (by rfl) T.max (by decide +kernel) (pa_cons
          (pe_op op_sub (pe_op op_add (pe_callB (cr_sum rfl) (by rfl) T.sum (by decide +kernel) (pa_cons (pe_slice sl_list (pv 1) po_none (po_some (pv 2))) pa_nil)) (pe_call GD hr (by rfl) gD FD.kp bD .nil pass0 (pa_cons (pv 0) (pa_cons pe_int pa_nil)))) pe_int)
          (pa_cons pe_int pa_nil))) (pa_cons pe_int pa_nil))))) pss_nil)
      (pss_cons (ps_set (i := 4) scPet.nd rfl (.inr rfl) (pe_call GD hr (by rfl) gD FD.kp bD .nil pass0 (pa_cons (pv 0) (pa_cons (pe_ix ix_list (pe_lst (pa_cons pe_int (pa_cons pe_int (pa_cons pe_int (pa_cons pe_int pa_nil)))))
          (pe_call GD hr (by rfl) gD FD.kp bD .nil pass0 (pa_cons (pv 0) (pa_cons pe_int pa_nil))) (fun _ _ => rfl)) pa_nil))))
      (pss_cons (ps_set (i := 5) scPet.nd rfl (.inl rfl) (pe_call GD hr (by rfl) gD FD.kp bD .nil pass0 (pa_cons (pv 0) (pa_cons pe_int pa_nil))))
      (C8.pss_cut (ps_if (pt_cmpR op_gt (pe_call GD hr (by rfl) gD FD.kp bD .nil pass0 (pa_cons (pv 0) (pa_cons pe_int pa_nil))) pe_int (nomark _))
        (pss_cons (ps_set (i := 6) scPet.nd rfl (.inl rfl) (pe_callB call_len_seq (by rfl) T.len PySem.boot_len (pa_cons
          (pe_lc (own := [("_law_count", 8)]) (g := gName 8) rfl scPet.nd (pi_list (pe_slice sl_list (pv 1) po_none (po_some (pv 2))))
            (blkOk_by (own := [("_law_count", 8)]) (N := ["_law_tape_here", "_law_counts", "_law_districts", "_law_total", "_law_per_district", "_law_required", "_law_many", "_law_d", "_law_count"]) (sc := defScope sPet) (by decide +kernel))
            (fun _ _ _ _ _ => pg_name (i := 8) scPet.nd rfl (Or.inl rfl)) (fun _ _ _ _ _ => pts_one (pt_cmpR op_ge (pv 8) (pv 4) (nomark _))) (fun _ _ _ _ _ => pv 8)) pa_nil)))
        (pss_one (ps_set (i := 5) scPet.nd rfl (.inl rfl) (pe_callB (call_min2 rfl) (by rfl) T.min (by decide +kernel) (pa_cons (pe_callB (call_max2 rfl) (by rfl) T.max (by decide +kernel) (pa_cons
          (pe_op op_sub (pe_op op_add (pv 6) (pe_call GD hr (by rfl) gD FD.kp bD .nil pass0 (pa_cons (pv 0) (pa_cons pe_int pa_nil)))) pe_int)
          (pa_cons pe_int pa_nil))) (pa_cons pe_int pa_nil)))))) pss_nil)
      (pss_one (ps_ret (pe_tup (pa_cons (pv 2) (pa_cons (pv 3) (pa_cons (pv 4) (pa_cons (pv 5) pa_nil))))))))))))), ?_⟩
    have lm : (cs.map V.int).length = cs.length := List.length_map _
    have nct : c ≠ t := hT.ints hC
    -- the districts
    refine ⟨_, rfl, t, l, ns, 10, rfl, hT, by decide, fun G k hB TG k0 k1 => ?_⟩
    have k2 := mx_spec 10 1
    refine ⟨fun σ' J => ∃ d : Nat, d ≤ 9 ∧ σ' = [some (.ref t), some (.ref c), some (.int (d : Int)), none, none, none, none, none, none] ∧ But t H J ∧ Tape J t l ns, ?_, ?_⟩
    · refine ⟨_, rfl, t, l, ns, 3, rfl, TG, by decide, fun G2 j hB2 TG2 j0 j1 => ⟨_, 0, rfl, rfl, _, rfl, ite2 (fun e => ?_) (fun e => ?_)⟩⟩
      · refine ⟨by show 1 ≤ sizeLine; decide, fun z nz => ?_⟩
        have hBH := hB.trans hB2
        have hC2 := hBH _ _ nct hC
        have s1 : Same G2 (upd G2 z (.lst [V.int 0])) := same_new (Same.refl _) nz
        refine ⟨_, rfl, c, _, rfl, .inl (.inl (.inl (s1 _ _ hC2))), _, rfl, by omega, by rw [lm]; omega, fun D nD => ?_⟩
        refine lc_range (lo := 0) (fun i J => Same (upd G2 z (.lst [V.int 0])) J ∧ J D = some (.lst (((posAt cs i).map fun (d : Nat) => (d : Int) + 1).map V.int))) ⟨same_new (Same.refl _) nD, upd_same⟩ (fun i J hi h => ?_) (fun J h => ?_)
        · rw [lm, Int.toNat_natCast] at hi
          have e3 : (0 : Int) + (i : Int) = (i : Int) := Int.zero_add _
          rw [e3]
          refine ⟨rfl, .ref c, rfl, _, rfl, c, _, _, _, rfl, rfl, .inl (.inl (h.1 _ _ (s1 _ _ hC2))), atI_nat (map_int_get hi), _, 0, rfl, rfl, _, rfl, ite2 (fun e => ?_) (fun e => ?_)⟩
          · have e := of_decide_eq_true e
            refine ⟨_, rfl, _, 1, rfl, rfl, _, h.2, ?_, same_put h.1 nD, ?_⟩
            · rw [List.length_map, List.length_map]
              exact small1000 (by have := posAt_len cs i; omega)
            · rw [upd_same, posAt_succ, if_pos e, List.map_append, List.map_append]
              rfl
          · have e : ¬ 0 < cs.getD i 0 := fun z => e (decide_eq_true z)
            refine ⟨h.1, ?_⟩
            rw [posAt_succ, if_neg e, List.append_nil]
            exact h.2
        · obtain ⟨s2, hD⟩ := h
          have hz := s2 _ _ (upd_same (H := G2) (a := z) (o := .lst [V.int 0]))
          rw [lm, Int.toNat_natCast] at hD
          have hpl := posAt_len cs cs.length
          refine ⟨z, D, _, _, rfl, rfl, hz, hD, ?_, fun p np => ?_⟩
          · rw [List.length_map, List.length_map]
            exact Nat.le_of_lt (small1000 (by show 1 + _ ≤ 1000; omega))
          · refine ⟨p, 0 :: (posAt cs cs.length).map fun (d : Nat) => (d : Int) + 1, rfl, .inl (.inl (by rw [upd_same]; rfl)), by simp, fun m hm _ => ?_⟩
            have hm2 : ∃ d : Nat, d ≤ 9 ∧ m = (d : Int) := by
              rcases List.mem_cons.mp hm with y | y
              · exact ⟨0, by omega, y⟩
              · obtain ⟨d, hd, rfl⟩ := List.mem_map.mp y
                have := (posAt_mem hd).1
                exact ⟨d + 1, by omega, by omega⟩
            obtain ⟨d, hd, rfl⟩ := hm2
            have ss : Same G2 (upd J p (.lst ([V.int 0] ++ ((posAt cs cs.length).map fun (d : Nat) => (d : Int) + 1).map V.int))) := same_new (s1.trans s2) np
            exact ⟨d, hd, rfl, hBH.trans (But.of ss), TG2.same ss⟩
      · exact ⟨k.toNat, by omega, by rw [Int.toNat_of_nonneg k0]; rfl, hB.trans hB2, TG2⟩
    · rintro σ' J ⟨d, hd, rfl, hBJ, TJ⟩
      -- the total
      have hCJ := hBJ _ _ nct hC
      refine ⟨.ref t, rfl, by show 2 ≤ sizeLine; decide, fun z nz => ?_⟩
      have sz : Same J (upd J z (.lst [V.int 4, V.int 101])) := same_new (Same.refl _) nz
      have nzt := TJ.apart nz
      refine ⟨_, rfl, t, l, ns, 2, rfl, TJ.same sz, by decide, fun G2 j hB2 TG2 j0 j1 => ?_⟩
      have j2 := mx_spec 2 1
      obtain ⟨v, hv, ev⟩ := at_ints [4, 101] j0 (by show j < ((2 : Nat) : Int); omega)
      have hv2 : 0 ≤ v ∧ v ≤ 101 := by
        rcases List.mem_cons.mp hv with y | y
        · omega
        · have := List.mem_singleton.mp y
          omega
      refine ⟨z, _, j, _, rfl, rfl, .inl (.inl (hB2 _ _ nzt.1 upd_same)), ev, t, l, ns, v, rfl, TG2, by omega, fun G3 tot hB3 TG3 u0 u1 => ?_⟩
      have hBH3 := ((hBJ.trans (But.of sz)).trans hB2).trans hB3
      have u2 : tot ≤ 100 := by
        have := mx_spec v 1
        omega
      refine ⟨fun σ' J => ∃ tot : Int, 0 ≤ tot ∧ tot ≤ 100 ∧ σ' = [some (.ref t), some (.ref c), some (.int (d : Int)), some (.int tot), none, none, none, none, none] ∧ But t H J ∧ Tape J t l ns, ?_, ?_⟩
      · refine ⟨_, rfl, t, l, ns, 3, rfl, TG3, by decide, fun G4 j hB4 TG4 j0 j1 => ⟨_, 0, rfl, rfl, _, rfl, ite2 (fun e => ?_) (fun e => ?_)⟩⟩
        · have hBH4 := hBH3.trans hB4
          have hC4 := hBH4 _ _ nct hC
          refine ⟨.ref c, rfl, _, rfl, _, rfl, c, _, rfl, .inl (.inl hC4), fun p np => ?_⟩
          rw [cut_take, ← List.map_take]
          have sp := same_new (o := .lst ((cs.take d).map V.int)) (Same.refl G4) np
          refine ⟨p, _, rfl, .inl (.inl upd_same), _, rfl, t, l, ns, 5, rfl, TG4.same sp, by decide, fun G5 m hB5 TG5 m0 m1 => ?_⟩
          refine ⟨_, m, rfl, rfl, _, 2, rfl, rfl, _, 0, rfl, _, 100, rfl, ?_⟩
          refine ⟨_, ?_, ?_, rfl, (hBH4.trans (But.of sp)).trans hB5, TG5⟩
          · show 0 ≤ mn (mx ((cs.take d).sum + m - 2) 0) 100
            have a1 := mx_spec ((cs.take d).sum + m - 2) 0
            have a2 := mn_spec (mx ((cs.take d).sum + m - 2) 0) 100
            omega
          · show mn (mx ((cs.take d).sum + m - 2) 0) 100 ≤ 100
            have a2 := mn_spec (mx ((cs.take d).sum + m - 2) 0) 100
            omega
        · exact ⟨tot, u0, u2, rfl, hBH3.trans hB4, TG4⟩
      · rintro σ' J ⟨tot, t0, t1, rfl, hBJ, TJ⟩
        have hCJ := hBJ _ _ nct hC
        -- per district
        refine ⟨.ref t, rfl, by show 4 ≤ sizeLine; decide, fun z nz => ?_⟩
        have sz : Same J (upd J z (.lst [V.int 3, V.int 3, V.int 8, V.int 101])) := same_new (Same.refl _) nz
        have nzt := TJ.apart nz
        refine ⟨_, rfl, t, l, ns, 4, rfl, TJ.same sz, by decide, fun G2 j hB2 TG2 j0 j1 => ?_⟩
        have j2 := mx_spec 4 1
        obtain ⟨v, hv, ev⟩ := at_ints [3, 3, 8, 101] j0 (by show j < ((4 : Nat) : Int); omega)
        have hv2 : 0 ≤ v ∧ v ≤ 101 := by
          simp only [List.mem_cons, List.not_mem_nil, or_false] at hv
          omega
        refine ⟨z, _, j, _, rfl, rfl, .inl (.inl (hB2 _ _ nzt.1 upd_same)), ev, t, l, ns, v, rfl, TG2, by omega, fun G3 per hB3 TG3 u0 u1 => ?_⟩
        have hBH3 := ((hBJ.trans (But.of sz)).trans hB2).trans hB3
        have u2 : per ≤ 100 := by
          have := mx_spec v 1
          omega
        -- required
        refine ⟨_, rfl, t, l, ns, 10, rfl, TG3, by decide, fun G4 r hB4 TG4 r0 r1 => ?_⟩
        have r2 := mx_spec 10 1
        have hBH4 := hBH3.trans hB4
        refine ⟨fun σ' J => ∃ (r : Nat) (y : Option V), r ≤ 9 ∧ σ' = [some (.ref t), some (.ref c), some (.int (d : Int)), some (.int tot), some (.int per), some (.int (r : Int)), y, none, none] ∧ But t H J ∧ Tape J t l ns, ?_, ?_⟩
        · refine ⟨_, rfl, t, l, ns, 3, rfl, TG4, by decide, fun G5 j hB5 TG5 j0 j1 => ⟨_, 0, rfl, rfl, _, rfl, ite2 (fun e => ?_) (fun e => ?_)⟩⟩
          · have hBH5 := hBH4.trans hB5
            have hC5 := hBH5 _ _ nct hC
            refine ⟨.ref c, rfl, _, rfl, _, rfl, c, _, rfl, .inl (.inl hC5), fun p np => ?_⟩
            rw [cut_take]
            have sp : Same G5 (upd G5 p (.lst ((cs.map V.int).take d))) := same_new (Same.refl _) np
            refine ⟨p, rfl, ⟨_, .inl (.inl upd_same)⟩, fun D nD => ?_⟩
            refine lc_list (xs := (cs.map V.int).take d) (fun i J => Same (upd G5 p (.lst ((cs.map V.int).take d))) J ∧ ∃ ys : List V, ys.length ≤ i ∧ J D = some (.lst ys)) ⟨same_new (Same.refl _) nD, [], Nat.le_refl 0, upd_same⟩
              (fun i J _ h => .inl (.inl (h.1 _ _ upd_same))) (fun i x J hx h => ?_) (fun J h => ?_)
            · obtain ⟨s2, ys, hy, hD⟩ := h
              have hm := List.mem_of_mem_take (List.mem_of_getElem? hx)
              have hi := (List.getElem?_eq_some_iff.mp hx).1
              rw [List.length_take, lm] at hi
              obtain ⟨n, _, rfl⟩ := List.mem_map.mp hm
              refine ⟨rfl, _, rfl, _, rfl, n, per, rfl, rfl, _, rfl, ite2 (fun e => ?_) (fun e => ?_)⟩
              · refine ⟨_, rfl, ys, hD, small1000 (by omega), same_put s2 nD, _, ?_, upd_same⟩
                rw [List.length_append]
                show ys.length + 1 ≤ i + 1
                omega
              · exact ⟨s2, ys, by omega, hD⟩
            · obtain ⟨s2, ys, hy, hD⟩ := h
              have ss := sp.trans s2
              refine ⟨D, _, rfl, .inl (.inl (.inl hD)), _, rfl, _, rfl, t, l, ns, 3, rfl, TG5.same ss, by decide, fun G6 m hB6 TG6 m0 m1 => ?_⟩
              refine ⟨_, m, rfl, rfl, _, 1, rfl, rfl, _, 0, rfl, _, 9, rfl, ?_⟩
              have a1 := mx_spec ((ys.length : Int) + m - 1) 0
              have a2 := mn_spec (mx ((ys.length : Int) + m - 1) 0) 9
              refine ⟨(mn (mx ((ys.length : Int) + m - 1) 0) 9).toNat, some (.int (ys.length : Int)), by omega, ?_, (hBH5.trans (But.of ss)).trans hB6, TG6⟩
              rw [Int.toNat_of_nonneg (by omega)]
              rfl
          · exact ⟨r.toNat, none, by omega, by rw [Int.toNat_of_nonneg r0]; rfl, hBH4.trans hB5, TG5⟩
        · rintro σ' J ⟨r, y, hr9, rfl, hBJ, TJ⟩
          refine ⟨_, rfl, _, rfl, _, rfl, _, rfl, by show 4 ≤ sizeLine; decide, fun u nu => ?_⟩
          exact q _ u d r tot per (but_new hBJ nu) (TJ.put (TJ.apart nu).1 (TJ.apart nu).2) upd_same hd hr9 t0 t1 u0 u2
end
end K24
/-! The program's qualifies and counts_of_districts. -/
namespace K24
open PySem PySem.Spec PyProof.Rows L2
theorem rep_flat {α : Type} (n : Nat) (a : α) : (List.replicate n [a]).flatten = List.replicate n a := by
  induction n with
  | zero => rfl
  | succ n ih => rw [List.replicate_succ, List.flatten_cons, ih, List.replicate_succ]; rfl
theorem foldl_next {l : List (Int × Int)} {f : List Int} {i : Nat} {q : Int × Int} (h : l[i]? = some q) : (l.take (i + 1)).foldl bump f = bump ((l.take i).foldl bump f) q := by
  rw [List.take_add_one, h, Option.toList_some, List.foldl_append]
  rfl
theorem scQual : FnScope ["threshold", "signatures", "districts", "least", "per_district", "required", "counts", "district", "signer", "enough", "count"] ["threshold", "signatures"] (defScope sQual) := ⟨rfl, rfl, rfl, by decide +kernel, rfl, by decide +kernel, by decide +kernel⟩
section
variable {P : Program} {w : World} {K : PySem.W.Frag} {mg : Str → Option Value} {base : Heap}
def spQual : Sp := fun vs H Q _ => ∃ (t u : Addr) (l p r : Int) (c : List Int) (ks : List (Addr × (Int × Int))), vs = [.ref t, .ref u] ∧ H t = some (thr (c.length : Nat) l p r) ∧ H u = some (.tup (ks.map fun e => V.ref e.1)) ∧ PrsAt H ks ∧ ks.map (·.2) = sgs c c.length ∧
  (∀ x ∈ c, 0 ≤ x) ∧ c.length ≤ 9 ∧ c.sum ≤ 60 ∧ ∀ G b, Same H G → (b = true ↔ enough l p r c) → Q (.bl b) G
theorem ok_qual {f : Addr} {fd : FuncData} (F : Fun K "qualifies" "qualifies" sQual f fd) (T : Free mg) : FnOk P w K mg base CX0 1 f fd ["threshold", "signatures"] spQual := by
  refine F.ok scQual (fun vs H Q E h => ?_) (fun cdv A outer s H vs Q E hr h => ?_)
  · obtain ⟨t, u, l, p, r, c, ks, rfl, _⟩ := h
    rfl
  · obtain ⟨t, u, l, p, r, c, ks, rfl, hT, hU, hP, hk, hn, hl, hs, q⟩ := h
    refine ⟨_, pss_cons (ps_asg (pv 0) (pg_tup rfl (pgs_cons (pg_name (i := 2) scQual.nd rfl (.inl rfl)) (pgs_cons (pg_name (i := 3) scQual.nd rfl (.inl rfl)) (pgs_cons (pg_name (i := 4) scQual.nd rfl (.inr rfl)) (pgs_cons (pg_name (i := 5) scQual.nd rfl (.inl rfl)) pgs_nil))))))
      (pss_cons (ps_if (pt_cmpR op_lt (pe_lenSetTT rfl hr.units (by rfl) T.len (by rfl) T.set (pv 1)) (pe_callB call_len_seq (by rfl) T.len PySem.boot_len (pa_cons (pv 1) pa_nil)) (nomark _)) pss_never pss_nil)
      (pss_cons (ps_set (i := 6) scQual.nd rfl (.inl rfl) (pe_op op_rep (pe_lst (pa_cons pe_int pa_nil)) (pv 2)))
      (pss_cons (ps_for PassesOwn.never rfl (pi_tup (pv 1)) (pg_tup rfl (pgs_cons (pg_name (i := 7) scQual.nd rfl (.inl rfl)) (pgs_cons (pg_name (i := 8) scQual.nd rfl (.inl rfl)) pgs_nil)))
        (pss_cons (ps_if (pt_cmpR op_ge (pv 7) (pv 2) (nomark _)) pss_never pss_nil) (pss_one (ps_augS (pv 6) (pv 7) pg_lst pe_int ip_add set_list))))
      (pss_cons (ps_setLc (i := 9) (own := [("count", 10)]) (g := gName 10) rfl scQual.nd rfl rfl (sw_true rfl rfl rfl (by decide +kernel)) (pi_list (pv 6))
          (blkOk_by (own := [("count", 10)]) (N := ["threshold", "signatures", "districts", "least", "per_district", "required", "counts", "district", "signer", "enough", "count"]) (sc := defScope sQual) (by decide +kernel))
          (fun _ _ _ _ _ => pg_name (i := 10) scQual.nd rfl (Or.inl rfl)) (fun _ _ _ _ _ => pts_one (pt_cmpR op_ge (pv 10) (pv 4) (nomark _))) (fun _ _ _ _ _ => pv 10))
      (pss_one (ps_ret (pe_and (pe_cmpR op_ge (pe_callB call_len_seq (by rfl) T.len PySem.boot_len (pa_cons (pv 1) pa_nil)) (pv 3) (nomark _))
        (pe_one (pe_cmpR op_ge (pe_callB call_len_seq (by rfl) T.len PySem.boot_len (pa_cons (pv 9) pa_nil)) (pv 5) (nomark _)))))))))), ?_⟩
    have hlen : ks.length = (sgs c c.length).length := by rw [← hk, List.length_map]
    have hsum := sgs_all_len hn
    have hk60 : ks.length ≤ 60 := by omega
    refine ⟨_, rfl, t, _, rfl, .inl (.inl hT), rfl, _, _, rfl, _, _, rfl, _, _, rfl, _, _, rfl, rfl, ?_⟩
    refine ⟨_, rfl, u, ks.map fun e => (e.1, [e.2.1, e.2.2]), rfl, ?_, ?_, ?_, ?_, ?_⟩
    · rw [List.map_map]
      exact .inl (.inl hU)
    · intro e he
      obtain ⟨e', he', rfl⟩ := List.mem_map.mp he
      exact .inl (.inl (hP e' he'))
    · have e : ((ks.map fun e => (e.1, [e.2.1, e.2.2])).map (·.2)) = (ks.map (·.2)).map fun p => [p.1, p.2] := by
        rw [List.map_map, List.map_map]
        rfl
      rw [e, hk, List.nodup_iff_pairwise_ne, List.pairwise_map]
      refine List.Pairwise.imp ?_ (sgs_nodup c c.length)
      intro a b hab e
      injection e with e1 e2
      injection e2 with e2 _
      exact hab (Prod.ext e1 e2)
    · rw [List.length_map]
      omega
    · refine ⟨_, rfl, u, _, rfl, .inr (.inl (.inl hU)), _, _, rfl, rfl, _, rfl, ite2 (fun e => ?_) (fun e => ?_)⟩
      · exfalso
        have e := of_decide_eq_true e
        rw [List.length_map, List.length_map] at e
        omega
      · refine ⟨by show 1 ≤ sizeLine; decide, fun z nz => ?_⟩
        have s1 : Same H (upd H z (.lst [V.int 0])) := same_new (Same.refl _) nz
        refine ⟨_, rfl, z, (c.length : Int), _, rfl, rfl, upd_same, by omega, by omega, ?_, fun Ca nC => ?_⟩
        · rw [Int.toNat_natCast]
          show 1 * c.length ≤ sizeLine
          exact Nat.le_of_lt (small1000 (by omega))
        · rw [rep_flat, Int.toNat_natCast]
          have s2 := same_new (o := .lst (List.replicate c.length (V.int 0))) s1 nC
          have nCH := s1.free nC
          refine ⟨.ref u, rfl, u, rfl, ⟨_, .inl (.inl (s2 _ _ hU))⟩, for_tup (xs := ks.map fun e => V.ref e.1) (fun i σ G => (∃ y z : Option V, σ = [some (.ref t), some (.ref u), some (.int (c.length : Nat)), some (.int l), some (.int p), some (.int r), some (.ref Ca), y, z, none, none]) ∧
              Same H G ∧ G Ca = some (.lst ((((sgs c c.length).take i).foldl bump (List.replicate c.length 0)).map V.int)))
            ⟨⟨_, _, rfl⟩, s2, ?_⟩ (fun i σ G _ h => .inl (.inl (h.2.1 _ _ hU))) (fun i x σ G hx h => ?_) (fun σ G h => ?_)⟩
          · rw [upd_same, List.take_zero, List.foldl_nil, List.map_replicate]
          · obtain ⟨⟨y, z, rfl⟩, sG, hC⟩ := h
            rw [List.getElem?_map] at hx
            obtain ⟨e, he, rfl⟩ := Option.map_eq_some_iff.mp hx
            have hm := List.mem_of_getElem? he
            have hg : (sgs c c.length)[i]? = some e.2 := by
              rw [← hk, List.getElem?_map, he]
              rfl
            have hE := sG _ _ (hP e hm)
            obtain ⟨d, hd, ed⟩ := mem_sgs (List.mem_of_getElem? hg)
            have hbl : (((sgs c c.length).take i).foldl bump (List.replicate c.length 0)).length = c.length := by rw [bump_len, List.length_replicate]
            refine ⟨e.1, _, rfl, .inl (.inl hE), rfl, _, _, rfl, _, _, rfl, rfl, ?_⟩
            refine ⟨_, rfl, _, rfl, e.2.1, _, rfl, rfl, _, rfl, ite2 (fun y => ?_) (fun y => ?_)⟩
            · exfalso
              have y := of_decide_eq_true y
              omega
            · refine ⟨.ref Ca, rfl, .int e.2.1, rfl, Ca, _, d, _, rfl, by rw [ed], .inl (.inl hC), map_int_get (by omega), _, 1, rfl, rfl, Ca, _, e.2.1, d, rfl, rfl, hC, by rw [ed]; exact ixN_at (by rw [List.length_map]; omega), ?_⟩
              refine ⟨⟨_, _, rfl⟩, same_put sG nCH, ?_⟩
              rw [upd_same, foldl_next hg]
              unfold bump
              rw [ed, Int.toNat_natCast, List.map_set]
          · obtain ⟨⟨y, z, rfl⟩, sG, hC⟩ := h
            rw [List.length_map, hlen, List.take_length, bump_all hn] at hC
            refine ⟨.ref Ca, rfl, Ca, rfl, ⟨_, .inl (.inl hC)⟩, fun D nD => lc_list (xs := c.map V.int) (fun i J => Same G J ∧ J D = some (.lst (((c.take i).filter fun x => decide (p ≤ x)).map V.int))) ⟨same_new (Same.refl _) nD, upd_same⟩ (fun i J _ h => .inl (.inl (h.1 _ _ hC))) (fun i x J hx h => ?_) (fun J h => ?_)⟩
            · rw [List.getElem?_map] at hx
              obtain ⟨n, hn, rfl⟩ := Option.map_eq_some_iff.mp hx
              have ef := fil_succ (p := p) hn
              have el : ((c.take i).filter fun x => decide (p ≤ x)).length ≤ c.length := Nat.le_trans (List.length_filter_le _ _) (by rw [List.length_take]; omega)
              refine ⟨rfl, _, rfl, _, rfl, n, p, rfl, rfl, _, rfl, ite2 (fun e => ?_) (fun e => ?_)⟩
              · have e := of_decide_eq_true e
                refine ⟨_, rfl, _, h.2, ?_, same_put h.1 nD, ?_⟩
                · rw [List.length_map]
                  exact small1000 (by omega)
                · rw [upd_same, ef, if_pos e, List.map_append]
                  rfl
              · have e : ¬ p ≤ n := fun z => e (decide_eq_true z)
                refine ⟨h.1, ?_⟩
                rw [ef, if_neg e, List.append_nil]
                exact h.2
            · rw [List.take_of_length_le (by rw [List.length_map]; omega)] at h
              have sE := sG.trans h.1
              refine ⟨.ref u, rfl, u, _, rfl, .inr (.inl (.inl (sE _ _ hU))), _, rfl, _, l, rfl, rfl, _, rfl, ite2 (fun e1 => ?_) (fun e1 => ?_)⟩
              · have e1 := of_decide_eq_true e1
                refine ⟨.ref D, rfl, D, _, rfl, .inl (.inl (.inl h.2)), _, rfl, _, r, rfl, rfl, q _ _ sE ?_⟩
                rw [List.length_map] at e1 ⊢
                exact ⟨fun z => ⟨by omega, of_decide_eq_true z⟩, fun z => decide_eq_true z.2⟩
              · have e1 : ¬ l ≤ ((ks.map fun e => V.ref e.1).length : Int) := fun z => e1 (decide_eq_true z)
                rw [List.length_map] at e1
                exact q _ _ sE ⟨fun z => Bool.noConfusion z, fun z => absurd (show l ≤ (ks.length : Int) by have := z.1; omega) e1⟩
end
end K24
/-! sorted(range(n), key=f) at the library's level, f giving the pair of a shortfall and the number. -/
namespace K24
open PySem PySem.Calls PyProof.Rows PySem.W
/-- the key of district x -/
def keyD (sh : List Int) (x : Int) : PyData := .tuple [.int (sh.getD x.toNat 0), .int x]
theorem sort_rank (sh : List Int) : ((List.range sh.length).map fun (d : Nat) => (d : Int)).mergeSort (dataLe false (keyD sh)) = (rank sh).map (·.2) := by
  have e : dataLe false (keyD sh) = fun p q => decide (sh.getD p.toNat 0 < sh.getD q.toNat 0 ∨ (sh.getD p.toNat 0 = sh.getD q.toNat 0 ∧ p ≤ q)) := dataLe_ii (fun x : Int => sh.getD x.toNat 0) fun x : Int => x
  rw [e]
  have hp := List.mergeSort_perm ((List.range sh.length).map fun (d : Nat) => (d : Int)) fun p q => decide (sh.getD p.toNat 0 < sh.getD q.toNat 0 ∨ (sh.getD p.toNat 0 = sh.getD q.toNat 0 ∧ p ≤ q))
  have hs := List.pairwise_mergeSort (le := fun p q : Int => decide (sh.getD p.toNat 0 < sh.getD q.toNat 0 ∨ (sh.getD p.toNat 0 = sh.getD q.toNat 0 ∧ p ≤ q)))
    (fun a b c h k => by
      have h := of_decide_eq_true h
      have k := of_decide_eq_true k
      exact decide_eq_true (by omega))
    (fun a b => by
      by_cases z : (sh.getD a.toNat 0 < sh.getD b.toNat 0 ∨ (sh.getD a.toNat 0 = sh.getD b.toNat 0 ∧ a ≤ b))
      · simp only [decide_eq_true z, Bool.true_or]
      · have y : sh.getD b.toNat 0 < sh.getD a.toNat 0 ∨ (sh.getD b.toNat 0 = sh.getD a.toNat 0 ∧ b ≤ a) := by omega
        simp only [decide_eq_true y, Bool.or_true])
    ((List.range sh.length).map fun (d : Nat) => (d : Int))
  generalize ((List.range sh.length).map fun (d : Nat) => (d : Int)).mergeSort (fun p q => decide (sh.getD p.toNat 0 < sh.getD q.toNat 0 ∨ (sh.getD p.toNat 0 = sh.getD q.toNat 0 ∧ p ≤ q))) = l at hp hs
  have h1 : l.map (fun x => (sh.getD x.toNat 0, x)) = rank sh := by
    refine rank_one ?_ ?_
    · have z := hp.map fun x => (sh.getD x.toNat 0, x)
      rw [List.map_map] at z
      exact z
    · rw [List.pairwise_map]
      refine List.Pairwise.imp ?_ hs
      intro a b hab
      exact of_decide_eq_true hab
  rw [← h1, List.map_map]
  exact (List.map_id l).symm
theorem ints_each : ∀ {out : List Value} {ns : List Int}, EachIs (fun v x => ∃ t, v = Value.int x t) out ns → IntsAre out ns
  | _, _, .nil => .nil
  | _, _, .cons h r => by
    obtain ⟨t, rfl⟩ := h
    exact .cons _ t (ints_each r)
theorem each_range : ∀ (n a : Nat) (vs : List Value), vs.length = n → (∀ (j : Nat) v, vs[j]? = some v → ∃ t, v = Value.int ((a + j : Nat) : Int) t) → EachIs (fun v x => ∃ t, v = Value.int x t) vs ((List.range' a n).map fun (d : Nat) => (d : Int))
  | 0, a, vs, hl, _ => by
    cases vs with
    | nil => exact .nil
    | cons v r => cases hl
  | n + 1, a, vs, hl, h => by
    cases vs with
    | nil => cases hl
    | cons v r =>
      rw [List.range'_succ, List.map_cons]
      refine .cons (h 0 v rfl) (each_range n (a + 1) r (by simpa using hl) fun j u hu => ?_)
      obtain ⟨t, e⟩ := h (j + 1) u (by simpa using hu)
      exact ⟨t, by rw [e]; congr 1; omega⟩
section
variable {prog : Program} {w : World} {A : Around} {E : Value → Shared → Prop} {s : Shared}
theorem sorted_range {r f : Addr} {t u v : Tok} {sh : List Int} {Q : Value → Shared → Prop} (hh : A.handled = none) (hr : IsRange s.heap r 0 (sh.length : Nat) 1 t u v) (hn : sh.length ≤ 1000) (hu : A.units + 10 < cLine)
    (turn : ∀ (d : Nat) (tk : Tok), d < sh.length → ∀ (h : Heap) (tk' : Nat), (∀ b o, s.heap.get? b = some o → h.get? b = some o) →
      wpAny (model prog w) A.in1.in1 (call (.ref f) [.int (d : Int) tk]) (KeyPure (keyD sh (d : Int)) { s with heap := h, toks := tk' }) (fun _ _ => False) { s with heap := h, toks := tk' })
    (q : ∀ (out : List Value) (c : Nat) (h1 h' : Heap) (tk : Nat) (p : Addr), (∀ b o, s.heap.get? b = some o → h1.get? b = some o) → (∀ b o, h1.get? b = some o → h'.get? b = some o) → p = h1.objs.size → h'.get? p = some (seqObj "list" out.toArray c) → IntsAre out ((rank sh).map (·.2)) → Q (.ref p) { s with heap := h', toks := tk }) :
    wpAny (model prog w) A (call (.builtin "sorted") [.ref r] [(Str.ofString "key", .ref f)]) Q E s := by
  have hz : sizeLine = 16777216 := sizeLine_eq
  refine call_function_entry_kw kind_sorted plain_sorted entry_sorted (ksk_s1 _ _) ?_
  unfold Builtin.«sorted»
  refine wpAny_bind (m := checkCount "sorted" 1 1 _) (wpAny_pure ?_)
  have hrs : Builtin.Range.rangeSize 0 (sh.length : Nat) 1 = sh.length := by
    have z := rangeSize_nat 0 (sh.length : Nat)
    rw [Int.sub_zero, Int.toNat_natCast] at z
    exact z
  refine wpAny_bind (L2.collect_range (n := sh.length) (show A.in1.handled = none from hh) hr (small_one (by omega) (by omega) (by omega) (by omega)) hrs (by omega) fun h1 tk1 acc k1 hi => ?_)
  have hal : acc.toList.length = sh.length := by rw [Array.length_toList]; exact hi.1
  refine wpAny_bind (wpAny_newList ?_ (by rw [hal]; omega))
  refine wpAny_bind (wpAny_holding (wpAny_call_entry_kw slot_list_sort ⟨_, Heap.get?_push_size _ rfl, rfl⟩ entry_list_sort ?_ (ksk_l1 _ _)))
  rw [ksk_t1]
  have kp : ∀ b o, s.heap.get? b = some o → (h1.push (seqObj "list" acc.toList.toArray 0)).get? b = some o := fun b o e => Heap.get?_push_of_some _ (k1 b o e)
  have fresh : ∀ b o, s.heap.get? b = some o → b ≠ h1.objs.size := fun b o e => Nat.ne_of_lt (Heap.lt_size (k1 b o e))
  have hEach : EachIs (fun v x => ∃ t, v = Value.int x t) acc.toList ((List.range sh.length).map fun (d : Nat) => (d : Int)) := by
    rw [List.range_eq_range']
    refine each_range _ _ _ hal fun j v hj => ?_
    rw [Array.getElem?_toList] at hj
    obtain ⟨t, e⟩ := hi.2 j v hj
    exact ⟨t, by rw [e]; congr 1; omega⟩
  refine keyH_tree (kz := ((List.range sh.length).map fun (d : Nat) => (d : Int)).map (keyD sh)) (vs := acc.toList) (n := 0) (s := { s with heap := h1.push (seqObj "list" acc.toList.toArray 0), toks := tk1 }) (Heap.get?_push_size _ rfl) (by rw [List.length_map, List.length_map, List.length_range, hal]) (by rw [hal]; omega)
    (AllAlike.of fun _ _ => rfl) (Sortable.tuples fun _ => ⟨_, _, rfl⟩) (fun d hd => ?_) (keyH_turns (s := { s with heap := h1.push (seqObj "list" acc.toList.toArray 0), toks := tk1 }) (k := keyD sh) hEach fun v x hR hx h tk kb => ?_) (fun h' tk out c kb hD ko => ⟨.none, rfl, ?_⟩)
  · obtain ⟨x, _, rfl⟩ := List.mem_map.mp hd
    have e : (keyD sh x).depth ≤ 2 := by
      unfold keyD
      simp [PyData.depth, PyData.depthAll]
    show A.units + 1 + 1 + _ < cLine
    omega
  · obtain ⟨d, hd, rfl⟩ := List.mem_map.mp hx
    obtain ⟨tv, rfl⟩ := hR
    exact turn d tv (List.mem_range.mp hd) h tk fun b o e => kb b o (fresh b o e) (kp b o e)
  · have kp1 : ∀ b o, h1.get? b = some o → h'.get? b = some o := fun b o e => kb b o (Nat.ne_of_lt (Heap.lt_size e)) (Heap.get?_push_of_some _ e)
    have hout := keyedOut_each (keyD sh) ko hEach
    rw [sort_rank] at hout
    exact wpAny_pure ⟨_, rfl, q out c h1 h' tk _ k1 kp1 rfl hD (ints_each hout)⟩
end
end K24
/-! The key's lambda, called: at the library's level. -/
namespace K24
open PySem PySem.Calls PyProof.Rows PySem.W
def lamP (a : Pos) : Arguments := { posonlyargs := [], args := [{ arg := "district", annotation := none, pos := a : Arg }], vararg := none, kwonlyargs := [], kw_defaults := [], kwarg := none, defaults := [] }
def lamB (a b c d e : Pos) : Expr := .Tuple [.Subscript (.Name "shortfalls" a) (.Name "district" b) c, .Name "district" d] 0 e
def lamS : Scope := { kind := .function, names := [(Str.ofString "district", .local), (Str.ofString "shortfalls", .free)], isGenerator := false, isCoroutine := false, more := [] }
section
variable {prog : Program} {w : World} {A : Around} {s : Shared}
theorem lam_call {f c' cS S : Addr} {qual : Str} {cl : List (Str × Addr)} {pm ctv : Value} {p0 p1 p2 p3 p4 p5 : Pos} {its : Array Value} {d : Nat} {n : Int} {tk tv : Tok} {sh : List Int}
    (ho : s.heap.get? f = some (kla_obj "<lambda>" qual (lamP p0) (lamB p1 p2 p3 p4 p5) lamS cl pm c' ctv)) (hcode : s.heap.CodeRec (.ref c') qual) (hcl : cl.lookup (Str.ofString "shortfalls") = some cS) (hcell : s.heap.IsCell cS (some (.ref S)))
    (hl : s.heap.IsList S its) (hd : its[d]? = some (.int n tv)) (hn : n = sh.getD d 0) (hb : d < 1000) (hroom : A.depth < recursionLimit) (hlim : s.heap.NoLimit) :
    wpAny (model prog w) A (call (.ref f) [.int (d : Int) tk]) (KeyPure (keyD sh (d : Int)) s) (fun _ _ => False) s := by
  refine wpAny_call (codeAny_mono (R := fun r s' => ∃ u, r = .ok (.ret u) ∧ KeyPure (keyD sh (d : Int)) s u s') ?_ fun r s' hr => ?_)
  · refine kla_callFunE hroom ho rfl rfl rfl rfl hcode ?_
    have hbind : bindArgs (kla_fn "<lambda>" qual (lamP p0) (lamB p1 p2 p3 p4 p5) lamS cl pm (.ref c') ctv) ⟨[.int (d : Int) tk], []⟩ = pure [(Str.ofString "district", .int (d : Int) tk)] := rfl
    rw [hbind]
    have h1 : ∀ x ∈ lamS.names, x.2 ≠ .cell := by decide
    have h2 : ∀ x ∈ [(Str.ofString "district", Value.int (d : Int) tk)], lamS.names.lookup x.1 = some .local := fun x hx => by
      rw [List.mem_singleton.mp hx]
      rfl
    refine wpAny_pure (wpAny_newFunctionEnv h1 h2 (fun h₁ hns hsb => ⟨hlim.fresh _ hsb, ?_⟩) rfl)
    have kp : ∀ b o, s.heap.get? b = some o → h₁.get? b = some o := fun b o e => hsb.extBut b o (Nat.ne_of_lt (Heap.lt_size e)) (Heap.get?_push_of_some _ e)
    refine kla_codeExpr ?_
    refine wpAny_mono (Q := fun u s' => KeyPure (keyD sh (d : Int)) s u s') (E := fun _ _ => False) ?_ (fun u s' h => ⟨u, rfl, h⟩) fun _ _ h => h.elim
    have hcell1 : h₁.IsCell cS (some (.ref S)) := by
      obtain ⟨o, e, z⟩ := hcell
      exact ⟨o, kp _ _ e, z⟩
    have hl1 : h₁.IsList S its := by
      obtain ⟨o, e, z⟩ := hl
      exact ⟨o, kp _ _ e, z⟩
    have hm : (fun x => ([(Str.ofString "district", Value.int (d : Int) tk)].reverse).lookup x) (Str.ofString "district") = some (.int (d : Int) tk) := rfl
    refine wpAny_Tuple_spliced ?_
    refine Calls.spliced_cons (Subscript_ (wpAny_Name (wpAny_loadName_free rfl rfl hcl hcell1 ?_ rfl) rfl))
    refine wpAny_Name (wpAny_loadName_local rfl rfl hns hm ?_) rfl
    refine item_listR hl1 (Int.natCast_nonneg d) (by omega) (by rw [Int.toNat_natCast]; exact hd) ?_
    refine Calls.spliced_cons (wpAny_Name (wpAny_loadName_local rfl rfl hns hm ?_) rfl)
    refine Calls.spliced_nil ?_
    refine ⟨by show 2 ≤ sizeLine; decide, _, _, rfl, fun b o e => Heap.get?_push_of_some _ (kp b o e), ?_⟩
    subst hn
    exact .tuple (as := []) (Heap.get?_push_size _ rfl) rfl rfl (.cons (as := []) (.int _ _) (.cons (as := []) (.int _ _) .nil))
  · obtain ⟨u, rfl, h⟩ := hr
    exact h
end
end K24
/-! sorted(range(n), key=lambda ..) over the layer. -/
namespace K24
open PySem PySem.Spec PyProof.Rows L2 LamX
section
variable {X : Cx}
/-- range(n) as a value -/
theorem cr_range0 : CallR X (.type "range") (fun vs H Q => ∃ n, vs = [V.int n] ∧ ∀ p, H p = none → Q (.ref p) (upd H p (.rng 0 n))) := by
  intro pins s st H vs us Q I r h
  obtain ⟨n, rfl, q⟩ := h
  cases r with
  | cons r1 r2 =>
    cases r2
    obtain ⟨t, rfl⟩ := r1
    refine call_range_1 ⟨.ref s.heap.objs.size, upd H s.heap.objs.size (.rng 0 n), I.laid (t' := s.toks + 1 + 1) (fun b o e => Heap.get?_push_of_some _ e) (Nat.le_refl _) ?_, rfl, q _ (I.hok.fresh (Nat.le_refl _))⟩
    exact ⟨_, _, _, Heap.get?_push_size _ rfl⟩
def rSortLam (T : List (Addr × Str)) (j : Nat) (σ : L2.St) (Q : VK) (x : V) (H1 : Hp) : Prop := ∃ (r S : Addr) (sh : List Int), x = .ref r ∧ H1 r = some (.rng 0 (sh.length : Nat)) ∧ Tabs T H1 ∧ σ[j]? = some (some (.ref S)) ∧ H1 S = some (.lst (sh.map V.int)) ∧ sh.length ≤ 1000 ∧
  ∀ G p, ExtN H1 G → Tabs T G → G p = some (.lst (((rank sh).map (·.2)).map V.int)) → Q (.ref p) G
def tSortLam (T : List (Addr × Str)) (j : Nat) (ta : TE) : TE := fun σ H Q => ta σ H (rSortLam T j σ Q)
theorem pe_sortLam {T : List (Addr × Str)} {c P : Addr} {j k : Nat} {e : Expr} {ta : TE} {p0 p1 p2 p3 p4 p5 pn lpos kpos pos : Pos} (hc : X.calm = true) (hr : Room k X.A) (hg : Gl X "sorted") (hm : X.mg "sorted" = none) (ha : PE X e ta)
    (TB : TabB X.base X.mg c P) (hcode : X.env.code = .ref c) (hmT : (P, X.env.qual ++ "<lambda>") ∈ T) (huT : ∀ p ∈ T, p.1 = P → p.2 = X.env.qual ++ "<lambda>") (hN : X.N[j]? = some (Str.ofString "shortfalls")) (hk : X.env.scope.names.lookup (Str.ofString "shortfalls") = some .cell)
    (hs : starEach [e] X.env = (false, eval e X.env) :: starEach [] X.env := by rfl)
    (hall : (backToKw pos (keywordEach [⟨some (Str.ofString "key"), .Lambda (lamP p0) (lamB p1 p2 p3 p4 p5) lamS lpos, kpos⟩] X.env)).all (·.1.isSome) = true := by rfl)
    (he : backTo pos (starEach [e] X.env) = (false, eval e X.env) :: backTo pos (starEach [] X.env) := by rfl) (hpl : (backTo pos (starEach [e] X.env)).any (·.1) = false := by rfl) :
    PE X (.Call (.Name "sorted" pn) [e] [⟨some (Str.ofString "key"), .Lambda (lamP p0) (lamB p1 p2 p3 p4 p5) lamS lpos, kpos⟩] pos) (tSortLam T j ta) := by
  refine ⟨fun pins s st H Q I h => ?_⟩
  refine wpAny_Call_Name_kw (ld_blt (u := .builtin "sorted") I hg hm (by decide +kernel) ?_)
  have hpa : PA X [e] (tCons ta tNil) := pa_cons ha pa_nil hs
  have h : tCons ta tNil st H (fun vs H1 => match vs with | [x] => rSortLam T j st Q x H1 | _ => False) := h
  refine PyProof.Rows.callWith_kw (thn (hpa.run pos pins s st H _ I h) fun us s1 ⟨vs, H1, I1, r1, q1⟩ => ?_) he hpl hall rfl
  obtain ⟨x, rfl⟩ : ∃ x, vs = [x] := by
    match vs, q1 with
    | [x], _ => exact ⟨x, rfl⟩
  obtain ⟨r, S, sh, rfl, hR, hT, hS, hL, hn, q⟩ := (show rSortLam T j st Q x H1 from q1)
  obtain ⟨t1, t2, t3, hrg⟩ := I1.hok r _ hR
  rw [Vals.ref1 r1]
  show wpAny _ _ (evalAll ((do let v ← eval (.Lambda (lamP p0) (lamB p1 p2 p3 p4 p5) lamS lpos) X.env; standAt pos; pure v) :: [])) _ _ s1
  have hfree : ∀ y ∈ lamS.names, y.2 = .free → ∃ c, X.env.cells.lookup y.1 = some c := fun y hy e => by
    rcases List.mem_cons.mp hy with z | z
    · rw [z] at e
      cases e
    · rw [List.mem_singleton.mp z]
      exact I1.ok.has _ (.inl hk)
  refine wpAny_evalAll_cons (wpAny_bind (lam_make2 I1 TB hcode hmT huT hT rfl hfree fun f c' pm ctv H2 s2 I2 eN T2 hf hfn hfr hco => wpAny_bind (wpAny_standAt (wpAny_pure (wpAny_evalAll_nil ?_)))))
  show wpAny (model X.prog X.w) X.A (call (.builtin "sorted") [.ref r] [(Str.ofString "key", .ref f)]) _ _ s2
  have hR2 := eN _ _ hR (fun ps z => by cases z)
  have hL2 := eN _ _ hL (fun ps z => by cases z)
  obtain ⟨t1, t2, t3, hrg2⟩ := I2.hok r _ hR2
  obtain ⟨its, rv, pl, hz⟩ := I2.list (.inl (.inl hL2))
  obtain ⟨m, hns, hlook⟩ := I2.loc
  obtain ⟨u, ru, hu⟩ := hlook j (Str.ofString "shortfalls") (.ref S) hN hS (.inr (.inl hk))
  obtain rfl : u = .ref S := ru
  obtain ⟨cS, hcS, hcell⟩ : ∃ cS, X.env.cells.lookup (Str.ofString "shortfalls") = some cS ∧ s2.heap.IsCell cS (some (.ref S)) := by
    rcases hu with ⟨z, _⟩ | ⟨_, z⟩
    · have z : X.env.scope.names.lookup (Str.ofString "shortfalls") = some .local := z
      rw [hk] at z
      cases z
    · exact z
  have hcl : (cloFrom X.env.cells lamS.names []).lookup (Str.ofString "shortfalls") = some cS := NdefX.clo_has hfree (by decide) hcS
  have hcd := NdefX.codeO_at I2.hok hco
  refine sorted_range (sh := sh) (I2.ok.hd hc) hrg2 hn (by have := hr.units; omega) (fun d tk hd h tk' kh => ?_) fun out n h1 h' tk p k1 k2 ep hD hI => ?_
  · have hcd' : h.CodeRec (.ref c') (X.env.qual ++ "<lambda>") := by
      obtain ⟨c0, oc, vs, t0, z, a1, a2, a3⟩ := hcd
      exact ⟨c0, oc, vs, t0, z, kh _ _ a1, a2, a3⟩
    have hcell' : h.IsCell cS (some (.ref S)) := by
      obtain ⟨o, z1, z2⟩ := hcell
      exact ⟨o, kh _ _ z1, z2⟩
    have hl' : h.IsList S its.toArray := by
      obtain ⟨o, z1, z2⟩ := pl.isList
      exact ⟨o, kh _ _ z1, z2⟩
    have hx : (sh.map V.int)[d]? = some (.int (sh.getD d 0)) := by
      rw [List.getElem?_map, List.getD_eq_getElem?_getD, List.getElem?_eq_getElem hd]
      rfl
    obtain ⟨u, hu, ru⟩ := rv.get hx
    obtain ⟨tv, rfl⟩ := ru
    refine lam_call (s := { s2 with heap := h, toks := tk' }) (kh _ _ hf) hcd' hcl hcell' hl' (by simpa using hu) rfl (by omega) ?_ (I2.nolimit.keeps kh)
    have z := hr.depth
    exact z
  · have hlen : (((rank sh).map (·.2)).map V.int).length ≤ sizeLine := by
      rw [List.length_map, List.length_map, rank_len]
      exact Nat.le_of_lt (small1000 hn)
    have I3 : Inv X pins st H2 { s2 with heap := h1, toks := tk } := I2.kept k1
    have nP : H2 p = none := I3.hok.fresh (Nat.le_of_eq ep.symm)
    have I4 := I3.laid (t' := tk) (a := p) (o := .lst (((rank sh).map (·.2)).map V.int)) k2 (Nat.le_of_eq ep.symm) ⟨hlen, out, n, vals_of_ints hI, hD⟩
    refine ⟨.ref p, _, I4, rfl, q _ p (eN.trans (ExtN.of fun b o e => ?_)) (T2.ext fun b o e => ?_) upd_same⟩
    · rw [upd_ne (ne_of_none e nP)]
      exact e
    · rw [upd_ne (ne_of_none e nP)]
      exact e
end
end K24
/-! counts_of_districts, further_signatures, signatures_needed. -/
namespace K24
open PySem PySem.Spec PyProof.Rows L2 LamX
theorem scCnt : FnScope ["districts", "counts", "known"] ["districts", "counts"] (defScope sCnt) := ⟨rfl, rfl, rfl, by decide +kernel, rfl, by decide +kernel, by decide +kernel⟩
theorem scFur : FnScope ["threshold", "counts", "districts", "least", "per_district", "required", "known", "ranked", "further", "district", "lacking", "shortfalls", "count"] ["threshold", "counts"] (defScope sFur) := ⟨rfl, rfl, rfl, by decide +kernel, rfl, by decide +kernel, by decide +kernel⟩
theorem scNeed : FnScope ["threshold", "counts", "further"] ["threshold", "counts"] (defScope sNeed) := ⟨rfl, rfl, rfl, by decide +kernel, rfl, by decide +kernel, by decide +kernel⟩
/-- the name of the lambda's code -/
def qLam : Str := (Str.ofString "further_signatures" ++ Str.ofString ".<locals>.") ++ Str.ofString "<lambda>"
/-- a def of the text whose code object stands at c -/
structure FunC (K : PySem.W.Frag) (x : Str) (st : Stmt) (f : Addr) (fd : FuncData) (c : Addr) : Prop where
  ex : ∃ (oc : Value) (od : Option Addr) (kV doc pm : Value) (an : Option Addr) (ct : Value) (osl : Array (Option Value)),
    fd = PySem.W.fnOf x x (defArgs st) (defBody st) (defScope st) .none kV doc pm an (.ref c) ct ∧ K.lookup f = some ⟨oc, od, .func fd, osl⟩ ∧ PySem.W.codeIn K (.ref c) x = true
  kp : PySem.W.keepIn K (.ref f) = true
section
variable {P : Program} {w : World} {K : PySem.W.Frag} {mg : Str → Option Value} {base : Heap}
def spCnt : Sp := fun vs H Q _ => ∃ (c : Addr) (d : Nat) (cs : List Int), vs = [.int (d : Int), .ref c] ∧ H c = some (.tup (cs.map V.int)) ∧ d ≤ 9 ∧ cs.length ≤ 9 ∧ ∀ G u, Same H G → G u = some (.lst ((pad cs d).map V.int)) → Q (.ref u) G
theorem ok_cnt {f : Addr} {fd : FuncData} (F : Fun K "counts_of_districts" "counts_of_districts" sCnt f fd) (T : Free mg) : FnOk P w K mg base CX0 1 f fd ["districts", "counts"] spCnt := by
  refine F.ok scCnt (fun vs H Q E h => ?_) (fun cdv A outer s H vs Q E hr h => ?_)
  · obtain ⟨c, d, cs, rfl, _⟩ := h
    rfl
  · obtain ⟨c, d, cs, rfl, hC, hd, hl, q⟩ := h
    refine ⟨_, pss_cons (ps_set (i := 2) scCnt.nd rfl (.inl rfl) (pe_callTy call_list_of (by rfl) T.list (by decide +kernel) (pa_cons (pe_slice sl_tupA (pv 1) po_none (po_some (pv 0))) pa_nil)))
      (pss_one (ps_ret (pe_op op_cat (pv 2) (pe_op op_rep (pe_lst (pa_cons pe_int pa_nil)) (pe_op op_sub (pv 0) (pe_callB call_len_seq (by rfl) T.len PySem.boot_len (pa_cons (pv 2) pa_nil))))))), ?_⟩
    have rest : ∀ (G : Hp) (l : Addr), Same H G → G l = none → tRet (tOp rCat (tVar 2) (tOp rRep (tLst (tCons (tC (.int 0)) tNil)) (tOp (rI0 fun i j => .int (i - j)) (tVar 0) (tCB (fun xs H Q => ∃ p ys, xs = [.ref p] ∧ (SqL K H p ys ∨ SqT K H p ys) ∧ Q (.int ys.length) H) (tCons (tVar 2) tNil)))))
        { nx := fun _ H' => Q .non H', rt := Q } [some (.int (d : Int)), some (.ref c), some (.ref l)] (upd G l (.lst ((cs.take d).map V.int))) := by
      intro G l sG nl
      have s1 : Same G (upd G l (.lst ((cs.take d).map V.int))) := same_new (Same.refl _) nl
      have hlen : ((cs.take d).map V.int).length = min d cs.length := by rw [List.length_map, List.length_take]
      refine ⟨_, rfl, by show 1 ≤ sizeLine; decide, fun z nz => ?_⟩
      have hL : (upd (upd G l (.lst ((cs.take d).map V.int))) z (.lst [V.int 0])) l = some (.lst ((cs.take d).map V.int)) := by
        rw [upd_ne (ne_of_none upd_same nz)]
        exact upd_same
      refine ⟨_, rfl, _, rfl, l, _, rfl, .inl (.inl (.inl hL)), _, _, rfl, rfl, z, _, _, rfl, rfl, upd_same, by omega, by omega, ?_, fun y ny => ?_⟩
      · show 1 * _ ≤ sizeLine
        rw [Nat.one_mul]
        exact Nat.le_of_lt (small1000 (by omega))
      · rw [rep_flat]
        have hL2 : (upd (upd (upd G l (.lst ((cs.take d).map V.int))) z (.lst [V.int 0])) y (.lst (List.replicate ((d : Int) - (((cs.take d).map V.int).length : Int)).toNat (V.int 0)))) l = some (.lst ((cs.take d).map V.int)) := by
          rw [upd_ne (ne_of_none hL ny)]
          exact hL
        refine ⟨l, y, _, _, rfl, rfl, hL2, upd_same, ?_, fun u nu => ?_⟩
        · rw [List.length_replicate]
          exact Nat.le_of_lt (small1000 (by omega))
        · refine q _ u (same_new (same_new (same_new (sG.trans s1) nz) ny) nu) ?_
          rw [upd_same]
          unfold pad
          rw [List.map_append, List.map_replicate, hlen]
          have e : ((d : Int) - ((min d cs.length : Nat) : Int)).toNat = d - cs.length := by omega
          rw [e]
    refine ⟨_, rfl, _, rfl, _, rfl, c, _, rfl, .inl (.inl hC), fun hw => ?_, fun hw p np => ?_⟩
    · have e : cs.take d = cs := by
        have z := hw.2
        rw [HT.sIx_nat, List.length_map] at z
        exact List.take_of_length_le (by omega)
      have hC2 : H c = some (.tup ((cs.take d).map V.int)) := by rw [e]; exact hC
      exact ⟨c, _, rfl, .inr (.inl (.inl hC2)), fun l nl => rest H l (Same.refl _) nl⟩
    · rw [cut_take, ← List.map_take]
      have s1 : Same H (upd H p (.tup ((cs.take d).map V.int))) := same_new (Same.refl _) np
      exact ⟨p, _, rfl, .inr (.inl (.inl upd_same)), fun l nl => rest _ l s1 nl⟩
def spFur (T : List (Addr × Str)) : Sp := fun vs H Q _ => ∃ (t c : Addr) (d r : Nat) (l p : Int) (cs : List Int), vs = [.ref t, .ref c] ∧ H t = some (thr (d : Nat) l p (r : Nat)) ∧ H c = some (.tup (cs.map V.int)) ∧ d ≤ 9 ∧ cs.length ≤ 9 ∧ Tabs T H ∧
  ((d < r ∨ (d = 0 ∧ 0 < l)) → Q .non H) ∧ (¬ (d < r ∨ (d = 0 ∧ 0 < l)) → ∀ G u, ExtN H G → Tabs T G → G u = some (.tup ((due p l r (pad cs d)).map V.int)) → Q (.ref u) G)
theorem ok_fur {f fC cF Pt : Addr} {fd fdC : FuncData} (F : FunC K "further_signatures" sFur f fd cF) (T : Free mg) (FC : Fun K "counts_of_districts" "counts_of_districts" sCnt fC fdC) (bC : Binds K fdC ["districts", "counts"] []) (gC : mg "counts_of_districts" = some (.ref fC)) (TB : TabB base mg cF Pt) :
    FnOk P w K mg base CX0 2 f fd ["threshold", "counts"] (spFur [(Pt, qLam)]) := by
  have GC : FnOk P w K mg base CX0 1 fC fdC ["districts", "counts"] spCnt := ok_cnt FC T
  obtain ⟨oc, od, kV, doc, pm, an, ct, osl, rfl, lk, hcd⟩ := F.ex
  refine fn_of lk hcd scFur (fun vs H Q E h => ?_) (fun A outer s H vs Q E hr h => ?_)
  · obtain ⟨t, c, d, r, l, p, cs, rfl, _⟩ := h
    rfl
  · obtain ⟨t, c, d, r, l, p, cs, rfl, hT, hC, hd, hl, hTab, q0, q1⟩ := h
    refine ⟨_, PSs.nox (pss_cons (ps_asg (pv 0) (pg_tup rfl (pgs_cons (pg_name (i := 2) scFur.nd rfl (.inl rfl)) (pgs_cons (pg_name (i := 3) scFur.nd rfl (.inl rfl)) (pgs_cons (pg_name (i := 4) scFur.nd rfl (.inr rfl)) (pgs_cons (pg_name (i := 5) scFur.nd rfl (.inl rfl)) pgs_nil))))))
      (C8.pss_cut (ps_if (PW.pt (pw_or (pt_cmpR op_gt (pv 5) (pv 2) (nomark _)) (pw_or1 (PW.pt (pw_and (pt_cmpR op_eq (pv 2) pe_int (nomark _)) (pw_and1 (pt_cmpR op_gt (pv 3) pe_int (nomark _)))))))) (pss_one (ps_ret pe_non)) pss_nil)
      (pss_cons (ps_set (i := 6) scFur.nd rfl (.inl rfl) (pe_call GC hr (by rfl) gC FC.kp bC .nil pass0 (pa_cons (pv 2) (pa_cons (pv 1) pa_nil))))
      (pss_cons (ps_set (i := 11) scFur.nd rfl (.inr rfl) (pe_lc (own := [("count", 12)]) (g := gName 12) (tt := tYes) rfl scFur.nd (pi_list (pv 6))
          (blkOk_by (own := [("count", 12)]) (N := ["threshold", "counts", "districts", "least", "per_district", "required", "known", "ranked", "further", "district", "lacking", "shortfalls", "count"]) (sc := defScope sFur) (by decide +kernel))
          (fun _ _ _ _ _ => pg_name (i := 12) scFur.nd rfl (Or.inl rfl)) (fun _ _ _ _ _ => pts_nil) (fun _ _ _ _ _ => pe_callB (call_max2 rfl) (by rfl) T.max (by decide +kernel) (pa_cons (pe_op op_sub (pv 4) (pv 12)) (pa_cons pe_int pa_nil)))))
      (pss_cons (ps_set (i := 7) scFur.nd rfl (.inl rfl) (pe_sortLam (T := [(Pt, qLam)]) (j := 11) (p0 := ⟨22, 49, 22, 57⟩) (p1 := ⟨22, 60, 22, 70⟩) (p2 := ⟨22, 71, 22, 79⟩) (p3 := ⟨22, 60, 22, 80⟩) (p4 := ⟨22, 82, 22, 90⟩) (p5 := ⟨22, 59, 22, 91⟩) rfl hr (by rfl) T.sorted
          (pe_callTy cr_range0 (by rfl) T.range (by decide +kernel) (pa_cons (pv 2) pa_nil)) TB rfl (List.mem_singleton.mpr rfl) (fun e he _ => by rw [List.mem_singleton.mp he]; rfl) rfl rfl))
      (pss_cons (ps_set (i := 8) scFur.nd rfl (.inl rfl) (pe_op op_rep (pe_lst (pa_cons pe_int pa_nil)) (pv 2)))
      (pss_cons (ps_for PassesOwn.never rfl (pi_list (pe_slice sl_list (pv 7) po_none (po_some (pv 5)))) (pg_name (i := 9) scFur.nd rfl (.inl rfl)) (pss_one (ps_asg (pe_ix ix_list (pv 11) (pv 9) (fun _ _ => rfl)) (pg_sub (pv 8) (pv 9) set_list))))
      (pss_cons (ps_set (i := 10) scFur.nd rfl (.inl rfl) (pe_op op_sub (pe_op op_sub (pv 3) (pe_callB (cr_sum rfl) (by rfl) T.sum (by decide +kernel) (pa_cons (pv 6) pa_nil))) (pe_callB (cr_sum rfl) (by rfl) T.sum (by decide +kernel) (pa_cons (pv 8) pa_nil))))
      (C8.pss_cut (ps_if (pt_cmpR op_gt (pv 10) pe_int (nomark _)) (pss_one (ps_augS (pv 8) pe_int pg_lst (pv 10) ip_add set_list)) pss_nil)
      (pss_one (ps_ret (pe_callTy call_tuple_of (by rfl) T.tuple (by decide +kernel) (pa_cons (pv 8) pa_nil))))))))))))), ?_⟩
    refine ⟨_, rfl, t, _, rfl, .inl (.inl hT), rfl, _, _, rfl, _, _, rfl, _, _, rfl, _, _, rfl, rfl, ?_⟩
    refine ⟨fun σ' G => G = H ∧ ¬ (d < r ∨ (d = 0 ∧ 0 < l)) ∧ σ' = [some (.ref t), some (.ref c), some (.int (d : Int)), some (.int l), some (.int p), some (.int (r : Int)), none, none, none, none, none, none, none], ?_, ?_⟩
    · refine ⟨_, rfl, _, rfl, _, _, rfl, rfl, _, rfl, ite2 (fun e => ?_) (fun e => ?_)⟩
      · have e := of_decide_eq_true e
        exact iteT (q0 (.inl (by omega)))
      · have e : ¬ (d : Int) < (r : Int) := fun z => e (decide_eq_true z)
        refine ⟨_, rfl, rfl, _, rfl, ite2 (fun e2 => ?_) (fun e2 => ?_)⟩
        · have e2 := V.int.inj (of_decide_eq_true e2)
          refine ⟨_, rfl, _, 0, rfl, rfl, _, rfl, ite2 (fun e3 => ?_) (fun e3 => ?_)⟩
          · have e3 := of_decide_eq_true e3
            exact q0 (.inr ⟨by omega, e3⟩)
          · have e3 : ¬ 0 < l := fun z => e3 (decide_eq_true z)
            exact ⟨rfl, by omega, rfl⟩
        · have e2 : ¬ (d : Int) = 0 := fun z => e2 (decide_eq_true (congrArg V.int z))
          exact iteF ⟨rfl, by omega, rfl⟩
    · rintro σ' G ⟨rfl, hcond, rfl⟩
      have q1 := q1 hcond
      refine ⟨_, rfl, _, rfl, c, d, cs, rfl, hC, hd, hl, fun G1 kn s1 hk => ?_⟩
      have hkl : (pad cs d).length = d := pad_len cs d
      have hsl : (shorts p (pad cs d)).length = d := by rw [shorts_len, hkl]
      refine ⟨_, rfl, kn, rfl, ⟨_, .inl (.inl hk)⟩, fun D nD => lc_list (xs := (pad cs d).map V.int) (fun i J => Same G1 J ∧ J D = some (.lst (((shorts p (pad cs d)).take i).map V.int))) ⟨same_new (Same.refl _) nD, upd_same⟩ (fun i J _ h => .inl (.inl (h.1 _ _ hk))) (fun i x J hx h => ?_) (fun J h => ?_)⟩
      · rw [List.getElem?_map] at hx
        obtain ⟨n, hn, rfl⟩ := Option.map_eq_some_iff.mp hx
        have hi := (List.getElem?_eq_some_iff.mp hn).1
        have eg : (shorts p (pad cs d))[i]? = some (mx (p - n) 0) := by
          unfold shorts
          rw [List.getElem?_map, hn]
          rfl
        refine ⟨rfl, _, rfl, _, rfl, p, n, rfl, rfl, p - n, 0, rfl, _, h.2, ?_, same_put h.1 nD, ?_⟩
        · rw [List.length_map, List.length_take]
          exact small1000 (by omega)
        · rw [upd_same, List.take_add_one, eg, List.map_append]
          rfl
      · obtain ⟨s2, hD⟩ := h
        rw [List.length_map, hkl, List.take_of_length_le (by omega)] at hD
        refine ⟨_, rfl, _, rfl, fun rr nr => ?_⟩
        have s3 : Same J (upd J rr (.rng 0 (d : Int))) := same_new (Same.refl _) nr
        have sH3 := (s1.trans s2).trans s3
        refine ⟨rr, D, shorts p (pad cs d), rfl, by rw [upd_same, hsl], hTab.ext sH3, rfl, s3 _ _ hD, by omega, fun G2 pR eN T2 hR => ?_⟩
        have hD2 := eN _ _ (s3 _ _ hD) (fun ps z => by cases z)
        have hk2 := eN _ _ (s3 _ _ (s2 _ _ hk)) (fun ps z => by cases z)
        have eH2 : ExtN G G2 := (ExtN.of sH3).trans eN
        -- the noughts
        refine ⟨by show 1 ≤ sizeLine; decide, fun z nz => ?_⟩
        refine ⟨_, rfl, z, _, _, rfl, rfl, upd_same, by omega, by omega, ?_, fun Fa nF => ?_⟩
        · show 1 * _ ≤ sizeLine
          rw [Nat.one_mul]
          exact Nat.le_of_lt (small1000 (by omega))
        · rw [rep_flat, Int.toNat_natCast]
          have s4 := same_new (o := .lst (List.replicate d (V.int 0))) (same_new (o := .lst [V.int 0]) (Same.refl G2) nz) nF
          have nFG : G2 Fa = none := (same_new (o := .lst [V.int 0]) (Same.refl G2) nz).free nF
          refine ⟨_, rfl, _, rfl, _, rfl, pR, _, rfl, .inl (.inl (s4 _ _ hR)), fun pS nS => ?_⟩
          rw [cut_take, ← List.map_take]
          have s5 := same_new (o := .lst ((((rank (shorts p (pad cs d))).map (·.2)).take r).map V.int)) s4 nS
          refine ⟨pS, rfl, ⟨_, .inl (.inl upd_same)⟩, for_list (xs := (((rank (shorts p (pad cs d))).map (·.2)).take r).map V.int) (fun i σ J2 => (∃ y : Option V, σ = [some (.ref t), some (.ref c), some (.int (d : Int)), some (.int l), some (.int p), some (.int (r : Int)), some (.ref kn), some (.ref pR), some (.ref Fa), y, none, some (.ref D), none]) ∧
              Same G2 J2 ∧ J2 pS = some (.lst ((((rank (shorts p (pad cs d))).map (·.2)).take r).map V.int)) ∧ J2 Fa = some (.lst ((lay (List.replicate (shorts p (pad cs d)).length 0) ((rank (shorts p (pad cs d))).take i)).map V.int)))
            ⟨⟨_, rfl⟩, s5, upd_same, ?_⟩ (fun i σ J2 _ h => .inl (.inl h.2.2.1)) (fun i x σ J2 hx h => ?_) (fun σ J2 h => ?_)⟩
          · rw [upd_ne (ne_of_none upd_same nS), upd_same, List.take_zero]
            show _ = some (HO.lst ((List.replicate (shorts p (pad cs d)).length (0 : Int)).map V.int))
            rw [List.map_replicate, hsl]
          · obtain ⟨⟨y, rfl⟩, sJ, hS, hL⟩ := h
            rw [List.getElem?_map] at hx
            obtain ⟨n, hn, rfl⟩ := Option.map_eq_some_iff.mp hx
            have hir : i < r := by
              have := (List.getElem?_eq_some_iff.mp hn).1
              rw [List.length_take] at this
              omega
            rw [List.getElem?_take_of_lt hir, List.getElem?_map] at hn
            obtain ⟨e, he, rfl⟩ := Option.map_eq_some_iff.mp hn
            obtain ⟨m, hm, rfl⟩ := mem_rank (List.mem_of_getElem? he)
            refine ⟨.ref D, rfl, _, rfl, D, _, _, _, rfl, rfl, .inl (.inl (sJ _ _ hD2)), atI_nat (map_int_get hm), .ref Fa, rfl, _, rfl, Fa, _, _, m, rfl, rfl, hL, ixN_at (by rw [List.length_map, lay_len, List.length_replicate]; exact hm), ?_⟩
            have nSF : pS ≠ Fa := (ne_of_none (upd_same (H := upd G2 z (.lst [V.int 0])) (a := Fa) (o := .lst (List.replicate d (V.int 0)))) nS).symm
            refine ⟨⟨_, rfl⟩, same_put sJ nFG, ?_, ?_⟩
            · rw [upd_ne nSF]
              exact hS
            · rw [upd_same, lay_next he, List.map_set, Int.toNat_natCast]
          · obtain ⟨⟨y, rfl⟩, sJ, hS, hL⟩ := h
            have hrd : r ≤ d := by omega
            have eT : (rank (shorts p (pad cs d))).take ((((rank (shorts p (pad cs d))).map (·.2)).take r).map V.int).length = (rank (shorts p (pad cs d))).take r := by
              rw [List.length_map, List.length_take, List.length_map, rank_len, hsl, Nat.min_eq_left hrd]
            rw [eT] at hL
            have hL : J2 Fa = some (.lst ((K24.base (shorts p (pad cs d)) r).map V.int)) := hL
            refine ⟨_, rfl, _, rfl, kn, _, rfl, .inl (.inl (sJ _ _ hk2)), l, _, rfl, rfl, .ref Fa, rfl, Fa, _, rfl, .inl (.inl hL), _, _, rfl, rfl, ?_⟩
            refine ⟨fun σ' J3 => σ'[8]? = some (some (.ref Fa)) ∧ Same G2 J3 ∧ J3 Fa = some (.lst ((due p l r (pad cs d)).map V.int)), ?_, ?_⟩
            · have eD : due p l r (pad cs d) = top0 (K24.base (shorts p (pad cs d)) r) (l - (pad cs d).sum - (K24.base (shorts p (pad cs d)) r).sum) := rfl
              unfold top0 at eD
              refine ⟨_, rfl, _, 0, rfl, rfl, _, rfl, ite2 (fun e => ?_) (fun e => ?_)⟩
              · have e := of_decide_eq_true e
                rw [if_pos (show l - (pad cs d).sum - (K24.base (shorts p (pad cs d)) r).sum > 0 from e)] at eD
                have hpos : 0 < (K24.base (shorts p (pad cs d)) r).length := by
                  rw [base_len, hsl]
                  have h1 := sum_nn (base_nn (shorts_nn p (pad cs d)) r)
                  cases d with
                  | zero =>
                    exfalso
                    have e1 : (pad cs 0).sum = 0 := by
                      rw [List.eq_nil_of_length_eq_zero (pad_len cs 0)]
                      rfl
                    omega
                  | succ d => exact Nat.succ_pos d
                have h0 : ((K24.base (shorts p (pad cs d)) r).map V.int)[0]? = some (.int ((K24.base (shorts p (pad cs d)) r).getD 0 0)) := map_int_get hpos
                refine ⟨.ref Fa, rfl, Fa, _, 0, _, rfl, rfl, .inl (.inl hL), h0, _, rfl, _, _, rfl, rfl, Fa, _, 0, 0, rfl, rfl, hL, ixN_at (j := 0) (by rw [List.length_map]; exact hpos), ?_⟩
                refine ⟨rfl, same_put sJ nFG, ?_⟩
                rw [upd_same, ← List.map_set]
                exact congrArg (fun v => some (HO.lst (v.map V.int))) eD.symm
              · have e : ¬ l - (pad cs d).sum - (K24.base (shorts p (pad cs d)) r).sum > 0 := fun z => e (decide_eq_true z)
                rw [if_neg e] at eD
                rw [← eD] at hL
                exact ⟨rfl, sJ, hL⟩
            · rintro σ' J3 ⟨h8, sJ3, hJ⟩
              refine ⟨_, h8, Fa, _, rfl, .inl ⟨.inl (.inl hJ), fun u nu => ?_⟩⟩
              have sE := same_new (o := .tup ((due p l r (pad cs d)).map V.int)) sJ3 nu
              exact q1 _ u (eH2.trans (ExtN.of sE)) (T2.ext sE) upd_same
end
end K24
/-! signatures_needed; the law's right. -/
namespace K24
open PySem PySem.Spec PyProof.Rows L2 LamX
/-- all but the tape and the tables stays -/
def Kp (t : Addr) (H G : Hp) : Prop := ∀ b o, b ≠ t → (∀ ps, o ≠ .tbl ps) → H b = some o → G b = some o
theorem Kp.trans {t : Addr} {H G J : Hp} (a : Kp t H G) (b : Kp t G J) : Kp t H J := fun c o n k h => b c o n k (a c o n k h)
theorem Kp.ext {t : Addr} {H G : Hp} (a : ExtN H G) : Kp t H G := fun c o _ k h => a c o h k
theorem Kp.but {t : Addr} {H G : Hp} (a : But t H G) : Kp t H G := fun c o n _ h => a c o n h
theorem Kp.same {t : Addr} {H G : Hp} (a : Same H G) : Kp t H G := fun c o _ _ h => a c o h
theorem tabs_but {t : Addr} {H G : Hp} {T : List (Addr × Str)} {xs : List V} (x : Tabs T H) (hB : But t H G) (ht : H t = some (.lst xs)) : Tabs T G := fun e he => by
  obtain ⟨ps, h1, h2, h3⟩ := x e he
  refine ⟨ps, hB _ _ (ne_of h1 ht fun z => by cases z) h1, h2, fun pos cv hc => ?_⟩
  obtain ⟨c, e1, e2⟩ := h3 pos cv hc
  refine ⟨c, e1, hB _ _ (ne_of e2 ht fun z => ?_) e2⟩
  unfold CodeO at z
  cases z
theorem Tape.ext {H G : Hp} {t l : Addr} {ns : List Int} (T : Tape H t l ns) (s : ExtN H G) : Tape G t l ns := by
  obtain ⟨pl, big, st, T⟩ := T
  exact ⟨pl, big, st, s _ _ T.at_ (fun ps z => by cases z), s _ _ T.own (fun ps z => by cases z), T.p0, T.b0, T.s0, T.s1⟩
theorem thr_tbl {d l p r : Int} (ps : Array Value) : thr d l p r ≠ .tbl ps := fun z => by
  unfold thr at z
  cases z
theorem plus_succ (a b : List Int) (i : Nat) : plus a b (i + 1) = plus a b i ++ [a.getD i 0 + b.getD i 0] := by
  unfold plus
  rw [List.range_succ, List.map_append]
  rfl
theorem sum_cap : ∀ {f : List Int}, (∀ x ∈ f, x ≤ 100) → f.sum ≤ (f.length : Int) * 100
  | [], _ => by simp
  | x :: f, h => by
    have h1 := h x List.mem_cons_self
    have h2 := sum_cap (f := f) fun y hy => h y (List.mem_cons_of_mem _ hy)
    rw [List.sum_cons, List.length_cons]
    omega
/-- the further signatures are not very many -/
theorem due_cap {p l : Int} {r : Nat} {known : List Int} (hp : p ≤ 100) (hl : l ≤ 100) (hn : ∀ x ∈ known, 0 ≤ x) (h9 : known.length ≤ 9) (hz : known = [] → l ≤ 0) : (due p l r known).sum ≤ 1000 := by
  rw [due_sum hz]
  have h0 := sum_nn hn
  have hm := mx_spec (l - known.sum) (base (shorts p known) r).sum
  have hs : ∀ x ∈ shorts p known, x ≤ 100 := fun x hx => by
    unfold shorts at hx
    obtain ⟨c, hc, rfl⟩ := List.mem_map.mp hx
    have := hn c hc
    have := mx_spec (p - c) 0
    omega
  have hb : (base (shorts p known) r).sum ≤ 900 := by
    rw [base_sum]
    have h1 := sum_cap (f := ((rank (shorts p known)).take r).map (·.1)) fun x hx => by
      obtain ⟨q, hq, rfl⟩ := List.mem_map.mp hx
      obtain ⟨d, _, rfl⟩ := mem_rank (List.mem_of_mem_take hq)
      rcases getD_mem_or (shorts p known) d with z | z
      · exact hs _ z
      · show (shorts p known).getD d 0 ≤ 100
        rw [z]; decide
    rw [List.length_map, List.length_take, rank_len, shorts_len] at h1
    omega
  omega
section
variable {P : Program} {w : World} {K : PySem.W.Frag} {mg : Str → Option Value} {base : Heap}
def spNeed (T : List (Addr × Str)) : Sp := fun vs H Q _ => ∃ (t c : Addr) (d r : Nat) (l p : Int) (cs : List Int), vs = [.ref t, .ref c] ∧ H t = some (thr (d : Nat) l p (r : Nat)) ∧ H c = some (.tup (cs.map V.int)) ∧ d ≤ 9 ∧ cs.length ≤ 9 ∧ Tabs T H ∧
  ((d < r ∨ (d = 0 ∧ 0 < l)) → Q .non H) ∧ (¬ (d < r ∨ (d = 0 ∧ 0 < l)) → ∀ G, ExtN H G → Tabs T G → Q (.int (due p l r (pad cs d)).sum) G)
theorem ok_need {f fF : Addr} {fd fdF : FuncData} {T0 : List (Addr × Str)} (F : Fun K "signatures_needed" "signatures_needed" sNeed f fd) (T : Free mg) (GF : FnOk P w K mg base CX0 2 fF fdF ["threshold", "counts"] (spFur T0)) (kF : PySem.W.keepIn K (.ref fF) = true)
    (bF : Binds K fdF ["threshold", "counts"] []) (gF : mg "further_signatures" = some (.ref fF)) : FnOk P w K mg base CX0 3 f fd ["threshold", "counts"] (spNeed T0) := by
  refine F.ok scNeed (fun vs H Q E h => ?_) (fun cdv A outer s H vs Q E hr h => ?_)
  · obtain ⟨t, c, d, r, l, p, cs, rfl, _⟩ := h
    rfl
  · obtain ⟨t, c, d, r, l, p, cs, rfl, hT, hC, hd, hl, hTab, q0, q1⟩ := h
    refine ⟨_, pss_cons (ps_set (i := 2) scNeed.nd rfl (.inl rfl) (pe_call GF hr (by rfl) gF kF bF .nil pass0 (pa_cons (pv 0) (pa_cons (pv 1) pa_nil))))
      (pss_cons (ps_if (pt_cmp (pc_isN (pv 2))) (pss_one (ps_ret pe_non)) pss_nil)
      (pss_one (ps_ret (pe_callB (cr_sumT rfl) (by rfl) T.sum (by decide +kernel) (pa_cons (pv 2) pa_nil))))), ?_⟩
    refine ⟨_, rfl, _, rfl, t, c, d, r, l, p, cs, rfl, hT, hC, hd, hl, hTab, fun hc => ?_, fun hc G u eG TG hu => ?_⟩
    · exact ⟨_, rfl, _, rfl, iteT (q0 hc)⟩
    · exact ⟨_, rfl, _, rfl, iteF ⟨_, rfl, u, _, rfl, .inl (.inl hu), q1 hc G eG TG⟩⟩
theorem scRig : FnScope ["_law_tape_here", "_law_threshold", "_law_counts", "_law_needed", "_law_further_here", "_law_known", "_law_due", "_law_after", "_law_fewer_here", "_law_less", "_law_d"] ["_law_tape_here", "_law_threshold", "_law_counts"] (defScope sRig) := ⟨rfl, rfl, rfl, by decide +kernel, rfl, by decide +kernel, by decide +kernel⟩
/-- what the law's right calls -/
structure Cal (P : Program) (w : World) (K : PySem.W.Frag) (mg : Str → Option Value) (base : Heap) (T0 : List (Addr × Str)) (nm : Str) (lv : Nat) (ps : List Str) (sp : Sp) : Prop where
  ex : ∃ (f : Addr) (fd : FuncData), FnOk P w K mg base CX0 lv f fd ps sp ∧ PySem.W.keepIn K (.ref f) = true ∧ Binds K fd ps [] ∧ mg nm = some (.ref f)
def spRig (T : List (Addr × Str)) : Sp := fun vs H Q _ => ∃ (t th c l : Addr) (ns cs : List Int) (d r : Nat) (tot p : Int), vs = [.ref t, .ref th, .ref c] ∧ Tape H t l ns ∧ H th = some (thr (d : Nat) tot p (r : Nat)) ∧ H c = some (.tup (cs.map V.int)) ∧ Tabs T H ∧ d ≤ 9 ∧ r ≤ 9 ∧ 0 ≤ tot ∧ tot ≤ 100 ∧ 0 ≤ p ∧ p ≤ 100 ∧ cs.length ≤ 9 ∧
  (∀ x ∈ cs, 0 ≤ x ∧ x ≤ 100) ∧ ∀ G, Kp t H G → Tape G t l ns → Tabs T G → Q (.bl true) G
end
end K24
/-! The law's right. -/
namespace K24
open PySem PySem.Spec PyProof.Rows L2 LamX
section
variable {P : Program} {w : World} {K : PySem.W.Frag} {mg : Str → Option Value} {base : Heap} {T0 : List (Addr × Str)}
theorem ok_rig {f : Addr} {fd : FuncData} (F : Fun K "_law_right" "_law_right" sRig f fd) (T : Free mg)
    (CN : Cal P w K mg base T0 "signatures_needed" 3 ["threshold", "counts"] (spNeed T0)) (CF : Cal P w K mg base T0 "further_signatures" 2 ["threshold", "counts"] (spFur T0)) (CL : Cal P w K mg base T0 "_law_further" 1 ["_law_threshold", "_law_counts"] (spFuL K))
    (CS0 : Cal P w K mg base T0 "_law_same" 1 ["_law_actual", "_law_expected"] spSame0) (CS1 : Cal P w K mg base T0 "_law_same" 2 ["_law_actual", "_law_expected"] spSame1) (CE : Cal P w K mg base T0 "_law_enough" 1 ["_law_threshold", "_law_counts"] (spEno K))
    (CQ : Cal P w K mg base T0 "qualifies" 1 ["threshold", "signatures"] spQual) (CG : Cal P w K mg base T0 "_law_signed" 1 ["_law_counts"] (spSgd K)) (CW : Cal P w K mg base T0 "_law_fewer" 2 ["_law_tape_here", "_law_further_here"] spFew) :
    FnOk P w K mg base CX0 4 f fd ["_law_tape_here", "_law_threshold", "_law_counts"] (spRig T0) := by
  obtain ⟨fN, fdN, GN, kN, bN, gN⟩ := CN.ex
  obtain ⟨fF, fdF, GF, kF, bF, gF⟩ := CF.ex
  obtain ⟨fL, fdL, GL, kL, bL, gL⟩ := CL.ex
  obtain ⟨f0, fd0, G0, k0, b0, g0⟩ := CS0.ex
  obtain ⟨f1, fd1, G1, k1, b1, g1⟩ := CS1.ex
  obtain ⟨fE, fdE, GE, kE, bE, gE⟩ := CE.ex
  obtain ⟨fQ, fdQ, GQ, kQ, bQ, gQ⟩ := CQ.ex
  obtain ⟨fG, fdG, GG, kG, bG, gG⟩ := CG.ex
  obtain ⟨fW, fdW, GW, kW, bW, gW⟩ := CW.ex
  refine F.ok scRig (fun vs H Q E h => ?_) (fun cdv A outer s H vs Q E hr h => ?_)
  · obtain ⟨t, th, c, l, ns, cs, d, r, tot, p, rfl, _⟩ := h
    rfl
  · obtain ⟨t, th, c, l, ns, cs, d, r, tot, p, rfl, hTp, hTh, hC, hTab, hd, hr9, ht0, ht1, hp0, hp1, hl, hcs, q⟩ := h
    have hr2 := hr.mono (show 2 ≤ 3 by decide)
    have hr1 := hr.mono (show 1 ≤ 3 by decide)
    refine ⟨_, pss_cons (ps_set (i := 3) scRig.nd rfl (.inl rfl) (pe_call GN hr (by rfl) gN kN bN .nil pass0 (pa_cons (pv 1) (pa_cons (pv 2) pa_nil))))
      (pss_cons (ps_set (i := 4) scRig.nd rfl (.inl rfl) (pe_call GF hr2 (by rfl) gF kF bF .nil pass0 (pa_cons (pv 1) (pa_cons (pv 2) pa_nil))))
      (C8.pss_cut (ps_if (PW.pt (pw_or (pt_cmpR op_gt (pe_ix ix_tup (pv 1) pe_int (fun _ _ => rfl)) (pe_ix ix_tup (pv 1) pe_int (fun _ _ => rfl)) (nomark _))
          (pw_or1 (PW.pt (pw_and (pt_cmpR op_eq (pe_ix ix_tup (pv 1) pe_int (fun _ _ => rfl)) pe_int (nomark _)) (pw_and1 (pt_cmpR op_gt (pe_ix ix_tup (pv 1) pe_int (fun _ _ => rfl)) pe_int (nomark _))))))))
          (pss_one (ps_ret (pe_and (pe_cmp (pc_isN (pv 3))) (pe_one (pe_cmp (pc_isN (pv 4))))))) pss_nil)
      (pss_cons (ps_set (i := 5) scRig.nd rfl (.inr rfl) (pe_slice sl_list (pe_op op_cat (pe_callTy call_list_of (by rfl) T.list (by decide +kernel) (pa_cons (pv 2) pa_nil))
          (pe_lc (own := [("_law_d", 10)]) (g := gName 10) (tt := tYes) rfl scRig.nd (pi_range1 rfl T.range (pa_cons pe_int pa_nil))
            (blkOk_by (own := [("_law_d", 10)]) (N := ["_law_tape_here", "_law_threshold", "_law_counts", "_law_needed", "_law_further_here", "_law_known", "_law_due", "_law_after", "_law_fewer_here", "_law_less", "_law_d"]) (sc := defScope sRig) (by decide +kernel))
            (fun _ _ _ _ _ => pg_name (i := 10) scRig.nd rfl (Or.inl rfl)) (fun _ _ _ _ _ => pts_nil) (fun _ _ _ _ _ => pe_int))) po_none (po_some (pe_ix ix_tup (pv 1) pe_int (fun _ _ => rfl)))))
      (pss_cons (ps_set (i := 6) scRig.nd rfl (.inr rfl) (pe_call GL hr1 (by rfl) gL kL bL .nil pass0 (pa_cons (pv 1) (pa_cons (pv 5) pa_nil))))
      (pss_cons (ps_if (PW.pt (pw_or (pt_not (pt_val (pe_call G1 hr2 (by rfl) g1 k1 b1 .nil pass0 (pa_cons (pv 4) (pa_cons (pv 6) pa_nil)))))
          (pw_or1 (pt_not (pt_val (pe_call G0 hr1 (by rfl) g0 k0 b0 .nil pass0 (pa_cons (pv 3) (pa_cons (pe_callB (cr_sumT rfl) (by rfl) T.sum (by decide +kernel) (pa_cons (pv 6) pa_nil)) pa_nil)))))))) pss_never pss_nil)
      (pss_cons (ps_setLc (i := 7) (own := [("_law_d", 10)]) (g := gName 10) (tt := tYes) rfl scRig.nd rfl rfl (sw_true rfl rfl rfl (by decide +kernel)) (pi_range1 rfl T.range (pa_cons (pe_callB call_len_seq (by rfl) T.len PySem.boot_len (pa_cons (pv 6) pa_nil)) pa_nil))
          (blkOk_by (own := [("_law_d", 10)]) (N := ["_law_tape_here", "_law_threshold", "_law_counts", "_law_needed", "_law_further_here", "_law_known", "_law_due", "_law_after", "_law_fewer_here", "_law_less", "_law_d"]) (sc := defScope sRig) (by decide +kernel))
          (fun _ _ _ _ _ => pg_name (i := 10) scRig.nd rfl (Or.inl rfl)) (fun _ _ _ _ _ => pts_nil)
          (fun _ _ _ _ _ => pe_op op_add (pe_ix (r := rIxL K) ix_list (pv 5) (pv 10) (fun _ _ => rfl)) (pe_ix (r := rIxT K) ix_tup (pv 6) (pv 10) (fun _ _ => rfl))))
      (pss_cons (ps_if (pt_not (pt_val (pe_call GE hr1 (by rfl) gE kE bE .nil pass0 (pa_cons (pv 1) (pa_cons (pv 7) pa_nil))))) pss_never pss_nil)
      (C8.pss_cut (ps_if (PW.pt (pw_and (pt_cmpR op_le (pe_callB (cr_sum rfl) (by rfl) T.sum (by decide +kernel) (pa_cons (pv 7) pa_nil)) pe_int (nomark _))
          (pw_and1 (pt_not (pt_val (pe_call G0 hr1 (by rfl) g0 k0 b0 .nil pass0 (pa_cons (pe_call GQ hr1 (by rfl) gQ kQ bQ .nil pass0 (pa_cons (pv 1) (pa_cons (pe_call GG hr1 (by rfl) gG kG bG .nil pass0 (pa_cons (pv 7) pa_nil)) pa_nil))) (pa_cons pe_bl pa_nil)))))))) pss_never pss_nil)
      (pss_cons (ps_if (pt_cmpR op_eq (pv 3) pe_int (nomark _)) (pss_one (ps_ret pe_bl)) pss_nil)
      (pss_cons (ps_set (i := 8) scRig.nd rfl (.inr rfl) (pe_call GW hr2 (by rfl) gW kW bW .nil pass0 (pa_cons (pv 0) (pa_cons (pv 6) pa_nil))))
      (pss_cons (ps_setLc (i := 9) (own := [("_law_d", 10)]) (g := gName 10) (tt := tYes) rfl scRig.nd rfl rfl (sw_true rfl rfl rfl (by decide +kernel)) (pi_range1 rfl T.range (pa_cons (pe_callB call_len_seq (by rfl) T.len PySem.boot_len (pa_cons (pv 6) pa_nil)) pa_nil))
          (blkOk_by (own := [("_law_d", 10)]) (N := ["_law_tape_here", "_law_threshold", "_law_counts", "_law_needed", "_law_further_here", "_law_known", "_law_due", "_law_after", "_law_fewer_here", "_law_less", "_law_d"]) (sc := defScope sRig) (by decide +kernel))
          (fun _ _ _ _ _ => pg_name (i := 10) scRig.nd rfl (Or.inl rfl)) (fun _ _ _ _ _ => pts_nil)
          (fun _ _ _ _ _ => pe_op op_add (pe_ix (r := rIxL K) ix_list (pv 5) (pv 10) (fun _ _ => rfl)) (pe_ix (r := rIxL K) ix_list (pv 8) (pv 10) (fun _ _ => rfl))))
      (pss_cons (ps_if (pt_val (pe_call GE hr1 (by rfl) gE kE bE .nil pass0 (pa_cons (pv 1) (pa_cons (pv 9) pa_nil)))) pss_never pss_nil)
      (pss_one (ps_ret (pe_or (pe_cmpR op_gt (pe_callB (cr_sum rfl) (by rfl) T.sum (by decide +kernel) (pa_cons (pv 9) pa_nil)) pe_int (nomark _))
        (pe_one (pe_call G0 hr1 (by rfl) g0 k0 b0 .nil pass0 (pa_cons (pe_call GQ hr1 (by rfl) gQ kQ bQ .nil pass0 (pa_cons (pv 1) (pa_cons (pe_call GG hr1 (by rfl) gG kG bG .nil pass0 (pa_cons (pv 9) pa_nil)) pa_nil))) (pa_cons pe_bl pa_nil))))))))))))))))))), ?_⟩
    have a3 : ∀ {d l p r : Int}, atI [V.int d, .int l, .int p, .int r] 3 = some (.int r) := atI_nat (j := 3) rfl
    have a0 : ∀ {d l p r : Int}, atI [V.int d, .int l, .int p, .int r] 0 = some (.int d) := atI_nat (j := 0) rfl
    have a1 : ∀ {d l p r : Int}, atI [V.int d, .int l, .int p, .int r] 1 = some (.int l) := atI_nat (j := 1) rfl
    refine ⟨_, rfl, _, rfl, th, c, d, r, tot, p, cs, rfl, hTh, hC, hd, hl, hTab, fun hc => ?_, fun hc G1 e1 T1 => ?_⟩
    · -- no signatures suffice
      refine ⟨_, rfl, _, rfl, th, c, d, r, tot, p, cs, rfl, hTh, hC, hd, hl, hTab, fun _ => ?_, fun hn => absurd hc hn⟩
      have hQ := q H (Kp.same (Same.refl H)) hTp hTab
      refine ⟨fun _ _ => False, ?_, fun _ _ z => z.elim⟩
      refine ⟨_, rfl, th, _, 3, _, rfl, rfl, .inl (.inl hTh), a3, _, rfl, th, _, 0, _, rfl, rfl, .inl (.inl hTh), a0, _, _, rfl, rfl, _, rfl, ite2 (fun e => ?_) (fun e => ?_)⟩
      · exact iteT ⟨_, rfl, _, rfl, iteT ⟨_, rfl, hQ⟩⟩
      · have e : ¬ (d : Int) < (r : Int) := fun z => e (decide_eq_true z)
        have hz : d = 0 ∧ 0 < tot := by omega
        refine ⟨_, rfl, th, _, 0, _, rfl, rfl, .inl (.inl hTh), a0, rfl, _, rfl, ite2 (fun e2 => ?_) (fun e2 => ?_)⟩
        · refine ⟨_, rfl, th, _, 1, _, rfl, rfl, .inl (.inl hTh), a1, _, 0, rfl, rfl, _, rfl, ite2 (fun e3 => ?_) (fun e3 => ?_)⟩
          · exact ⟨_, rfl, _, rfl, iteT ⟨_, rfl, hQ⟩⟩
          · exact absurd (decide_eq_true hz.2) e3
        · exact absurd (decide_eq_true (congrArg V.int (show (d : Int) = 0 by omega))) e2
    · -- some do
      have hTh1 := e1 _ _ hTh thr_tbl
      have hC1 := e1 _ _ hC (fun ps z => by cases z)
      refine ⟨_, rfl, _, rfl, th, c, d, r, tot, p, cs, rfl, hTh1, hC1, hd, hl, T1, fun hc2 => absurd hc2 hc, fun _ G2 u e2 T2 hu => ?_⟩
      have hTh2 := e2 _ _ hTh1 thr_tbl
      have hC2 := e2 _ _ hC1 (fun ps z => by cases z)
      have TP2 := (hTp.ext e1).ext e2
      have K2 : Kp t H G2 := (Kp.ext e1).trans (Kp.ext e2)
      have hkl : (pad cs d).length = d := pad_len cs d
      have hkn : ∀ x ∈ pad cs d, 0 ≤ x := pad_nn fun x hx => (hcs x hx).1
      have hrk : r ≤ (pad cs d).length := by omega
      have hz : pad cs d = [] → tot ≤ 0 := fun z => by
        have z2 := congrArg List.length z
        rw [hkl] at z2
        have z3 : d = 0 := z2
        omega
      have hdl := due_len p tot r (pad cs d)
      have hdn := due_nn p tot r (pad cs d)
      have hdc := due_cap (r := r) hp1 ht1 hkn (by omega) hz
      refine ⟨fun σ' G => G = G2 ∧ σ' = [some (.ref t), some (.ref th), some (.ref c), some (.int (due p tot r (pad cs d)).sum), some (.ref u), none, none, none, none, none, none], ?_, ?_⟩
      · refine ⟨_, rfl, th, _, 3, _, rfl, rfl, .inl (.inl hTh2), a3, _, rfl, th, _, 0, _, rfl, rfl, .inl (.inl hTh2), a0, _, _, rfl, rfl, _, rfl, ite2 (fun e => ?_) (fun e => ?_)⟩
        · have e := of_decide_eq_true e
          exact absurd (.inl (by omega)) hc
        · refine ⟨_, rfl, th, _, 0, _, rfl, rfl, .inl (.inl hTh2), a0, rfl, _, rfl, ite2 (fun e2 => ?_) (fun e2 => ?_)⟩
          · have e2 := V.int.inj (of_decide_eq_true e2)
            refine ⟨_, rfl, th, _, 1, _, rfl, rfl, .inl (.inl hTh2), a1, _, 0, rfl, rfl, _, rfl, ite2 (fun e3 => ?_) (fun e3 => ?_)⟩
            · have e3 := of_decide_eq_true e3
              exact absurd (.inr ⟨by omega, e3⟩) hc
            · exact ⟨rfl, rfl⟩
          · exact iteF ⟨rfl, rfl⟩
      · rintro σ' G ⟨rfl, rfl⟩
        -- the known counts
        refine ⟨_, rfl, c, _, rfl, .inr (.inl (.inl hC2)), fun a na => ?_⟩
        have sa := same_new (o := .lst (cs.map V.int)) (Same.refl G) na
        refine ⟨_, rfl, by decide, by decide, fun D nD => ?_⟩
        refine lc_range (lo := 0) (fun i J => Same (upd G a (.lst (cs.map V.int))) J ∧ J D = some (.lst (List.replicate i (V.int 0)))) ⟨same_new (Same.refl _) nD, upd_same⟩ (fun i J hi h => ?_) (fun J h => ?_)
        · refine ⟨rfl, _, h.2, ?_, same_put h.1 nD, ?_⟩
          · rw [List.length_replicate]
            have hi : i < 9 := hi
            exact small1000 (by omega)
          · rw [upd_same, ← List.replicate_succ']
        · obtain ⟨sJ, hD⟩ := h
          have hD : J D = some (.lst (List.replicate 9 (V.int 0))) := hD
          have ha := sJ _ _ (upd_same (H := G) (a := a) (o := .lst (cs.map V.int)))
          have sGJ := sa.trans sJ
          refine ⟨a, D, _, _, rfl, rfl, ha, hD, ?_, fun y ny => ?_⟩
          · rw [List.length_map, List.length_replicate]
            exact Nat.le_of_lt (small1000 (by omega))
          · have sGy := same_new (o := .lst (cs.map V.int ++ List.replicate 9 (V.int 0))) sGJ ny
            refine ⟨_, rfl, th, _, 0, _, rfl, rfl, .inl (.inl (sGy _ _ hTh2)), a0, _, rfl, y, _, rfl, .inl (.inl upd_same), fun kn nk => ?_⟩
            have ek : cutV (cs.map V.int ++ List.replicate 9 (V.int 0)) none (some (d : Int)) = (pad cs d).map V.int := by
              rw [cut_take, ← pad_ext hd, List.map_take, List.map_append, List.map_replicate]
            rw [ek]
            have sGk := same_new (o := .lst ((pad cs d).map V.int)) sGy nk
            -- due
            refine ⟨_, rfl, _, rfl, th, kn, tot, p, r, pad cs d, rfl, ?_, .inl (.inl upd_same), by omega, hrk, hz, fun G3 u2 s3 hu2 => ?_⟩
            · rw [hkl]
              exact sGk _ _ hTh2
            · have sG3 := sGk.trans s3
              have hk3 := s3 _ _ (upd_same (H := upd J y (.lst (cs.map V.int ++ List.replicate 9 (V.int 0)))) (a := kn) (o := .lst ((pad cs d).map V.int)))
              have hTh3 := sG3 _ _ hTh2
              have hu3 := sG3 _ _ hu
              refine ⟨_, rfl, _, rfl, u, u2, _, rfl, hu3, hu2, by omega, true, rfl, iteF ?_⟩
              refine ⟨_, rfl, _, rfl, u2, _, rfl, .inl (.inl hu2), .int (due p tot r (pad cs d)).sum, rfl, .inl ⟨_, rfl⟩, true, rfl, iteF ?_⟩
              -- after
              have lm : ((due p tot r (pad cs d)).map V.int).length = d := by rw [List.length_map, hdl, hkl]
              refine ⟨_, rfl, u2, _, rfl, .inr (.inl (.inl hu2)), _, rfl, by omega, by rw [lm]; omega, fun Da nDa => ?_⟩
              refine lc_range (lo := 0) (fun i J => Same G3 J ∧ J Da = some (.lst ((plus (pad cs d) (due p tot r (pad cs d)) i).map V.int))) ⟨same_new (Same.refl _) nDa, upd_same⟩ (fun i J4 hi h => ?_) (fun J4 h => ?_)
              · rw [lm, Int.toNat_natCast] at hi
                have e3 : (0 : Int) + (i : Int) = (i : Int) := Int.zero_add _
                rw [e3]
                refine ⟨rfl, .ref kn, rfl, _, rfl, kn, _, _, _, rfl, rfl, .inl (.inl (h.1 _ _ hk3)), atI_nat (map_int_get (by omega)), .ref u2, rfl, _, rfl, u2, _, _, _, rfl, rfl, .inl (.inl (h.1 _ _ hu2)), atI_nat (map_int_get (by omega)), _, _, rfl, rfl, _, h.2, ?_, same_put h.1 nDa, ?_⟩
                · rw [List.length_map, plus_len]
                  exact small1000 (by omega)
                · rw [upd_same, plus_succ, List.map_append]
                  rfl
              · obtain ⟨s4, hA⟩ := h
                rw [lm, Int.toNat_natCast] at hA
                have hAe := after_enough hrk hz (p := p)
                rw [hkl] at hAe
                have hAn := plus_nn hkn hdn d
                have hAl : (plus (pad cs d) (due p tot r (pad cs d)) d).length = d := plus_len _ _ _
                refine ⟨_, rfl, _, rfl, th, Da, d, tot, p, r, _, rfl, s4 _ _ hTh3, .inl (.inl hA), by omega, fun G5 b s5 hb => ?_⟩
                have hb1 := hb.mpr hAe
                subst hb1
                refine ⟨true, rfl, iteF ?_⟩
                have s35 := s4.trans s5
                have hA5 := s5 _ _ hA
                have hTh5 := s35 _ _ hTh3
                refine ⟨fun σ' G => Same G3 G ∧ σ' = [some (.ref t), some (.ref th), some (.ref c), some (.int (due p tot r (pad cs d)).sum), some (.ref u), some (.ref kn), some (.ref u2), some (.ref Da), none, none, none], ?_, ?_⟩
                · refine ⟨_, rfl, Da, _, rfl, .inl (.inl hA5), _, 60, rfl, rfl, _, rfl, ite2 (fun e => ?_) (fun e => ?_)⟩
                  · have e := of_decide_eq_true e
                    refine ⟨_, rfl, _, rfl, Da, _, rfl, .inl (.inl hA5), by omega, hAn, e, fun G6 su ks s6 hks hsu hP => ?_⟩
                    refine ⟨th, su, tot, p, r, _, ks, rfl, by rw [hAl]; exact s6 _ _ hTh5, hsu, hP, hks, hAn, by omega, e, fun G7 b s7 hb => ?_⟩
                    have hb1 := hb.mpr hAe
                    subst hb1
                    exact ⟨.bl true, rfl, .inr ⟨_, rfl⟩, true, rfl, iteF ⟨(s35.trans s6).trans s7, rfl⟩⟩
                  · exact iteF ⟨s35, rfl⟩
                · rintro σ' G8 ⟨s8, rfl⟩
                  have sG8 := sG3.trans s8
                  have K8 : Kp t H G8 := K2.trans (Kp.same sG8)
                  refine ⟨_, rfl, rfl, _, rfl, ite2 (fun e => ?_) (fun e => ?_)⟩
                  · exact q G8 K8 (TP2.same sG8) (T2.ext sG8)
                  · have e : ¬ (due p tot r (pad cs d)).sum = 0 := fun z => e (decide_eq_true (congrArg V.int z))
                    have hds := sum_nn hdn
                    -- fewer
                    refine ⟨_, rfl, _, rfl, t, u2, l, ns, _, rfl, TP2.same sG8, s8 _ _ hu2, hdn, by omega, by omega, by omega, fun G9 fa fs hB9 TP9 hfa hfl hfn hfs => ?_⟩
                    obtain ⟨tx, htx⟩ := (TP2.same sG8).lst
                    have T9 := tabs_but (T2.ext sG8) hB9 htx
                    have K9 := K8.trans (Kp.but hB9)
                    have hk9 := hB9 _ _ ((TP2.same sG8).ints (s8 _ _ hk3)) (s8 _ _ hk3)
                    have hu9 := hB9 _ _ (ne_of (s8 _ _ hu2) htx fun z => by cases z) (s8 _ _ hu2)
                    have hTh9 := hB9 _ _ (ne_of (sG8 _ _ hTh2) htx fun z => by unfold thr at z; cases z) (sG8 _ _ hTh2)
                    have hfl2 : fs.length = (pad cs d).length := by omega
                    refine ⟨_, rfl, u2, _, rfl, .inr (.inl (.inl hu9)), _, rfl, by omega, by rw [lm]; omega, fun Dl nDl => ?_⟩
                    refine lc_range (lo := 0) (fun i J => Same G9 J ∧ J Dl = some (.lst ((plus (pad cs d) fs i).map V.int))) ⟨same_new (Same.refl _) nDl, upd_same⟩ (fun i J4 hi h => ?_) (fun J4 h => ?_)
                    · rw [lm, Int.toNat_natCast] at hi
                      have e3 : (0 : Int) + (i : Int) = (i : Int) := Int.zero_add _
                      rw [e3]
                      refine ⟨rfl, .ref kn, rfl, _, rfl, kn, _, _, _, rfl, rfl, .inl (.inl (h.1 _ _ hk9)), atI_nat (map_int_get (by omega)), .ref fa, rfl, _, rfl, fa, _, _, _, rfl, rfl, .inl (.inl (h.1 _ _ hfa)), atI_nat (map_int_get (by omega)), _, _, rfl, rfl, _, h.2, ?_, same_put h.1 nDl, ?_⟩
                      · rw [List.length_map, plus_len]
                        exact small1000 (by omega)
                      · rw [upd_same, plus_succ, List.map_append]
                        rfl
                    · obtain ⟨sX, hX⟩ := h
                      rw [lm, Int.toNat_natCast] at hX
                      have hXe := fewer_not hfl2 hfn hz hfs
                      rw [hkl] at hXe
                      have hXn := plus_nn hkn hfn d
                      have hXl : (plus (pad cs d) fs d).length = d := plus_len _ _ _
                      refine ⟨_, rfl, _, rfl, th, Dl, d, tot, p, r, _, rfl, sX _ _ hTh9, .inl (.inl hX), by omega, fun GA b sA hb => ?_⟩
                      have hb1 : b = false := by
                        cases b with
                        | false => rfl
                        | true => exact absurd (hb.mp rfl) hXe
                      subst hb1
                      refine ⟨false, rfl, iteF ?_⟩
                      have s9A := sX.trans sA
                      have hXA := sA _ _ hX
                      refine ⟨_, rfl, Dl, _, rfl, .inl (.inl hXA), _, 60, rfl, rfl, _, rfl, ite2 (fun e4 => ?_) (fun e4 => ?_)⟩
                      · exact q GA (K9.trans (Kp.same s9A)) (TP9.same s9A) (T9.ext s9A)
                      · have e4 : ¬ 60 < (plus (pad cs d) fs d).sum := fun z => e4 (decide_eq_true z)
                        refine ⟨_, rfl, _, rfl, Dl, _, rfl, .inl (.inl hXA), by omega, hXn, by omega, fun GB su ks sB hks hsu hP => ?_⟩
                        refine ⟨th, su, tot, p, r, _, ks, rfl, by rw [hXl]; exact sB _ _ (s9A _ _ hTh9), hsu, hP, hks, hXn, by omega, by omega, fun GC b sC hb => ?_⟩
                        have hb1 : b = false := by
                          cases b with
                          | false => rfl
                          | true => exact absurd (hb.mp rfl) hXe
                        subst hb1
                        have s9C := (s9A.trans sB).trans sC
                        exact ⟨.bl false, rfl, .inr ⟨_, rfl⟩, q GC (K9.trans (Kp.same s9C)) (TP9.same s9C) (T9.ext s9C)⟩
end
end K24
/-! The law itself. -/
namespace K24
open PySem PySem.Spec PyProof.Rows L2 LamX
theorem scLaw : FnScope ["_law_script", "_law_tape_here", "_law_top", "_law_counts", "_law_threshold", "_law_k"] ["_law_script"] (defScope sLaw) := ⟨rfl, rfl, rfl, by decide +kernel, rfl, by decide +kernel, by decide +kernel⟩
section
variable {P : Program} {w : World} {K : PySem.W.Frag} {mg : Str → Option Value} {base : Heap} {T0 : List (Addr × Str)}
/-- [_law_draw(tape, top) for k in range(n)]: what its turns ask -/
theorem drawn_list {t l D : Addr} {ns : List Int} {top : Int} {n : Nat} {G : Hp} {Qd : Hp → Prop} {z0 z3 z4 z5 : Option V} (TG : Tape G t l ns) (nD : G D = none) (hn : n ≤ 9) (h1 : mx top 1 ≤ 101) (h2 : top < 1000000)
    (q : ∀ (J : Hp) (xs : List Int), But t G J → Tape J t l ns → J D = some (.lst (xs.map V.int)) → xs.length = n → (∀ x ∈ xs, 0 ≤ x ∧ x ≤ 100) → Qd J) :
    ∃ W : Nat → Nat → Hp → Prop, (∃ m, W 0 m (upd G D (.lst []))) ∧ ∀ i m H, W i m H →
      ((Itr 0 n).stop i H ∧ Qd H) ∨ ((Itr 0 n).go i H ∧ ∃ Nx : Hp → Prop, (∀ H', Nx H' → ∃ m', m' < m ∧ W (i + 1) m' H') ∧ ∀ x H', (Itr 0 n).yld i H x H' → gName 5 x (wipe [z0, some (.ref t), some (.int top), z3, z4, z5] [5]) H' fun σ2 H2 => wipe σ2 [5] = wipe [z0, some (.ref t), some (.int top), z3, z4, z5] [5] ∧ tYes σ2 H2 fun b H3 =>
        if b = true then tCall spDraw [] E0 (tCons (tVar 1) (tCons (tVar 2) tNil)) σ2 H3 fun y H4 => ∃ acc, H4 D = some (.lst acc) ∧ acc.length < sizeLine ∧ Nx (upd H4 D (.lst (acc ++ [y]))) else Nx H3) := by
  obtain ⟨nDt, nDl⟩ := TG.apart nD
  refine lc_range (lo := 0) (fun i J => But t G J ∧ Tape J t l ns ∧ ∃ xs : List Int, J D = some (.lst (xs.map V.int)) ∧ xs.length = i ∧ ∀ x ∈ xs, 0 ≤ x ∧ x ≤ 100) ⟨but_new (But.refl _ _) nD, TG.put nDt nDl, [], upd_same, rfl, fun x hx => (by cases hx)⟩ (fun i J hi h => ?_) (fun J h => ?_)
  · obtain ⟨hB, TJ, xs, hD, hxl, hx⟩ := h
    refine ⟨rfl, _, rfl, _, rfl, t, l, ns, top, rfl, TJ, h2, fun J2 k hB2 TJ2 k0 k1 => ?_⟩
    refine ⟨_, hB2 _ _ nDt hD, ?_, but_put (hB.trans hB2) nD, TJ2.put nDt nDl, xs ++ [k], ?_, ?_, ?_⟩
    · rw [List.length_map]
      exact small1000 (by omega)
    · rw [upd_same, List.map_append]
      rfl
    · rw [List.length_append, hxl]
      rfl
    · intro x hx'
      rcases List.mem_append.mp hx' with y | y
      · exact hx x y
      · rw [List.mem_singleton.mp y]
        omega
  · obtain ⟨hB, TJ, xs, hD, hxl, hx⟩ := h
    exact q J xs hB TJ hD hxl hx
def spLaw (K : PySem.W.Frag) (T : List (Addr × Str)) : Sp := fun vs H Q _ => ∃ (a : Addr) (ns : List Int), vs = [.ref a] ∧ SqL K H a (ns.map V.int) ∧ ns.length ≤ 63 ∧ Tabs T H ∧ ∀ G, Q (.bl true) G
theorem ok_law {f : Addr} {fd : FuncData} (F : Fun K "law" "law" sLaw f fd) (T : Free mg) (CT : Cal P w K mg base T0 "_law_tape" 1 ["_law_script"] (spTape K)) (CD : Cal P w K mg base T0 "_law_draw" 1 ["_law_tape_here", "_law_many"] spDraw)
    (CP : Cal P w K mg base T0 "_law_petition" 2 ["_law_tape_here", "_law_counts"] spPet) (CR : Cal P w K mg base T0 "_law_right" 4 ["_law_tape_here", "_law_threshold", "_law_counts"] (spRig T0)) : FnOk P w K mg base CX0 5 f fd ["_law_script"] (spLaw K T0) := by
  obtain ⟨fT, fdT, GT, kT, bT, gT⟩ := CT.ex
  obtain ⟨fD, fdD, GD, kD, bD, gD⟩ := CD.ex
  obtain ⟨fP, fdP, GP, kP, bP, gP⟩ := CP.ex
  obtain ⟨fR, fdR, GR, kR, bR, gR⟩ := CR.ex
  refine F.ok scLaw (fun vs H Q E h => ?_) (fun cdv A outer s H vs Q E hr h => ?_)
  · obtain ⟨a, ns, rfl, _⟩ := h
    rfl
  · obtain ⟨a, ns, rfl, hS, hl, hTab, q⟩ := h
    have hr2 := hr.mono (show 2 ≤ 4 by decide)
    have hr1 := hr.mono (show 1 ≤ 4 by decide)
    refine ⟨_, pss_cons (ps_set (i := 1) scLaw.nd rfl (.inr rfl) (pe_call GT hr1 (by rfl) gT kT bT .nil pass0 (pa_cons (pv 0) pa_nil)))
      (pss_cons (ps_set (i := 2) scLaw.nd rfl (.inr rfl) (pe_ix ix_list (pe_lst (pa_cons pe_int (pa_cons pe_int (pa_cons pe_int pa_nil)))) (pe_call GD hr1 (by rfl) gD kD bD .nil pass0 (pa_cons (pv 1) (pa_cons pe_int pa_nil))) (fun _ _ => rfl)))
      (pss_cons (ps_set (i := 3) scLaw.nd rfl (.inl rfl) (pe_callTy call_tuple_of (by rfl) T.tuple (by decide +kernel) (pa_cons
          (pe_lc (own := [("_law_k", 5)]) (g := gName 5) (tt := tYes) rfl scLaw.nd (pi_range1 rfl T.range (pa_cons (pe_call GD hr1 (by rfl) gD kD bD .nil pass0 (pa_cons (pv 1) (pa_cons pe_int pa_nil))) pa_nil))
            (blkOk_by (own := [("_law_k", 5)]) (N := ["_law_script", "_law_tape_here", "_law_top", "_law_counts", "_law_threshold", "_law_k"]) (sc := defScope sLaw) (by decide +kernel))
            (fun _ _ _ _ _ => pg_name (i := 5) scLaw.nd rfl (Or.inl rfl)) (fun _ _ _ _ _ => pts_nil)
            (fun _ _ _ _ _ => pe_call GD hr1 (by rfl) gD kD bD .nil pass0 (pa_cons (pv 1) (pa_cons (pv 2) pa_nil)))) pa_nil)))
      (pss_cons (ps_set (i := 4) scLaw.nd rfl (.inl rfl) (pe_call GP hr2 (by rfl) gP kP bP .nil pass0 (pa_cons (pv 1) (pa_cons (pe_callTy call_list_of (by rfl) T.list (by decide +kernel) (pa_cons (pv 3) pa_nil)) pa_nil))))
      (pss_cons (ps_if (pt_not (pt_val (pe_call GR hr (by rfl) gR kR bR .nil pass0 (pa_cons (pv 1) (pa_cons (pv 4) (pa_cons (pv 3) pa_nil)))))) pss_never pss_nil)
      (pss_cons (ps_if (pt_cmpR op_eq (pe_call GD hr1 (by rfl) gD kD bD .nil pass0 (pa_cons (pv 1) (pa_cons pe_int pa_nil))) pe_int (nomark _))
          (pss_one (ps_ret (pe_call GR hr (by rfl) gR kR bR .nil pass0 (pa_cons (pv 1) (pa_cons (pe_call GP hr2 (by rfl) gP kP bP .nil pass0 (pa_cons (pv 1) (pa_cons (pe_callTy call_list_of (by rfl) T.list (by decide +kernel) (pa_cons (pv 3) pa_nil)) pa_nil))) (pa_cons (pv 3) pa_nil)))))) pss_nil)
      (pss_one (ps_ret (pe_call GR hr (by rfl) gR kR bR .nil pass0 (pa_cons (pv 1) (pa_cons (pv 4) (pa_cons (pe_callTy call_tuple_of (by rfl) T.tuple (by decide +kernel) (pa_cons
          (pe_lc (own := [("_law_k", 5)]) (g := gName 5) (tt := tYes) rfl scLaw.nd (pi_range1 rfl T.range (pa_cons (pe_call GD hr1 (by rfl) gD kD bD .nil pass0 (pa_cons (pv 1) (pa_cons pe_int pa_nil))) pa_nil))
            (blkOk_by (own := [("_law_k", 5)]) (N := ["_law_script", "_law_tape_here", "_law_top", "_law_counts", "_law_threshold", "_law_k"]) (sc := defScope sLaw) (by decide +kernel))
            (fun _ _ _ _ _ => pg_name (i := 5) scLaw.nd rfl (Or.inl rfl)) (fun _ _ _ _ _ => pts_nil)
            (fun _ _ _ _ _ => pe_call GD hr1 (by rfl) gD kD bD .nil pass0 (pa_cons (pv 1) (pa_cons (pv 2) pa_nil)))) pa_nil)) pa_nil))))))))))), ?_⟩
    refine ⟨_, rfl, a, ns, rfl, hS, hl, fun G t l s1 T1 => ?_⟩
    have X1 := hTab.ext s1
    -- the greatest count, and one
    refine ⟨by show 3 ≤ sizeLine; decide, fun z nz => ?_⟩
    have sz := same_new (o := .lst [V.int 3, V.int 13, V.int 101]) (Same.refl G) nz
    have nzt := T1.apart nz
    refine ⟨_, rfl, t, l, ns, 3, rfl, T1.same sz, by decide, fun G2 j hB2 T2 j0 j1 => ?_⟩
    have j2 := mx_spec 3 1
    obtain ⟨top, htop, ev⟩ := at_ints [3, 13, 101] j0 (by show j < ((3 : Nat) : Int); omega)
    have htop2 : 0 ≤ top ∧ top ≤ 101 := by
      simp only [List.mem_cons, List.not_mem_nil, or_false] at htop
      omega
    have htop3 : mx top 1 ≤ 101 := by
      have := mx_spec top 1
      omega
    refine ⟨z, _, j, _, rfl, rfl, .inl (.inl (hB2 _ _ nzt.1 upd_same)), ev, ?_⟩
    obtain ⟨tx, htx⟩ := (T1.same sz).lst
    have X2 := tabs_but (X1.ext sz) hB2 htx
    -- the counts
    refine ⟨_, rfl, t, l, ns, 10, rfl, T2, by decide, fun G3 n hB3 T3 n0 n1 => ?_⟩
    have n2 := mx_spec 10 1
    obtain ⟨tx3, htx3⟩ := T2.lst
    have X3 := tabs_but X2 hB3 htx3
    refine ⟨n, rfl, by omega, by omega, fun D nD => drawn_list T3 nD (by omega) htop3 (by omega) fun J xs hBJ TJ hD hxl hx => ?_⟩
    obtain ⟨tx4, htx4⟩ := T3.lst
    have XJ := tabs_but X3 hBJ htx4
    have hxl9 : xs.length ≤ 9 := by omega
    refine ⟨D, _, rfl, .inl ⟨.inl (.inl hD), fun c nc => ?_⟩⟩
    have sc := same_new (o := .tup (xs.map V.int)) (Same.refl J) nc
    have T4 := TJ.same sc
    have X4 := XJ.ext sc
    obtain ⟨tx5, htx5⟩ := T4.lst
    have hc4 := upd_same (H := J) (a := c) (o := .tup (xs.map V.int))
    have nct : c ≠ t := ne_of hc4 htx5 fun y => by cases y
    generalize upd J c (.tup (xs.map V.int)) = G4 at *
    -- the threshold
    refine ⟨_, rfl, _, rfl, c, _, rfl, .inr (.inl (.inl hc4)), fun b nb => ?_⟩
    have sb := same_new (o := .lst (xs.map V.int)) (Same.refl G4) nb
    refine ⟨t, b, l, ns, xs, rfl, T4.same sb, upd_same, hxl9, fun G5 th d r tot per hB5 T5 hth d9 r9 u0 u1 v0 v1 => ?_⟩
    have X5 := tabs_but (X4.ext sb) hB5 (sb _ _ htx5)
    have hc5 := hB5 _ _ nct (sb _ _ hc4)
    refine ⟨_, rfl, _, rfl, _, rfl, t, th, c, l, ns, xs, d, r, tot, per, rfl, T5, hth, hc5, X5, d9, r9, u0, u1, v0, v1, hxl9, hx, fun G6 K6 T6 X6 => ⟨true, rfl, iteF ?_⟩⟩
    have hc6 := K6 _ _ nct (fun ps y => by cases y) hc5
    obtain ⟨tx6, htx6⟩ := T5.lst
    have hth6 := K6 _ _ (ne_of hth htx6 fun y => by unfold thr at y; cases y) thr_tbl hth
    obtain ⟨tx7, htx7⟩ := T6.lst
    refine ⟨_, rfl, t, l, ns, 2, rfl, T6, by decide, fun G7 k hB7 T7 k0 k1 => ⟨rfl, _, rfl, ite2 (fun e => ?_) (fun e => ?_)⟩⟩
    · -- another threshold
      have X7 := tabs_but X6 hB7 htx7
      have hc7 := hB7 _ _ nct hc6
      refine ⟨_, rfl, _, rfl, _, rfl, c, _, rfl, .inr (.inl (.inl hc7)), fun b2 nb2 => ?_⟩
      have sb2 := same_new (o := .lst (xs.map V.int)) (Same.refl G7) nb2
      refine ⟨t, b2, l, ns, xs, rfl, T7.same sb2, upd_same, hxl9, fun G8 th2 d2 r2 tot2 per2 hB8 T8 hth2 d9' r9' u0' u1' v0' v1' => ?_⟩
      obtain ⟨tx8, htx8⟩ := (T7.same sb2).lst
      have X8 := tabs_but (X7.ext sb2) hB8 htx8
      have hc8 := hB8 _ _ nct (sb2 _ _ hc7)
      exact ⟨_, rfl, t, th2, c, l, ns, xs, d2, r2, tot2, per2, rfl, T8, hth2, hc8, X8, d9', r9', u0', u1', v0', v1', hxl9, hx, fun G9 _ _ _ => q G9⟩
    · -- other counts
      have X7 := tabs_but X6 hB7 htx7
      have hth7 := hB7 _ _ (ne_of hth6 htx7 fun y => by unfold thr at y; cases y) hth6
      refine ⟨_, rfl, _, rfl, _, rfl, t, l, ns, 10, rfl, T7, by decide, fun G8 m hB8 T8 m0 m1 => ?_⟩
      obtain ⟨tx8, htx8⟩ := T7.lst
      have X8 := tabs_but X7 hB8 htx8
      have hth8 := hB8 _ _ (ne_of hth7 htx8 fun y => by unfold thr at y; cases y) hth7
      refine ⟨m, rfl, by omega, by omega, fun D2 nD2 => drawn_list T8 nD2 (by omega) htop3 (by omega) fun J2 ys hBJ2 TJ2 hD2 hyl hy => ?_⟩
      obtain ⟨tx9, htx9⟩ := T8.lst
      have XJ2 := tabs_but X8 hBJ2 htx9
      have hth9 := hBJ2 _ _ (ne_of hth8 htx9 fun y => by unfold thr at y; cases y) hth8
      refine ⟨D2, _, rfl, .inl ⟨.inl (.inl hD2), fun c2 nc2 => ?_⟩⟩
      have sc2 := same_new (o := .tup (ys.map V.int)) (Same.refl J2) nc2
      exact ⟨t, th, c2, l, ns, ys, d, r, tot, per, rfl, TJ2.same sc2, sc2 _ _ hth9, upd_same, XJ2.ext sc2, d9, r9, u0, u1, v0, v1, by omega, hy, fun G9 _ _ _ => q G9⟩
end
end K24
/-! What the top leaves, and the end. -/
namespace K24
open PySem PySem.Spec PyProof.Rows L2 LamX
theorem all_mk {l : PySem.W.OpenLaw} {w : World} {K : PySem.W.Frag} {h : Heap} {mg : Str → Option Value} {fa Pt cF : Addr} (X : K.In h) (G : h.Ns mainGlobals mg) (hfa : mg "law" = some (.ref fa)) (hTab : h.get? Pt = some { cls := .none, data := .fields #[] })
    {f1 : Addr} {od1 an1 : Option Addr} {sl1 : Array (Option Value)} {oc1 kV1 dc1 pm1 cd1 ct1 : Value}
    (a1 : PySem.W.nsIn K mainGlobals "qualifies" = some (some (.ref f1))) (l1 : K.lookup f1 = some ⟨oc1, od1, .func (PySem.W.fnOf "qualifies" "qualifies" (defArgs sQual) (defBody sQual) (defScope sQual) .none kV1 dc1 pm1 an1 (cd1) ct1), sl1⟩) (c1 : PySem.W.codeIn K (cd1) "qualifies" = true) (k1 : PySem.W.keepIn K (.ref f1) = true)
    {f2 : Addr} {od2 an2 : Option Addr} {sl2 : Array (Option Value)} {oc2 kV2 dc2 pm2 cd2 ct2 : Value}
    (a2 : PySem.W.nsIn K mainGlobals "counts_of_districts" = some (some (.ref f2))) (l2 : K.lookup f2 = some ⟨oc2, od2, .func (PySem.W.fnOf "counts_of_districts" "counts_of_districts" (defArgs sCnt) (defBody sCnt) (defScope sCnt) .none kV2 dc2 pm2 an2 (cd2) ct2), sl2⟩) (c2 : PySem.W.codeIn K (cd2) "counts_of_districts" = true) (k2 : PySem.W.keepIn K (.ref f2) = true)
    {f3 : Addr} {od3 an3 : Option Addr} {sl3 : Array (Option Value)} {oc3 kV3 dc3 pm3 ct3 : Value}
    (a3 : PySem.W.nsIn K mainGlobals "further_signatures" = some (some (.ref f3))) (l3 : K.lookup f3 = some ⟨oc3, od3, .func (PySem.W.fnOf "further_signatures" "further_signatures" (defArgs sFur) (defBody sFur) (defScope sFur) .none kV3 dc3 pm3 an3 (.ref cF) ct3), sl3⟩) (c3 : PySem.W.codeIn K (.ref cF) "further_signatures" = true) (k3 : PySem.W.keepIn K (.ref f3) = true)
    {f4 : Addr} {od4 an4 : Option Addr} {sl4 : Array (Option Value)} {oc4 kV4 dc4 pm4 cd4 ct4 : Value}
    (a4 : PySem.W.nsIn K mainGlobals "signatures_needed" = some (some (.ref f4))) (l4 : K.lookup f4 = some ⟨oc4, od4, .func (PySem.W.fnOf "signatures_needed" "signatures_needed" (defArgs sNeed) (defBody sNeed) (defScope sNeed) .none kV4 dc4 pm4 an4 (cd4) ct4), sl4⟩) (c4 : PySem.W.codeIn K (cd4) "signatures_needed" = true) (k4 : PySem.W.keepIn K (.ref f4) = true)
    {f6 : Addr} {od6 an6 : Option Addr} {sl6 : Array (Option Value)} {oc6 kV6 dc6 pm6 cd6 ct6 : Value}
    (a6 : PySem.W.nsIn K mainGlobals "_law_tape" = some (some (.ref f6))) (l6 : K.lookup f6 = some ⟨oc6, od6, .func (PySem.W.fnOf "_law_tape" "_law_tape" (defArgs sTape) (defBody sTape) (defScope sTape) .none kV6 dc6 pm6 an6 (cd6) ct6), sl6⟩) (c6 : PySem.W.codeIn K (cd6) "_law_tape" = true) (k6 : PySem.W.keepIn K (.ref f6) = true)
    {f7 : Addr} {od7 an7 : Option Addr} {sl7 : Array (Option Value)} {oc7 kV7 dc7 pm7 cd7 ct7 : Value}
    (a7 : PySem.W.nsIn K mainGlobals "_law_draw" = some (some (.ref f7))) (l7 : K.lookup f7 = some ⟨oc7, od7, .func (PySem.W.fnOf "_law_draw" "_law_draw" (defArgs sDraw) (defBody sDraw) (defScope sDraw) .none kV7 dc7 pm7 an7 (cd7) ct7), sl7⟩) (c7 : PySem.W.codeIn K (cd7) "_law_draw" = true) (k7 : PySem.W.keepIn K (.ref f7) = true)
    {f8 : Addr} {od8 an8 : Option Addr} {sl8 : Array (Option Value)} {oc8 kV8 dc8 pm8 cd8 ct8 : Value}
    (a8 : PySem.W.nsIn K mainGlobals "_law_same" = some (some (.ref f8))) (l8 : K.lookup f8 = some ⟨oc8, od8, .func (PySem.W.fnOf "_law_same" "_law_same" (defArgs sSame) (defBody sSame) (defScope sSame) .none kV8 dc8 pm8 an8 (cd8) ct8), sl8⟩) (c8 : PySem.W.codeIn K (cd8) "_law_same" = true) (k8 : PySem.W.keepIn K (.ref f8) = true)
    {f9 : Addr} {od9 an9 : Option Addr} {sl9 : Array (Option Value)} {oc9 kV9 dc9 pm9 cd9 ct9 : Value}
    (a9 : PySem.W.nsIn K mainGlobals "_law_petition" = some (some (.ref f9))) (l9 : K.lookup f9 = some ⟨oc9, od9, .func (PySem.W.fnOf "_law_petition" "_law_petition" (defArgs sPet) (defBody sPet) (defScope sPet) .none kV9 dc9 pm9 an9 (cd9) ct9), sl9⟩) (c9 : PySem.W.codeIn K (cd9) "_law_petition" = true) (k9 : PySem.W.keepIn K (.ref f9) = true)
    {f10 : Addr} {od10 an10 : Option Addr} {sl10 : Array (Option Value)} {oc10 kV10 dc10 pm10 cd10 ct10 : Value}
    (a10 : PySem.W.nsIn K mainGlobals "_law_enough" = some (some (.ref f10))) (l10 : K.lookup f10 = some ⟨oc10, od10, .func (PySem.W.fnOf "_law_enough" "_law_enough" (defArgs sEno) (defBody sEno) (defScope sEno) .none kV10 dc10 pm10 an10 (cd10) ct10), sl10⟩) (c10 : PySem.W.codeIn K (cd10) "_law_enough" = true) (k10 : PySem.W.keepIn K (.ref f10) = true)
    {f11 : Addr} {od11 an11 : Option Addr} {sl11 : Array (Option Value)} {oc11 kV11 dc11 pm11 cd11 ct11 : Value}
    (a11 : PySem.W.nsIn K mainGlobals "_law_further" = some (some (.ref f11))) (l11 : K.lookup f11 = some ⟨oc11, od11, .func (PySem.W.fnOf "_law_further" "_law_further" (defArgs sFuL) (defBody sFuL) (defScope sFuL) .none kV11 dc11 pm11 an11 (cd11) ct11), sl11⟩) (c11 : PySem.W.codeIn K (cd11) "_law_further" = true) (k11 : PySem.W.keepIn K (.ref f11) = true)
    {f12 : Addr} {od12 an12 : Option Addr} {sl12 : Array (Option Value)} {oc12 kV12 dc12 pm12 cd12 ct12 : Value}
    (a12 : PySem.W.nsIn K mainGlobals "_law_signed" = some (some (.ref f12))) (l12 : K.lookup f12 = some ⟨oc12, od12, .func (PySem.W.fnOf "_law_signed" "_law_signed" (defArgs sSgd) (defBody sSgd) (defScope sSgd) .none kV12 dc12 pm12 an12 (cd12) ct12), sl12⟩) (c12 : PySem.W.codeIn K (cd12) "_law_signed" = true) (k12 : PySem.W.keepIn K (.ref f12) = true)
    {f13 : Addr} {od13 an13 : Option Addr} {sl13 : Array (Option Value)} {oc13 kV13 dc13 pm13 cd13 ct13 : Value}
    (a13 : PySem.W.nsIn K mainGlobals "_law_fewer" = some (some (.ref f13))) (l13 : K.lookup f13 = some ⟨oc13, od13, .func (PySem.W.fnOf "_law_fewer" "_law_fewer" (defArgs sFew) (defBody sFew) (defScope sFew) .none kV13 dc13 pm13 an13 (cd13) ct13), sl13⟩) (c13 : PySem.W.codeIn K (cd13) "_law_fewer" = true) (k13 : PySem.W.keepIn K (.ref f13) = true)
    {f14 : Addr} {od14 an14 : Option Addr} {sl14 : Array (Option Value)} {oc14 kV14 dc14 pm14 cd14 ct14 : Value}
    (a14 : PySem.W.nsIn K mainGlobals "_law_right" = some (some (.ref f14))) (l14 : K.lookup f14 = some ⟨oc14, od14, .func (PySem.W.fnOf "_law_right" "_law_right" (defArgs sRig) (defBody sRig) (defScope sRig) .none kV14 dc14 pm14 an14 (cd14) ct14), sl14⟩) (c14 : PySem.W.codeIn K (cd14) "_law_right" = true) (k14 : PySem.W.keepIn K (.ref f14) = true)
    {f15 : Addr} {od15 an15 : Option Addr} {sl15 : Array (Option Value)} {oc15 kV15 dc15 pm15 cd15 ct15 : Value}
    (a15 : PySem.W.nsIn K mainGlobals "law" = some (some (.ref f15))) (l15 : K.lookup f15 = some ⟨oc15, od15, .func (PySem.W.fnOf "law" "law" (defArgs sLaw) (defBody sLaw) (defScope sLaw) .none kV15 dc15 pm15 an15 (cd15) ct15), sl15⟩) (c15 : PySem.W.codeIn K (cd15) "law" = true) (k15 : PySem.W.keepIn K (.ref f15) = true)
    (z_len : PySem.W.nsIn K mainGlobals "len" = some none)
    (z_abs : PySem.W.nsIn K mainGlobals "abs" = some none)
    (z_int : PySem.W.nsIn K mainGlobals "int" = some none)
    (z_max : PySem.W.nsIn K mainGlobals "max" = some none)
    (z_min : PySem.W.nsIn K mainGlobals "min" = some none)
    (z_sum : PySem.W.nsIn K mainGlobals "sum" = some none)
    (z_range : PySem.W.nsIn K mainGlobals "range" = some none)
    (z_list : PySem.W.nsIn K mainGlobals "list" = some none)
    (z_tuple : PySem.W.nsIn K mainGlobals "tuple" = some none)
    (z_set : PySem.W.nsIn K mainGlobals "set" = some none)
    (z_sorted : PySem.W.nsIn K mainGlobals "sorted" = some none)
    (z_isinstance : PySem.W.nsIn K mainGlobals "isinstance" = some none)
    (z_bool : PySem.W.nsIn K mainGlobals "bool" = some none)
    (z_str : PySem.W.nsIn K mainGlobals "str" = some none)
    (hd : PySem.W.codeHdIn K cF Pt = true) (out : K.lookup Pt = none) : LawAtS l w K CX0 5 63 "_law_script" mg fa h := by
  have e := hfa.symm.trans (PySem.W.mg_of X G a15)
  cases e
  have T : Free mg := ⟨PySem.W.mg_none_of X G z_len, PySem.W.mg_none_of X G z_abs, PySem.W.mg_none_of X G z_int, PySem.W.mg_none_of X G z_max, PySem.W.mg_none_of X G z_min, PySem.W.mg_none_of X G z_sum, PySem.W.mg_none_of X G z_range, PySem.W.mg_none_of X G z_list, PySem.W.mg_none_of X G z_tuple, PySem.W.mg_none_of X G z_set, PySem.W.mg_none_of X G z_sorted, PySem.W.mg_none_of X G z_isinstance, PySem.W.mg_none_of X G z_bool, PySem.W.mg_none_of X G z_str⟩
  have F1 := fun_mk (st := sQual) l1 c1 k1
  have b1 := F1.binds (ps := ["threshold", "signatures"]) fun _ _ _ _ _ _ us hl => match us, hl with | [_, _], _ => rfl
  have F2 := fun_mk (st := sCnt) l2 c2 k2
  have b2 := F2.binds (ps := ["districts", "counts"]) fun _ _ _ _ _ _ us hl => match us, hl with | [_, _], _ => rfl
  have F3 : FunC K "further_signatures" sFur f3 _ cF := ⟨⟨oc3, od3, kV3, dc3, pm3, an3, ct3, sl3, rfl, l3, c3⟩, k3⟩
  have b3 : Binds K (PySem.W.fnOf "further_signatures" "further_signatures" (defArgs sFur) (defBody sFur) (defScope sFur) .none kV3 dc3 pm3 an3 (.ref cF) ct3) ["threshold", "counts"] [] := .all fun us hl => match us, hl with | [_, _], _ => rfl
  have F4 := fun_mk (st := sNeed) l4 c4 k4
  have b4 := F4.binds (ps := ["threshold", "counts"]) fun _ _ _ _ _ _ us hl => match us, hl with | [_, _], _ => rfl
  have F6 := fun_mk (st := sTape) l6 c6 k6
  have b6 := F6.binds (ps := ["_law_script"]) fun _ _ _ _ _ _ us hl => match us, hl with | [_], _ => rfl
  have F7 := fun_mk (st := sDraw) l7 c7 k7
  have b7 := F7.binds (ps := ["_law_tape_here", "_law_many"]) fun _ _ _ _ _ _ us hl => match us, hl with | [_, _], _ => rfl
  have F8 := fun_mk (st := sSame) l8 c8 k8
  have b8 := F8.binds (ps := ["_law_actual", "_law_expected"]) fun _ _ _ _ _ _ us hl => match us, hl with | [_, _], _ => rfl
  have F9 := fun_mk (st := sPet) l9 c9 k9
  have b9 := F9.binds (ps := ["_law_tape_here", "_law_counts"]) fun _ _ _ _ _ _ us hl => match us, hl with | [_, _], _ => rfl
  have F10 := fun_mk (st := sEno) l10 c10 k10
  have b10 := F10.binds (ps := ["_law_threshold", "_law_counts"]) fun _ _ _ _ _ _ us hl => match us, hl with | [_, _], _ => rfl
  have F11 := fun_mk (st := sFuL) l11 c11 k11
  have b11 := F11.binds (ps := ["_law_threshold", "_law_counts"]) fun _ _ _ _ _ _ us hl => match us, hl with | [_, _], _ => rfl
  have F12 := fun_mk (st := sSgd) l12 c12 k12
  have b12 := F12.binds (ps := ["_law_counts"]) fun _ _ _ _ _ _ us hl => match us, hl with | [_], _ => rfl
  have F13 := fun_mk (st := sFew) l13 c13 k13
  have b13 := F13.binds (ps := ["_law_tape_here", "_law_further_here"]) fun _ _ _ _ _ _ us hl => match us, hl with | [_, _], _ => rfl
  have F14 := fun_mk (st := sRig) l14 c14 k14
  have b14 := F14.binds (ps := ["_law_tape_here", "_law_threshold", "_law_counts"]) fun _ _ _ _ _ _ us hl => match us, hl with | [_, _, _], _ => rfl
  have F15 := fun_mk (st := sLaw) l15 c15 k15
  have b15 := F15.binds (ps := ["_law_script"]) fun _ _ _ _ _ _ us hl => match us, hl with | [_], _ => rfl
  refine ⟨PySem.W.fnOf "law" "law" (defArgs sLaw) (defBody sLaw) (defScope sLaw) .none kV15 dc15 pm15 an15 cd15 ct15, [(cF, Pt)], spLaw K [(Pt, qLam)], fun q hq => ?_, fun q hq => ?_, fun q hq => ?_, fun s v => .of_eq rfl, fun H a ns hl _ hT hS => ⟨a, ns, rfl, hS, hl, fun e he => ?_, fun _ => rfl⟩, fun base hK hG hTB => ?_⟩
  · rw [List.mem_singleton.mp hq]; exact hTab
  · rw [List.mem_singleton.mp hq]; exact out
  · rw [List.mem_singleton.mp hq]; exact PySem.W.codeHd_of_K X hd
  · rw [List.mem_singleton.mp he]; exact TabS.nil (hT (cF, Pt) (List.mem_singleton.mpr rfl))
  · have TB := hTB (cF, Pt) (List.mem_singleton.mpr rfl)
    have G3 : FnOk l.prog w K mg base CX0 2 f3 _ ["threshold", "counts"] (spFur [(Pt, qLam)]) := ok_fur F3 T F2 b2 (PySem.W.mg_of X G a2) TB
    have C1 : Cal l.prog w K mg base [(Pt, qLam)] "qualifies" 1 ["threshold", "signatures"] spQual := ⟨f1, _, ok_qual F1 T, k1, b1, PySem.W.mg_of X G a1⟩
    have C3 : Cal l.prog w K mg base [(Pt, qLam)] "further_signatures" 2 ["threshold", "counts"] (spFur [(Pt, qLam)]) := ⟨f3, _, G3, k3, b3, PySem.W.mg_of X G a3⟩
    have C4 : Cal l.prog w K mg base [(Pt, qLam)] "signatures_needed" 3 ["threshold", "counts"] (spNeed [(Pt, qLam)]) := ⟨f4, _, ok_need F4 T G3 k3 b3 (PySem.W.mg_of X G a3), k4, b4, PySem.W.mg_of X G a4⟩
    have C6 : Cal l.prog w K mg base [(Pt, qLam)] "_law_tape" 1 ["_law_script"] (spTape K) := ⟨f6, _, ok_tape F6 T, k6, b6, PySem.W.mg_of X G a6⟩
    have C7 : Cal l.prog w K mg base [(Pt, qLam)] "_law_draw" 1 ["_law_tape_here", "_law_many"] spDraw := ⟨f7, _, ok_draw F7 T, k7, b7, PySem.W.mg_of X G a7⟩
    have C80 : Cal l.prog w K mg base [(Pt, qLam)] "_law_same" 1 ["_law_actual", "_law_expected"] spSame0 := ⟨f8, _, ok_same0 F8 T, k8, b8, PySem.W.mg_of X G a8⟩
    have C81 : Cal l.prog w K mg base [(Pt, qLam)] "_law_same" 2 ["_law_actual", "_law_expected"] spSame1 := ⟨f8, _, ok_same1 F8 b8 (PySem.W.mg_of X G a8) T, k8, b8, PySem.W.mg_of X G a8⟩
    have C9 : Cal l.prog w K mg base [(Pt, qLam)] "_law_petition" 2 ["_law_tape_here", "_law_counts"] spPet := ⟨f9, _, ok_pet F9 T F7 b7 (PySem.W.mg_of X G a7), k9, b9, PySem.W.mg_of X G a9⟩
    have C10 : Cal l.prog w K mg base [(Pt, qLam)] "_law_enough" 1 ["_law_threshold", "_law_counts"] (spEno K) := ⟨f10, _, ok_eno F10 T, k10, b10, PySem.W.mg_of X G a10⟩
    have C11 : Cal l.prog w K mg base [(Pt, qLam)] "_law_further" 1 ["_law_threshold", "_law_counts"] (spFuL K) := ⟨f11, _, ok_fuL F11 T, k11, b11, PySem.W.mg_of X G a11⟩
    have C12 : Cal l.prog w K mg base [(Pt, qLam)] "_law_signed" 1 ["_law_counts"] (spSgd K) := ⟨f12, _, ok_sgd F12 T, k12, b12, PySem.W.mg_of X G a12⟩
    have C13 : Cal l.prog w K mg base [(Pt, qLam)] "_law_fewer" 2 ["_law_tape_here", "_law_further_here"] spFew := ⟨f13, _, ok_few F13 T F7 b7 (PySem.W.mg_of X G a7), k13, b13, PySem.W.mg_of X G a13⟩
    have C14 : Cal l.prog w K mg base [(Pt, qLam)] "_law_right" 4 ["_law_tape_here", "_law_threshold", "_law_counts"] (spRig [(Pt, qLam)]) := ⟨f14, _, ok_rig F14 T C4 C3 C11 C80 C81 C10 C1 C12 C13, k14, b14, PySem.W.mg_of X G a14⟩
    exact ok_law F15 T C6 C7 C9 C14
end K24
open PySem PySem.W PyProof.Rows
set_option maxHeartbeats 0 in
theorem PySem.Challenge.cw_gazette_k24_whole_signatures_needed_holds : PySem.Challenge.rw_gazette_k24_whole_signatures_needed.Holds := by
  w_on; o_law; k_head; (case hw => w_witness2)
  k_fill
  refine LamX.walk_ofTs (l := PySem.Challenge.rw_gazette_k24_whole_signatures_needed) (n := 63) (k := 5) (x := "_law_script") (CX := fun _ => L2.CX0) rfl (by decide) rfl ⟨rfl, by decide, by decide⟩ (fun w h Y => PySem.W.km_in_of Y) ?F (fun _ _ _ _ _ h => h)
  case F =>
    intro w mg fa h Y KX G hmg
    refine' K24.all_mk KX G hmg (PySem.W.km_tabs_of Y _ (List.mem_singleton.mpr rfl)) ?a1 ?l1 ?c1 ?k1 ?a2 ?l2 ?c2 ?k2 ?a3 ?l3 ?c3 ?k3 ?a4 ?l4 ?c4 ?k4 ?a6 ?l6 ?c6 ?k6 ?a7 ?l7 ?c7 ?k7 ?a8 ?l8 ?c8 ?k8 ?a9 ?l9 ?c9 ?k9 ?a10 ?l10 ?c10 ?k10 ?a11 ?l11 ?c11 ?k11 ?a12 ?l12 ?c12 ?k12 ?a13 ?l13 ?c13 ?k13 ?a14 ?l14 ?c14 ?k14 ?a15 ?l15 ?c15 ?k15 ?z_len ?z_abs ?z_int ?z_max ?z_min ?z_sum ?z_range ?z_list ?z_tuple ?z_set ?z_sorted ?z_isinstance ?z_bool ?z_str ?hd ?out
    (case a1 => k_is); (case l1 => k_is); (case c1 => k_is); (case k1 => k_is); (case a2 => k_is); (case l2 => k_is); (case c2 => k_is); (case k2 => k_is)
    (case a3 => k_is); (case l3 => k_is); (case c3 => k_is); (case k3 => k_is); (case a4 => k_is); (case l4 => k_is); (case c4 => k_is); (case k4 => k_is)
    (case a6 => k_is); (case l6 => k_is); (case c6 => k_is); (case k6 => k_is); (case a7 => k_is); (case l7 => k_is); (case c7 => k_is); (case k7 => k_is)
    (case a8 => k_is); (case l8 => k_is); (case c8 => k_is); (case k8 => k_is); (case a9 => k_is); (case l9 => k_is); (case c9 => k_is); (case k9 => k_is)
    (case a10 => k_is); (case l10 => k_is); (case c10 => k_is); (case k10 => k_is); (case a11 => k_is); (case l11 => k_is); (case c11 => k_is); (case k11 => k_is)
    (case a12 => k_is); (case l12 => k_is); (case c12 => k_is); (case k12 => k_is); (case a13 => k_is); (case l13 => k_is); (case c13 => k_is); (case k13 => k_is)
    (case a14 => k_is); (case l14 => k_is); (case c14 => k_is); (case k14 => k_is); (case a15 => k_is); (case l15 => k_is); (case c15 => k_is); (case k15 => k_is)
    (case z_len => k_is); (case z_abs => k_is); (case z_int => k_is); (case z_max => k_is); (case z_min => k_is); (case z_sum => k_is); (case z_range => k_is)
    (case z_list => k_is); (case z_tuple => k_is); (case z_set => k_is); (case z_sorted => k_is); (case z_isinstance => k_is); (case z_bool => k_is); (case z_str => k_is)
    (case hd => kernel_rfl); (case out => kernel_rfl)
