import PyProof.Rows.All
import Wide.All
import OpenK.AllK
import Wide.FinOn
import HandS.ForMost
import HandS.Defaults
import HandS.EndBits
import HandS.DictComp
import HandS.NoneIn
import HandS.SetKeys
import HandS.Small
import HandS.Style
import HandS.WideBits
import HandS.Strs
import HandS.SortInts
import HandS.Conv
import HandS.More
import KE.KDictWalk
import KE.KDictCopyH
import KE.KDictSum
import KE.SortData
import KE.KDictOf
import HandS.SetFor
import KE.IntBitsLaws
import HandS.Walk
import HandS.Flow
import PySem.Challenge.RW_keptnames_k31_whole_few_items_move
set_option Elab.async false
set_option linter.all false
set_option maxRecDepth 100000
set_option maxHeartbeats 4000000
namespace KN
/-! ### plain tables: lists of pairs, a key once -/
section tables
variable {α β : Type} [DecidableEq α]
def look : List (α × β) → α → Option β
  | [], _ => none
  | x :: r, a => if x.1 = a then some x.2 else look r a
def put : List (α × β) → α → β → List (α × β)
  | [], a, b => [(a, b)]
  | x :: r, a, b => if x.1 = a then (a, b) :: r else x :: put r a b
def del (L : List (α × β)) (a : α) : List (α × β) := L.filter fun x => !decide (x.1 = a)
abbrev keys (L : List (α × β)) : List α := L.map Prod.fst
theorem look_put (L : List (α × β)) (a j : α) (b : β) : look (put L a b) j = if j = a then some b else look L j := by
  induction L with
  | nil =>
    by_cases h : j = a
    · subst h; simp [put, look]
    · simp [put, look, h, Ne.symm h]
  | cons x r ih =>
    by_cases hx : x.1 = a
    · by_cases hj : j = a
      · subst hj; simp [put, look, hx]
      · have h2 : ¬ x.1 = j := fun e => hj (e.symm.trans hx)
        simp [put, look, hx, hj, Ne.symm hj, h2]
    · by_cases hj : j = a
      · subst hj; simp [put, look, hx, ih]
      · by_cases hxj : x.1 = j
        · simp [put, look, hx, hxj, hj]
        · simp [put, look, hx, hxj, ih, hj]
theorem look_none {L : List (α × β)} {a : α} : look L a = none ↔ a ∉ keys L := by
  induction L with
  | nil => simp [look]
  | cons x r ih =>
    by_cases h : x.1 = a
    · simp [look, h]
    · simp only [look, h, if_false, ih, keys, List.map_cons, List.mem_cons, not_or]
      exact ⟨fun q => ⟨fun e => h e.symm, q⟩, fun q => q.2⟩
theorem mem_of_look {L : List (α × β)} {a : α} {b : β} : look L a = some b → (a, b) ∈ L := by
  induction L with
  | nil => simp [look]
  | cons x r ih =>
    by_cases h : x.1 = a
    · subst h
      intro e
      simp only [look, if_true, Option.some.injEq] at e
      subst e
      exact List.mem_cons_self
    · intro e
      simp only [look, h, if_false] at e
      exact List.mem_cons_of_mem _ (ih e)
theorem key_of_look {L : List (α × β)} {a : α} {b : β} (h : look L a = some b) : a ∈ keys L :=
  List.mem_map.mpr ⟨_, mem_of_look h, rfl⟩
theorem look_of_mem {L : List (α × β)} (hn : (keys L).Nodup) {a : α} {b : β} (h : (a, b) ∈ L) : look L a = some b := by
  induction L with
  | nil => simp at h
  | cons x r ih =>
    have hn' := List.nodup_cons.mp (show (x.1 :: keys r).Nodup from hn)
    rcases List.mem_cons.mp h with e | e
    · subst e; simp [look]
    · have : ¬ x.1 = a := fun q => hn'.1 (q ▸ List.mem_map.mpr ⟨_, e, rfl⟩)
      simp only [look, this, if_false]
      exact ih hn'.2 e
theorem look_some_of_key {L : List (α × β)} {a : α} (h : a ∈ keys L) : ∃ b, look L a = some b := by
  cases e : look L a with
  | none => exact absurd h (look_none.mp e)
  | some b => exact ⟨b, rfl⟩
theorem keys_put_in {L : List (α × β)} {a : α} (b : β) (h : a ∈ keys L) : keys (put L a b) = keys L := by
  induction L with
  | nil => simp at h
  | cons x r ih =>
    by_cases hx : x.1 = a
    · simp [put, hx]
    · have : a ∈ keys r := by
        rcases List.mem_cons.mp h with e | e
        · exact absurd e.symm hx
        · exact e
      simp [put, hx, ih this]
theorem keys_put_new {L : List (α × β)} {a : α} (b : β) (h : a ∉ keys L) : put L a b = L ++ [(a, b)] := by
  induction L with
  | nil => rfl
  | cons x r ih =>
    have h1 : ¬ x.1 = a := fun e => h (e ▸ List.mem_cons_self)
    have h2 : a ∉ keys r := fun e => h (List.mem_cons_of_mem _ e)
    simp [put, h1, ih h2]
theorem mem_keys_put {L : List (α × β)} {a j : α} {b : β} : j ∈ keys (put L a b) ↔ j = a ∨ j ∈ keys L := by
  have := look_put L a j b
  by_cases h : j = a
  · rw [if_pos h] at this
    exact ⟨fun _ => .inl h, fun _ => key_of_look this⟩
  · rw [if_neg h] at this
    constructor
    · intro q
      obtain ⟨c, hc⟩ := look_some_of_key q
      rw [this] at hc
      exact .inr (key_of_look hc)
    · intro q
      rcases q with q | q
      · exact absurd q h
      · obtain ⟨c, hc⟩ := look_some_of_key q
        rw [← this] at hc
        exact key_of_look hc
theorem nodup_put {L : List (α × β)} {a : α} {b : β} (hn : (keys L).Nodup) : (keys (put L a b)).Nodup := by
  by_cases h : a ∈ keys L
  · rw [keys_put_in b h]; exact hn
  · rw [keys_put_new b h]
    simp only [keys, List.map_append, List.map_cons, List.map_nil]
    refine List.nodup_append.mpr ⟨hn, by simp, ?_⟩
    intro x hx y hy e
    simp at hy
    subst hy
    exact h (e ▸ hx)
theorem put_length {L : List (α × β)} {a : α} {b : β} : (put L a b).length ≤ L.length + 1 := by
  by_cases h : a ∈ keys L
  · have := congrArg List.length (keys_put_in b h)
    simp at this
    omega
  · rw [keys_put_new b h]; simp
theorem look_del (L : List (α × β)) (a j : α) : look (del L a) j = if j = a then none else look L j := by
  induction L with
  | nil => simp [del, look]
  | cons x r ih =>
    by_cases hx : x.1 = a
    · have e : del (x :: r) a = del r a := by simp [del, hx]
      rw [e, ih]
      by_cases hj : j = a
      · simp [hj]
      · have : ¬ x.1 = j := fun q => hj (q.symm.trans hx)
        simp [hj, look, this]
    · have e : del (x :: r) a = x :: del r a := by simp [del, hx]
      rw [e]
      by_cases hj : j = a
      · subst hj
        simp [look, hx, ih]
      · by_cases hxj : x.1 = j
        · simp [look, hxj, hj]
        · simp [look, hxj, ih, hj]
theorem nodup_del {L : List (α × β)} {a : α} (hn : (keys L).Nodup) : (keys (del L a)).Nodup := by
  unfold keys del
  exact (List.Sublist.map _ List.filter_sublist).nodup hn
theorem del_mem {L : List (α × β)} {a : α} {x : α × β} : x ∈ del L a ↔ x ∈ L ∧ x.1 ≠ a := by
  simp [del]
theorem del_none {L : List (α × β)} {a : α} (h : a ∉ keys L) : del L a = L := by
  unfold del
  refine List.filter_eq_self.mpr fun x hx => ?_
  have : ¬ x.1 = a := fun e => h (e ▸ List.mem_map.mpr ⟨x, hx, rfl⟩)
  simp [this]
end tables

/-! ### sums -/
section sums
variable {α β : Type}
def sumf (f : α → Int) (l : List α) : Int := (l.map f).sum
theorem sumf_nil (f : α → Int) : sumf f [] = 0 := rfl
theorem sumf_cons (f : α → Int) (a : α) (l : List α) : sumf f (a :: l) = f a + sumf f l := by simp [sumf]
theorem sumf_append (f : α → Int) (l m : List α) : sumf f (l ++ m) = sumf f l + sumf f m := by
  induction l with
  | nil => simp [sumf]
  | cons a r ih => rw [List.cons_append, sumf_cons, sumf_cons, ih]; omega
theorem sumf_map (f : β → Int) (g : α → β) (l : List α) : sumf f (l.map g) = sumf (fun x => f (g x)) l := by
  simp [sumf, Function.comp_def]
theorem sumf_congr {f g : α → Int} {l : List α} (h : ∀ x ∈ l, f x = g x) : sumf f l = sumf g l := by
  unfold sumf
  rw [List.map_congr_left h]
theorem sumf_add (f g : α → Int) (l : List α) : sumf (fun x => f x + g x) l = sumf f l + sumf g l := by
  induction l with
  | nil => rfl
  | cons a r ih => rw [sumf_cons, sumf_cons, sumf_cons, ih]; omega
theorem sumf_sub' (f g : α → Int) (l : List α) : sumf (fun x => f x - g x) l = sumf f l - sumf g l := by
  induction l with
  | nil => rfl
  | cons a r ih => rw [sumf_cons, sumf_cons, sumf_cons, ih]; omega
theorem sumf_zero (l : List α) : sumf (fun _ => 0) l = 0 := by
  induction l with
  | nil => rfl
  | cons a r ih => rw [sumf_cons, ih]; rfl
theorem sumf_le {f g : α → Int} {l : List α} (h : ∀ x ∈ l, f x ≤ g x) : sumf f l ≤ sumf g l := by
  induction l with
  | nil => exact Int.le_refl _
  | cons a r ih =>
    have h1 := h a List.mem_cons_self
    have h2 := ih fun x hx => h x (List.mem_cons_of_mem _ hx)
    rw [sumf_cons, sumf_cons]; omega
theorem sumf_nonneg {f : α → Int} {l : List α} (h : ∀ x ∈ l, 0 ≤ f x) : 0 ≤ sumf f l := by
  rw [← sumf_zero l]; exact sumf_le h
theorem sumf_lt {f g : α → Int} {l : List α} (h : ∀ x ∈ l, f x ≤ g x) {a : α} (ha : a ∈ l) (hs : f a < g a) : sumf f l < sumf g l := by
  induction l with
  | nil => simp at ha
  | cons b r ih =>
    have h2 : ∀ x ∈ r, f x ≤ g x := fun x hx => h x (List.mem_cons_of_mem _ hx)
    rw [sumf_cons, sumf_cons]
    rcases List.mem_cons.mp ha with e | e
    · subst e
      have := sumf_le h2
      omega
    · have h1 := h b List.mem_cons_self
      have := ih h2 e
      omega
theorem sumf_comm (F : α → β → Int) (l : List α) (m : List β) : sumf (fun x => sumf (F x) m) l = sumf (fun y => sumf (fun x => F x y) l) m := by
  induction l with
  | nil =>
    rw [sumf_nil]
    exact (sumf_zero m).symm
  | cons a r ih =>
    rw [sumf_cons, ih, ← sumf_add]
    exact sumf_congr fun y _ => (sumf_cons (fun x => F x y) a r).symm
variable [DecidableEq α]
theorem sumf_erase (f : α → Int) {l : List α} {a : α} (h : a ∈ l) : sumf f l = f a + sumf f (l.erase a) := by
  induction l with
  | nil => simp at h
  | cons b r ih =>
    by_cases e : b = a
    · subst e; rw [List.erase_cons_head, sumf_cons]
    · rcases List.mem_cons.mp h with q | q
      · exact absurd q.symm e
      · rw [List.erase_cons_tail (by simpa using e), sumf_cons, sumf_cons, ih q]; omega
theorem sumf_sub {f : α → Int} : ∀ {l L : List α}, l.Nodup → (∀ x ∈ l, x ∈ L) → (∀ x ∈ L, 0 ≤ f x) → sumf f l ≤ sumf f L
  | [], L, _, _, h => by rw [sumf_nil]; exact sumf_nonneg h
  | a :: l, L, hn, hs, h => by
    have hn' := List.nodup_cons.mp hn
    have ha := hs a List.mem_cons_self
    rw [sumf_cons, sumf_erase f ha]
    have := sumf_sub (f := f) (l := l) (L := L.erase a) hn'.2 (fun x hx => (List.mem_erase_of_ne (fun e => hn'.1 (by rw [← e]; exact hx))).mpr (hs x (List.mem_cons_of_mem _ hx)))
      (fun x hx => h x (List.mem_of_mem_erase hx))
    omega
theorem sumf_eq {f : α → Int} : ∀ {l L : List α}, l.Nodup → L.Nodup → (∀ x ∈ l, x ∈ L) → (∀ x ∈ L, x ∉ l → f x = 0) → sumf f l = sumf f L
  | [], L, _, _, _, h => by
    rw [sumf_nil, ← sumf_zero L]
    exact sumf_congr fun x hx => (h x hx (by simp)).symm
  | a :: l, L, hn, hN, hs, h => by
    have hn' := List.nodup_cons.mp hn
    have ha := hs a List.mem_cons_self
    rw [sumf_cons, sumf_erase f ha]
    have := sumf_eq (f := f) (l := l) (L := L.erase a) hn'.2 (hN.erase a) (fun x hx => (List.mem_erase_of_ne (fun e => hn'.1 (by rw [← e]; exact hx))).mpr (hs x (List.mem_cons_of_mem _ hx)))
      (fun x hx hq => h x (List.mem_of_mem_erase hx) (fun q => by
        rcases List.mem_cons.mp q with e | e
        · subst e
          exact absurd hx (List.Nodup.not_mem_erase hN)
        · exact hq e))
    omega
end sums

/-! ### matchings and their certificates -/
section matching
variable {α β : Type} [DecidableEq α] [DecidableEq β]
def wt (w : α → β → Option Int) (r : α) (c : β) : Int := (w r c).getD 0
structure IsM (w : α → β → Option Int) (N : List (α × β)) : Prop where
  nr : (N.map Prod.fst).Nodup
  nc : (N.map Prod.snd).Nodup
  en : ∀ r c, (r, c) ∈ N → ∃ x, w r c = some x
def val (w : α → β → Option Int) (N : List (α × β)) : Int := sumf (fun x => wt w x.1 x.2) N
structure Dual (w : α → β → Option Int) (u : α → Int) (p : β → Int) : Prop where
  un : ∀ r, 0 ≤ u r
  pn : ∀ c, 0 ≤ p c
  ge : ∀ r c x, w r c = some x → x ≤ u r + p c
def Supp (w : α → β → Option Int) (R : List α) (C : List β) : Prop := ∀ r c x, w r c = some x → r ∈ R ∧ c ∈ C
structure Tight (w : α → β → Option Int) (R : List α) (C : List β) (N : List (α × β)) (u : α → Int) (p : β → Int) : Prop where
  eq : ∀ r c, (r, c) ∈ N → u r + p c = wt w r c
  ur : ∀ r ∈ R, r ∉ N.map Prod.fst → u r = 0
  pc : ∀ c ∈ C, c ∉ N.map Prod.snd → p c = 0
def Cert (w : α → β → Option Int) (R : List α) (C : List β) (N : List (α × β)) : Prop := IsM w N ∧ ∃ u p, Dual w u p ∧ Tight w R C N u p
theorem wt_of {w : α → β → Option Int} {r : α} {c : β} {x : Int} (h : w r c = some x) : wt w r c = x := by simp [wt, h]
theorem IsM.rows {w : α → β → Option Int} {N : List (α × β)} {R : List α} {C : List β} (m : IsM w N) (s : Supp w R C) : ∀ r ∈ N.map Prod.fst, r ∈ R := fun r h => by
  obtain ⟨⟨a, b⟩, h1, h2⟩ := List.mem_map.mp h
  obtain ⟨x, hx⟩ := m.en a b h1
  have := (s a b x hx).1
  simp only at h2
  exact h2 ▸ this
theorem IsM.cols {w : α → β → Option Int} {N : List (α × β)} {R : List α} {C : List β} (m : IsM w N) (s : Supp w R C) : ∀ c ∈ N.map Prod.snd, c ∈ C := fun r h => by
  obtain ⟨⟨a, b⟩, h1, h2⟩ := List.mem_map.mp h
  obtain ⟨x, hx⟩ := m.en a b h1
  have := (s a b x hx).2
  simp only at h2
  exact h2 ▸ this
theorem sum_split (u : α → Int) (p : β → Int) (N : List (α × β)) : sumf (fun x => u x.1 + p x.2) N = sumf u (N.map Prod.fst) + sumf p (N.map Prod.snd) := by
  rw [sumf_add, sumf_map, sumf_map]
theorem Dual.weak {w : α → β → Option Int} {R : List α} {C : List β} {N : List (α × β)} {u : α → Int} {p : β → Int} (d : Dual w u p) (m : IsM w N) (s : Supp w R C) : val w N ≤ sumf u R + sumf p C := by
  have h1 : val w N ≤ sumf (fun x => u x.1 + p x.2) N := sumf_le fun x hx => by
    obtain ⟨z, hz⟩ := m.en x.1 x.2 hx
    rw [wt_of hz]
    exact d.ge _ _ _ hz
  rw [sum_split] at h1
  have h2 := sumf_sub (f := u) m.nr (m.rows s) (fun x _ => d.un x)
  have h3 := sumf_sub (f := p) m.nc (m.cols s) (fun x _ => d.pn x)
  omega
theorem Tight.total {w : α → β → Option Int} {R : List α} {C : List β} {N : List (α × β)} {u : α → Int} {p : β → Int} (t : Tight w R C N u p) (m : IsM w N) (s : Supp w R C) (hR : R.Nodup) (hC : C.Nodup) : val w N = sumf u R + sumf p C := by
  have h1 : val w N = sumf (fun x => u x.1 + p x.2) N := sumf_congr fun x hx => (t.eq x.1 x.2 hx).symm
  rw [h1, sum_split, sumf_eq m.nr hR (m.rows s) t.ur, sumf_eq m.nc hC (m.cols s) t.pc]
theorem sumf_all {γ : Type} {f g : γ → Int} {l : List γ} (h : ∀ x ∈ l, f x ≤ g x) (e : sumf f l = sumf g l) : ∀ x ∈ l, f x = g x := fun x hx => by
  have h1 := h x hx
  by_cases q : f x < g x
  · have := sumf_lt h hx q
    omega
  · omega
theorem sumf_rest {γ : Type} [DecidableEq γ] {f : γ → Int} : ∀ {l L : List γ}, l.Nodup → (∀ x ∈ l, x ∈ L) → (∀ x ∈ L, 0 ≤ f x) → sumf f l = sumf f L → ∀ x ∈ L, x ∉ l → f x = 0
  | l, L, hn, hs, h0, e, x, hx, hq => by
    have h1 := sumf_sub (f := f) (l := x :: l) (L := L) (List.nodup_cons.mpr ⟨hq, hn⟩) (fun y hy => by
      rcases List.mem_cons.mp hy with q | q
      · exact q ▸ hx
      · exact hs y q) h0
    rw [sumf_cons] at h1
    have := h0 x hx
    omega
theorem tight_of_total {w : α → β → Option Int} {R : List α} {C : List β} {N : List (α × β)} {u : α → Int} {p : β → Int} (d : Dual w u p) (m : IsM w N) (s : Supp w R C) (e : val w N = sumf u R + sumf p C) : Tight w R C N u p := by
  have h1 : ∀ x ∈ N, wt w x.1 x.2 ≤ u x.1 + p x.2 := fun x hx => by
    obtain ⟨z, hz⟩ := m.en x.1 x.2 hx
    rw [wt_of hz]
    exact d.ge _ _ _ hz
  have h0 : val w N ≤ sumf (fun x => u x.1 + p x.2) N := sumf_le h1
  rw [sum_split] at h0
  have h2 := sumf_sub (f := u) m.nr (m.rows s) (fun x _ => d.un x)
  have h3 := sumf_sub (f := p) m.nc (m.cols s) (fun x _ => d.pn x)
  have e1 : val w N = sumf (fun x => u x.1 + p x.2) N := by rw [sum_split]; omega
  refine ⟨fun r c h => (sumf_all h1 e1 (r, c) h).symm, ?_, ?_⟩
  · exact sumf_rest m.nr (m.rows s) (fun x _ => d.un x) (by omega)
  · exact sumf_rest m.nc (m.cols s) (fun x _ => d.pn x) (by omega)
/-- the greatest value -/
def IsMax (w : α → β → Option Int) (v : Int) : Prop := (∃ N, IsM w N ∧ val w N = v) ∧ ∀ N, IsM w N → val w N ≤ v
theorem IsMax.uniq {w : α → β → Option Int} {v v' : Int} (h : IsMax w v) (h' : IsMax w v') : v = v' := by
  obtain ⟨⟨N, m, e⟩, h⟩ := h
  obtain ⟨⟨N', m', e'⟩, h'⟩ := h'
  have := h N' m'
  have := h' N m
  omega
theorem Cert.max {w : α → β → Option Int} {R : List α} {C : List β} {N : List (α × β)} (c : Cert w R C N) (s : Supp w R C) (hR : R.Nodup) (hC : C.Nodup) : IsMax w (val w N) := by
  obtain ⟨m, u, p, d, t⟩ := c
  refine ⟨⟨N, m, rfl⟩, fun N' m' => ?_⟩
  rw [t.total m s hR hC]
  exact d.weak m' s

/-! ### gains of the rows: one relaxation, the end of the relaxations -/
def back (w : α → β → Option Int) (O : β → Option α) (g : α → Int) (c : β) : Int := match O c with
  | none => 0
  | some o => g o - wt w o c
/-- the chain of moves from r has n steps -/
def Ch (mv : α → Option β) (O : β → Option α) : Nat → α → Prop
  | 0, r => mv r = none
  | n + 1, r => ∃ c, mv r = some c ∧ ((O c = none ∧ n = 0) ∨ ∃ o, O c = some o ∧ Ch mv O n o)
theorem Ch.uniq {mv : α → Option β} {O : β → Option α} : ∀ {n m : Nat} {r : α}, Ch mv O n r → Ch mv O m r → n = m
  | 0, 0, _, _, _ => rfl
  | 0, m + 1, r, h, ⟨c, h1, _⟩ => by
    have h : mv r = none := h
    rw [h] at h1; cases h1
  | n + 1, 0, r, ⟨c, h1, _⟩, h => by
    have h : mv r = none := h
    rw [h] at h1; cases h1
  | n + 1, m + 1, r, ⟨c, h1, h2⟩, ⟨c', h1', h2'⟩ => by
    rw [h1] at h1'; cases h1'
    rcases h2 with ⟨a, e⟩ | ⟨o, a, b⟩
    · rcases h2' with ⟨a', e'⟩ | ⟨o', a', b'⟩
      · omega
      · rw [a] at a'; cases a'
    · rcases h2' with ⟨a', e'⟩ | ⟨o', a', b'⟩
      · rw [a] at a'; cases a'
      · rw [a] at a'; cases a'
        have := Ch.uniq b b'
        omega
/-- what best_moves starts from: N is best for all rows but f -/
structure Pre (w : α → β → Option Int) (R : List α) (C : List β) (N : List (α × β)) (O : β → Option α) (f : α) (u : α → Int) (p : β → Int) : Prop where
  dual : Dual w u p
  im : IsM w N
  own : ∀ r c, O c = some r ↔ (r, c) ∈ N
  tight : ∀ r c, (r, c) ∈ N → u r + p c = wt w r c
  fresh : f ∉ N.map Prod.fst
  zr : ∀ r ∈ R, r ∉ N.map Prod.fst → r ≠ f → u r = 0
  zc : ∀ c ∈ C, c ∉ N.map Prod.snd → p c = 0
structure BF (w : α → β → Option Int) (O : β → Option α) (u : α → Int) (g : α → Int) (mv : α → Option β) : Prop where
  g0 : ∀ r, 0 ≤ g r
  gm : ∀ r, mv r = none → g r = 0
  mvr : ∀ r c, mv r = some c → ∃ x, w r c = some x ∧ g r ≤ x + back w O g c
  gu : ∀ r, g r ≤ u r
  ends : ∀ r, ∃ n, Ch mv O n r
section
variable {w : α → β → Option Int} {R : List α} {C : List β} {N : List (α × β)} {O : β → Option α} {f : α} {u : α → Int} {p : β → Int} {g : α → Int} {mv : α → Option β}
theorem BF.start (P : Pre w R C N O f u p) : BF w O u (fun _ => 0) (fun _ => none) :=
  ⟨fun _ => Int.le_refl _, fun _ _ => rfl, fun _ _ h => (nomatch h), fun r => P.dual.un r, fun r => ⟨0, rfl⟩⟩
theorem notFst_own (P : Pre w R C N O f u p) {c : β} (h : O c = none) : c ∉ N.map Prod.snd := fun q => by
  obtain ⟨⟨a, b⟩, h1, h2⟩ := List.mem_map.mp q
  simp only at h2
  subst h2
  rw [(P.own a b).mpr h1] at h
  cases h
/-- the gain by an entry is at most what the duals say; c is a column of w -/
theorem back_le (P : Pre w R C N O f u p) (S : Supp w R C) (gu : ∀ r, g r ≤ u r) {r : α} {c : β} {x : Int} (h : w r c = some x) : x + back w O g c ≤ u r + (match O c with | none => 0 | some o => g o - u o) := by
  have h1 := P.dual.ge r c x h
  unfold back
  cases e : O c with
  | none =>
    have := P.zc c (S r c x h).2 (notFst_own P e)
    simp only
    omega
  | some o =>
    have h2 := P.tight o c ((P.own o c).mp e)
    simp only
    omega
/-- along a move the slack u - g doesn't grow -/
theorem slack_le (P : Pre w R C N O f u p) (S : Supp w R C) (B : BF w O u g mv) {r o : α} {c : β} (h : mv r = some c) (ho : O c = some o) : u o - g o ≤ u r - g r := by
  obtain ⟨x, hx, hg⟩ := B.mvr r c h
  have := back_le P S B.gu hx
  rw [ho] at this
  simp only at this
  omega
theorem chain_keeps {r : α} {c : β} (P : Pre w R C N O f u p) (S : Supp w R C) (B : BF w O u g mv) : ∀ {n : Nat} {a : α}, Ch mv O n a → (u a - g a < u r - g r) → Ch (fun z => if z = r then some c else mv z) O n a
  | 0, a, h, hs => by
    have h : mv a = none := h
    have hne : a ≠ r := fun e => by subst e; omega
    show (if a = r then some c else mv a) = none
    rw [if_neg hne]; exact h
  | n + 1, a, ⟨d, h1, h2⟩, hs => by
    have hne : a ≠ r := fun e => by subst e; omega
    refine ⟨d, by show (if a = r then some c else mv a) = some d; rw [if_neg hne]; exact h1, ?_⟩
    rcases h2 with h2 | ⟨o, h2, h3⟩
    · exact .inl h2
    · have := slack_le P S B h1 h2
      exact .inr ⟨o, h2, chain_keeps P S B h3 (by omega)⟩
theorem chain_all {mv' : α → Option β} {r : α} (hr : ∃ n, Ch mv' O n r) (same : ∀ a, a ≠ r → mv' a = mv a) : ∀ {n : Nat} {a : α}, Ch mv O n a → ∃ m, Ch mv' O m a
  | 0, a, h => by
    by_cases e : a = r
    · subst e; exact hr
    · exact ⟨0, (same a e).trans h⟩
  | n + 1, a, ⟨d, h1, h2⟩ => by
    by_cases e : a = r
    · subst e; exact hr
    · rcases h2 with ⟨h2, h3⟩ | ⟨o, h2, h3⟩
      · exact ⟨1, d, (same a e).trans h1, .inl ⟨h2, rfl⟩⟩
      · obtain ⟨m, hm⟩ := chain_all hr same h3
        exact ⟨m + 1, d, (same a e).trans h1, .inr ⟨o, h2, hm⟩⟩
/-- one relaxation -/
theorem BF.relax (P : Pre w R C N O f u p) (S : Supp w R C) (B : BF w O u g mv) {r : α} {c : β} {x : Int} (h : w r c = some x) (hlt : g r < x + back w O g c) :
    BF w O u (fun z => if z = r then x + back w O g c else g z) (fun z => if z = r then some c else mv z) := by
  have hb := back_le P S B.gu h
  have hno : O c ≠ some r := fun e => by
    unfold back at hlt
    rw [e] at hlt
    simp only [wt_of h] at hlt
    omega
  have hup : ∀ z, g z ≤ (if z = r then x + back w O g c else g z) := fun z => by
    by_cases e : z = r
    · subst e; rw [if_pos rfl]; omega
    · rw [if_neg e]; exact Int.le_refl _
  have hback : ∀ d, back w O g d ≤ back w O (fun z => if z = r then x + back w O g c else g z) d := fun d => by
    unfold back
    cases O d with
    | none => exact Int.le_refl _
    | some o =>
      have := hup o
      simp only [back] at this ⊢
      omega
  have hbc : back w O (fun z => if z = r then x + back w O g c else g z) c = back w O g c := by
    unfold back
    cases e : O c with
    | none => rfl
    | some o =>
      have : o ≠ r := fun q => hno (by rw [e, q])
      simp only [if_neg this]
  have hle : x + back w O g c ≤ u r := by
    refine Int.le_trans hb ?_
    cases e : O c with
    | none => simp only; omega
    | some o =>
      have := B.gu o
      simp only
      omega
  refine ⟨fun z => Int.le_trans (B.g0 z) (hup z), fun z e => ?_, fun z d e => ?_, fun z => ?_, fun z => ?_⟩
  · by_cases q : z = r
    · rw [if_pos q] at e; cases e
    · rw [if_neg q] at e ⊢; exact B.gm z e
  · by_cases q : z = r
    · subst q
      rw [if_pos rfl] at e ⊢
      cases e
      exact ⟨x, h, by rw [hbc]; exact Int.le_refl _⟩
    · rw [if_neg q] at e ⊢
      obtain ⟨y, hy, hz⟩ := B.mvr z d e
      have := hback d
      exact ⟨y, hy, by omega⟩
  · by_cases q : z = r
    · subst q; rw [if_pos rfl]; exact hle
    · rw [if_neg q]; exact B.gu z
  · have hr : ∃ n, Ch (fun z => if z = r then some c else mv z) O n r := by
      cases e : O c with
      | none => exact ⟨1, c, if_pos rfl, .inl ⟨e, rfl⟩⟩
      | some o =>
        obtain ⟨m, hm⟩ := B.ends o
        rw [e] at hb
        simp only at hb
        exact ⟨m + 1, c, if_pos rfl, .inr ⟨o, e, chain_keeps P S B hm (by omega)⟩⟩
    obtain ⟨m, hm⟩ := B.ends z
    exact chain_all hr (fun a e => if_neg e) hm
/-- no entry gains any more -/
def Fix (w : α → β → Option Int) (O : β → Option α) (g : α → Int) : Prop := ∀ r c x, w r c = some x → x + back w O g c ≤ g r
/-- the new prices of the columns -/
def newp (w : α → β → Option Int) (O : β → Option α) (g : α → Int) (c : β) : Int := match O c with
  | none => 0
  | some o => wt w o c - g o
theorem newp_back (w : α → β → Option Int) (O : β → Option α) (g : α → Int) (c : β) : newp w O g c = - back w O g c := by
  unfold newp back
  cases O c with
  | none => rfl
  | some o => simp only; omega
theorem fix_dual (P : Pre w R C N O f u p) (B : BF w O u g mv) (F : Fix w O g) : Dual w g (newp w O g) := by
  refine ⟨B.g0, fun c => ?_, fun r c x h => ?_⟩
  · unfold newp
    cases e : O c with
    | none => exact Int.le_refl _
    | some o =>
      have h1 := P.tight o c ((P.own o c).mp e)
      have h2 := B.gu o
      have h3 := P.dual.pn c
      simp only
      omega
  · have := F r c x h
    rw [newp_back]
    omega
theorem fix_move (B : BF w O u g mv) (F : Fix w O g) {r : α} {c : β} (h : mv r = some c) : g r + newp w O g c = wt w r c ∧ ∃ x, w r c = some x := by
  obtain ⟨x, hx, hg⟩ := B.mvr r c h
  have := F r c x hx
  rw [newp_back, wt_of hx]
  exact ⟨by omega, x, hx⟩
end
/-! ### the rows on the chain are put in their new places -/
def minus (N : List (α × β)) : Option α → List (α × β)
  | none => N
  | some r => del N r
theorem minus_keys {N : List (α × β)} (h : (keys N).Nodup) (cur : Option α) : (keys (minus N cur)).Nodup := by
  cases cur with
  | none => exact h
  | some r => exact nodup_del h
theorem mem_minus {N : List (α × β)} {cur : Option α} {a : α} {d : β} : (a, d) ∈ minus N cur ↔ (a, d) ∈ N ∧ cur ≠ some a := by
  cases cur with
  | none => simp [minus]
  | some r =>
    show (a, d) ∈ del N r ↔ _
    rw [del_mem]
    simp only [ne_eq, Option.some.injEq]
    exact ⟨fun h => ⟨h.1, fun e => h.2 e.symm⟩, fun h => ⟨h.1, fun e => h.2 e.symm⟩⟩
theorem snd_nodup : ∀ {L : List (α × β)}, (keys L).Nodup → (∀ a a' d, (a, d) ∈ L → (a', d) ∈ L → a = a') → (L.map Prod.snd).Nodup
  | [], _, _ => List.nodup_nil
  | x :: r, h, hi => by
    have h' := List.nodup_cons.mp (show (x.1 :: keys r).Nodup from h)
    refine List.nodup_cons.mpr ⟨fun q => ?_, snd_nodup h'.2 fun a a' d h1 h2 => hi a a' d (List.mem_cons_of_mem _ h1) (List.mem_cons_of_mem _ h2)⟩
    obtain ⟨⟨a, b⟩, h1, h2⟩ := List.mem_map.mp q
    simp only at h2
    have e := hi x.1 a x.2 List.mem_cons_self (List.mem_cons_of_mem _ (by rw [← h2]; exact h1))
    exact h'.1 (List.mem_map.mpr ⟨_, h1, e.symm⟩)
structure AInv (w : α → β → Option Int) (R : List α) (C : List β) (O : β → Option α) (g : α → Int) (mv : α → Option β) (n : Nat) (cur : Option α) (N' : List (α × β)) (O' : β → Option α) : Prop where
  nk : (keys N').Nodup
  im : IsM w (minus N' cur)
  own : ∀ r c, O' c = some r ↔ (r, c) ∈ minus N' cur
  tight : ∀ r c, (r, c) ∈ minus N' cur → g r + newp w O g c = wt w r c
  zr : ∀ r ∈ R, r ∉ (minus N' cur).map Prod.fst → cur ≠ some r → g r = 0
  zc : ∀ c ∈ C, c ∉ (minus N' cur).map Prod.snd → newp w O g c = 0
  ch : ∀ r, cur = some r → Ch mv O n r
  df : ∀ r, cur = some r → ∀ c, O' c ≠ O c → ∃ o m, O c = some o ∧ Ch mv O m o ∧ n ≤ m
section
variable {w : α → β → Option Int} {R : List α} {C : List β} {N N' : List (α × β)} {O O' : β → Option α} {f : α} {u : α → Int} {p : β → Int} {g : α → Int} {mv : α → Option β}
theorem mem_fst {L : List (α × β)} {a : α} {d : β} (h : (a, d) ∈ L) : a ∈ L.map Prod.fst := List.mem_map.mpr ⟨_, h, rfl⟩
theorem mem_snd {L : List (α × β)} {a : α} {d : β} (h : (a, d) ∈ L) : d ∈ L.map Prod.snd := List.mem_map.mpr ⟨_, h, rfl⟩
theorem of_fst {L : List (α × β)} {a : α} (h : a ∈ L.map Prod.fst) : ∃ d, (a, d) ∈ L := by
  obtain ⟨⟨x, y⟩, h1, h2⟩ := List.mem_map.mp h
  simp only at h2
  exact ⟨y, h2 ▸ h1⟩
theorem of_snd {L : List (α × β)} {d : β} (h : d ∈ L.map Prod.snd) : ∃ a, (a, d) ∈ L := by
  obtain ⟨⟨x, y⟩, h1, h2⟩ := List.mem_map.mp h
  simp only at h2
  exact ⟨x, h2 ▸ h1⟩
theorem AInv.start (P : Pre w R C N O f u p) (B : BF w O u g mv) {n : Nat} (hn : Ch mv O n f) : AInv w R C O g mv n (some f) N O := by
  have e : minus N (some f) = N := del_none P.fresh
  refine ⟨P.im.nr, by rw [e]; exact P.im, fun r c => by rw [e]; exact P.own r c, fun r c h => ?_, fun r hr h1 h2 => ?_, fun c hc h => ?_, fun r q => by cases q; exact hn, fun r _ c q => absurd rfl q⟩
  · rw [e] at h
    have h1 := (P.own r c).mpr h
    unfold newp
    rw [h1]
    simp only
    omega
  · rw [e] at h1
    have h3 := P.zr r hr h1 (fun q => h2 (by rw [q]))
    have h4 := B.gu r
    have h5 := B.g0 r
    omega
  · rw [e] at h
    unfold newp
    cases q : O c with
    | none => rfl
    | some o => exact absurd (mem_snd ((P.own o c).mp q)) h
theorem AInv.step (B : BF w O u g mv) (F : Fix w O g) {n : Nat} {r : α} {c : β} (A : AInv w R C O g mv n (some r) N' O') (h : mv r = some c) :
    O' c = O c ∧ ∃ k, n = k + 1 ∧ AInv w R C O g mv k (O' c) (put N' r c) (fun d => if d = c then some r else O' d) := by
  have hch := A.ch r rfl
  obtain ⟨k, rfl⟩ : ∃ k, n = k + 1 := by
    cases n with
    | zero =>
      have q : mv r = none := hch
      rw [h] at q; cases q
    | succ k => exact ⟨k, rfl⟩
  obtain ⟨c', h1, h2⟩ := hch
  rw [h] at h1; cases h1
  have same : O' c = O c := by
    cases Classical.em (O' c = O c) with
    | inl q => exact q
    | inr q =>
      obtain ⟨o, m, e1, e2, e3⟩ := A.df r rfl c q
      rcases h2 with ⟨a, _⟩ | ⟨o', a, b⟩
      · rw [a] at e1; cases e1
      · rw [a] at e1; cases e1
        have := Ch.uniq b e2
        omega
  have K := A.nk
  have K1 : (keys (put N' r c)).Nodup := nodup_put K
  have K0 : (keys (minus N' (some r))).Nodup := minus_keys K _
  have mem1 : ∀ a d, (a, d) ∈ put N' r c ↔ (a = r ∧ d = c) ∨ (a ≠ r ∧ (a, d) ∈ N') := fun a d => by
    have e := look_put N' r a c
    constructor
    · intro q
      rw [look_of_mem K1 q] at e
      by_cases ha : a = r
      · rw [if_pos ha] at e; exact .inl ⟨ha, Option.some.inj e⟩
      · rw [if_neg ha] at e; exact .inr ⟨ha, mem_of_look e.symm⟩
    · rintro (⟨ha, hd⟩ | ⟨ha, hd⟩)
      · subst ha hd
        rw [if_pos rfl] at e; exact mem_of_look e
      · rw [if_neg ha, look_of_mem K hd] at e; exact mem_of_look e
  have curne : O' c ≠ some r := fun q => by
    have := (A.own r c).mp q
    rw [mem_minus] at this
    exact this.2 rfl
  -- the pairs behind the step
  have mem2 : ∀ a d, (a, d) ∈ minus (put N' r c) (O' c) ↔ (a = r ∧ d = c) ∨ ((a, d) ∈ minus N' (some r) ∧ d ≠ c) := fun a d => by
    rw [mem_minus, mem1, mem_minus]
    constructor
    · rintro ⟨q | ⟨q1, q2⟩, q3⟩
      · exact .inl q
      · refine .inr ⟨⟨q2, fun e => q1 (Option.some.inj e).symm⟩, fun e => ?_⟩
        subst e
        exact q3 ((A.own a d).mpr (mem_minus.mpr ⟨q2, fun e => q1 (Option.some.inj e).symm⟩))
    · rintro (⟨q1, q2⟩ | ⟨⟨q1, q2⟩, q3⟩)
      · exact ⟨.inl ⟨q1, q2⟩, by rw [q1]; exact curne⟩
      · have ha : a ≠ r := fun e => q2 (by rw [e])
        refine ⟨.inr ⟨ha, q1⟩, fun e => q3 ?_⟩
        have e1 := look_of_mem K0 ((A.own a c).mp e)
        have e2 := look_of_mem K0 (mem_minus.mpr ⟨q1, q2⟩)
        rw [e1] at e2
        exact (Option.some.inj e2).symm
  have inj0 : ∀ a a' d, (a, d) ∈ minus N' (some r) → (a', d) ∈ minus N' (some r) → a = a' := fun a a' d q q' => by
    have e1 := (A.own a d).mpr q
    rw [(A.own a' d).mpr q'] at e1
    exact (Option.some.inj e1).symm
  refine ⟨same, k, rfl, K1, ⟨minus_keys K1 _, snd_nodup (minus_keys K1 _) fun a a' d q q' => ?_, fun a d q => ?_⟩, fun a d => ?_, fun a d q => ?_, fun a ha q1 q2 => ?_, fun d hd q => ?_, fun a q => ?_, fun a q d qd => ?_⟩
  · rw [mem2] at q q'
    rcases q with ⟨q1, q2⟩ | ⟨q1, q2⟩
    · rcases q' with ⟨q1', q2'⟩ | ⟨q1', q2'⟩
      · rw [q1, q1']
      · exact absurd q2 q2'
    · rcases q' with ⟨q1', q2'⟩ | ⟨q1', q2'⟩
      · exact absurd q2' q2
      · exact inj0 a a' d q1 q1'
  · rw [mem2] at q
    rcases q with ⟨q1, q2⟩ | ⟨q1, q2⟩
    · rw [q1, q2]; exact (fix_move B F h).2
    · exact A.im.en a d q1
  · rw [mem2]
    by_cases hd : d = c
    · simp only [hd, if_true, Option.some.injEq, ne_eq, not_true_eq_false, and_false, or_false, and_true]
      exact ⟨fun e => e.symm, fun e => e.symm⟩
    · simp only [hd, if_false, and_false, false_or, ne_eq, not_false_eq_true, and_true]
      exact A.own a d
  · rw [mem2] at q
    rcases q with ⟨q1, q2⟩ | ⟨q1, q2⟩
    · rw [q1, q2]; exact (fix_move B F h).1
    · exact A.tight a d q1
  · have ha' : a ≠ r := fun e => q1 (mem_fst ((mem2 a c).mpr (.inl ⟨e, rfl⟩)))
    refine A.zr a ha (fun q => ?_) (fun e => ha' (Option.some.inj e).symm)
    obtain ⟨d, hd⟩ := of_fst q
    by_cases e : d = c
    · subst e
      exact q2 ((A.own a d).mpr hd)
    · exact q1 (mem_fst ((mem2 a d).mpr (.inr ⟨hd, e⟩)))
  · have hdc : d ≠ c := fun e => q (mem_snd ((mem2 r d).mpr (.inl ⟨rfl, e⟩)))
    refine A.zc d hd fun q' => ?_
    obtain ⟨a, ha⟩ := of_snd q'
    exact q (mem_snd ((mem2 a d).mpr (.inr ⟨ha, hdc⟩)))
  · rw [same] at q
    rcases h2 with ⟨a1, _⟩ | ⟨o, a1, b1⟩
    · rw [a1] at q; cases q
    · rw [a1] at q; cases q; exact b1
  · rw [same] at q
    rcases h2 with ⟨a1, _⟩ | ⟨o, a1, b1⟩
    · rw [a1] at q; cases q
    · by_cases hd : d = c
      · subst hd
        exact ⟨o, k, a1, b1, Nat.le_refl _⟩
      · simp only [hd, if_false] at qd
        obtain ⟨o2, m, e1, e2, e3⟩ := A.df r rfl d qd
        exact ⟨o2, m, e1, e2, by omega⟩
/-- at the chain's end -/
theorem AInv.done (P : Pre w R C N O f u p) (B : BF w O u g mv) (F : Fix w O g) {n : Nat} {cur : Option α} (A : AInv w R C O g mv n cur N' O') (h : ∀ r, cur = some r → mv r = none) :
    Cert w R C (minus N' cur) ∧ ∀ r c, O' c = some r ↔ (r, c) ∈ minus N' cur := by
  refine ⟨⟨A.im, g, newp w O g, fix_dual P B F, A.tight, fun r hr q => ?_, A.zc⟩, A.own⟩
  by_cases e : cur = some r
  · exact B.gm r (h r e)
  · exact A.zr r hr q e
end
/-! ### certificates are there -/
/-- the entries of all rows but f -/
def less (w : α → β → Option Int) (f : α) : α → β → Option Int := fun r c => if r = f then none else w r c
theorem less_some {w : α → β → Option Int} {f r : α} {c : β} {x : Int} (h : less w f r c = some x) : r ≠ f ∧ w r c = some x := by
  unfold less at h
  by_cases e : r = f
  · rw [if_pos e] at h; cases h
  · rw [if_neg e] at h; exact ⟨e, h⟩
theorem less_ne {w : α → β → Option Int} {f r : α} {c : β} (h : r ≠ f) : less w f r c = w r c := if_neg h
theorem less_M {w : α → β → Option Int} {f : α} {N : List (α × β)} : IsM (less w f) N ↔ IsM w N ∧ f ∉ N.map Prod.fst := by
  constructor
  · intro m
    refine ⟨⟨m.nr, m.nc, fun r c h => let ⟨x, hx⟩ := m.en r c h; ⟨x, (less_some hx).2⟩⟩, fun h => ?_⟩
    obtain ⟨d, hd⟩ := of_fst h
    obtain ⟨x, hx⟩ := m.en f d hd
    exact (less_some hx).1 rfl
  · rintro ⟨m, hf⟩
    refine ⟨m.nr, m.nc, fun r c h => ?_⟩
    have : r ≠ f := fun e => hf (e ▸ mem_fst h)
    rw [less_ne this]
    exact m.en r c h
theorem less_val {w : α → β → Option Int} {f : α} {N : List (α × β)} (h : f ∉ N.map Prod.fst) : val (less w f) N = val w N :=
  sumf_congr fun x hx => by
    have : x.1 ≠ f := fun e => h (e ▸ List.mem_map.mpr ⟨x, hx, rfl⟩)
    unfold wt
    rw [less_ne this]
/-- the bound for the new row -/
def top (w : α → β → Option Int) (f : α) (C : List β) : Int := sumf (fun c => if 0 ≤ wt w f c then wt w f c else 0) C
theorem top_nonneg {w : α → β → Option Int} {f : α} {C : List β} : 0 ≤ top w f C := sumf_nonneg fun c _ => by
  split <;> omega
theorem top_ge {w : α → β → Option Int} {f : α} {C : List β} {c : β} {x : Int} (hc : c ∈ C) (h : w f c = some x) : x ≤ top w f C := by
  have h1 := sumf_sub (f := fun c => if 0 ≤ wt w f c then wt w f c else 0) (l := [c]) (L := C) (by simp) (fun y hy => by simp at hy; rw [hy]; exact hc) (fun y _ => by
    show 0 ≤ (if 0 ≤ wt w f y then wt w f y else 0)
    split <;> omega)
  rw [sumf_cons, sumf_nil, wt_of h] at h1
  unfold top
  split at h1 <;> omega
/-- from a certificate without f -/
theorem pre_of {w : α → β → Option Int} {R : List α} {C : List β} {N : List (α × β)} {O : β → Option α} {f : α} (S : Supp w (R ++ [f]) C) (hf : f ∉ R) (c : Cert (less w f) R C N) (own : ∀ r c, O c = some r ↔ (r, c) ∈ N) : ∃ u p, Pre w (R ++ [f]) C N O f u p := by
  obtain ⟨m, u, p, d, t⟩ := c
  have m' := less_M.mp m
  refine ⟨fun r => if r = f then top w f C else u r, p, ⟨fun r => ?_, d.pn, fun r c x h => ?_⟩, m'.1, own, fun r c h => ?_, m'.2, fun r hr h1 h2 => ?_, t.pc⟩
  · by_cases e : r = f
    · rw [if_pos e]; exact top_nonneg
    · rw [if_neg e]; exact d.un r
  · by_cases e : r = f
    · subst e
      rw [if_pos rfl]
      have := top_ge (S _ _ _ h).2 h
      have := d.pn c
      omega
    · rw [if_neg e]
      exact d.ge r c x (by rw [less_ne e]; exact h)
  · have e : r ≠ f := fun q => m'.2 (q ▸ mem_fst h)
    rw [if_neg e, t.eq r c h]
    unfold wt
    rw [less_ne e]
  · rw [if_neg h2]
    rcases List.mem_append.mp hr with q | q
    · exact t.ur r q h1
    · exact absurd (List.mem_singleton.mp q) h2
theorem supp_less {w : α → β → Option Int} {R : List α} {C : List β} {f : α} (S : Supp w (R ++ [f]) C) : Supp (less w f) R C := fun r c x h => by
  obtain ⟨h1, h2⟩ := less_some h
  obtain ⟨h3, h4⟩ := S r c x h2
  rcases List.mem_append.mp h3 with q | q
  · exact ⟨q, h4⟩
  · exact absurd (List.mem_singleton.mp q) h1
/-- what is still to be gained -/
def left (R : List α) (u g : α → Int) : Nat := (sumf (fun r => u r - g r) R).toNat
theorem left_lt {w : α → β → Option Int} {O : β → Option α} {R : List α} {u g : α → Int} {mv mv' : α → Option β} {g' : α → Int} (B : BF w O u g mv) (B' : BF w O u g' mv') (hle : ∀ r, g r ≤ g' r) {r : α} (hr : r ∈ R) (hlt : g r < g' r) : left R u g' < left R u g := by
  have h1 : sumf (fun r => u r - g' r) R < sumf (fun r => u r - g r) R := sumf_lt (fun x _ => by have := hle x; omega) hr (by omega)
  have h2 : 0 ≤ sumf (fun r => u r - g' r) R := sumf_nonneg fun x _ => by have := B'.gu x; omega
  unfold left
  omega
theorem fix_there {w : α → β → Option Int} {R : List α} {C : List β} {N : List (α × β)} {O : β → Option α} {f : α} {u : α → Int} {p : β → Int} (P : Pre w R C N O f u p) (S : Supp w R C) : ∀ (n : Nat) (g : α → Int) (mv : α → Option β), BF w O u g mv → left R u g = n → ∃ g' mv', BF w O u g' mv' ∧ Fix w O g' := by
  intro n
  induction n using Nat.strongRecOn with
  | ind n ih =>
    intro g mv B e
    by_cases q : Fix w O g
    · exact ⟨g, mv, B, q⟩
    · obtain ⟨r, c, x, hx, hlt⟩ : ∃ r c x, w r c = some x ∧ g r < x + back w O g c := by
        refine Classical.byContradiction fun z => q fun r c x hx => ?_
        refine Classical.byContradiction fun y => z ⟨r, c, x, hx, by omega⟩
      have B' := B.relax P S hx hlt
      have hl := left_lt (R := R) B B' (fun z => by
        show g z ≤ if z = r then x + back w O g c else g z
        by_cases ez : z = r
        · rw [if_pos ez, ez]; omega
        · rw [if_neg ez]; exact Int.le_refl _) (S r c x hx).1 (by show g r < if r = r then x + back w O g c else g r; rw [if_pos rfl]; exact hlt)
      exact ih _ (by omega) _ _ B' rfl
theorem aug_there {w : α → β → Option Int} {R : List α} {C : List β} {N : List (α × β)} {O : β → Option α} {f : α} {u : α → Int} {p : β → Int} {g : α → Int} {mv : α → Option β} (P : Pre w R C N O f u p) (B : BF w O u g mv) (F : Fix w O g) :
    ∀ (n : Nat) (cur : Option α) (N' : List (α × β)) (O' : β → Option α), AInv w R C O g mv n cur N' O' → ∃ N', Cert w R C N'
  | n, none, N', O', A => ⟨_, (A.done P B F fun r e => nomatch e).1⟩
  | n, some r, N', O', A => by
    cases e : mv r with
    | none => exact ⟨_, (A.done P B F fun r' q => by cases q; exact e).1⟩
    | some c =>
      obtain ⟨_, k, hk, A'⟩ := A.step B F e
      exact aug_there P B F k _ _ _ A'
  termination_by n => n
def ownOf (N : List (α × β)) (c : β) : Option α := (N.find? fun x => decide (x.2 = c)).map Prod.fst
theorem ownOf_iff {N : List (α × β)} (h : (N.map Prod.snd).Nodup) (r : α) (c : β) : ownOf N c = some r ↔ (r, c) ∈ N := by
  induction N with
  | nil => simp [ownOf]
  | cons x l ih =>
    have h' := List.nodup_cons.mp (show (x.2 :: l.map Prod.snd).Nodup from h)
    by_cases e : x.2 = c
    · have e1 : ownOf (x :: l) c = some x.1 := by simp [ownOf, e]
      rw [e1]
      constructor
      · intro q
        have : (r, c) = x := by rw [← Option.some.inj q, ← e]
        rw [this]; exact List.mem_cons_self
      · intro q
        rcases List.mem_cons.mp q with q | q
        · rw [← q]
        · exact absurd (e ▸ mem_snd q) h'.1
    · have e1 : ownOf (x :: l) c = ownOf l c := by simp [ownOf, e]
      rw [e1, ih h'.2]
      constructor
      · exact List.mem_cons_of_mem _
      · intro q
        rcases List.mem_cons.mp q with q | q
        · exact absurd (by rw [← q]) e
        · exact q
theorem cert_there : ∀ (n : Nat) (R : List α), R.length = n → ∀ (C : List β) (w : α → β → Option Int), R.Nodup → Supp w R C → ∃ N, Cert w R C N := by
  intro n
  induction n with
  | zero =>
    intro R hl C w hR S
    have e : R = [] := List.length_eq_zero_iff.mp hl
    subst e
    refine ⟨[], ⟨by simp, by simp, fun r c h => by simp at h⟩, fun _ => 0, fun _ => 0, ⟨fun _ => Int.le_refl _, fun _ => Int.le_refl _, fun r c x h => ?_⟩, fun r c h => by simp at h, fun _ _ _ => rfl, fun _ _ _ => rfl⟩
    have := (S r c x h).1
    simp at this
  | succ n ih =>
    intro R hl C w hR S
    have hne : R ≠ [] := fun e => by subst e; simp at hl
    have eR : R = R.dropLast ++ [R.getLast hne] := (List.dropLast_concat_getLast hne).symm
    generalize R.dropLast = Q at eR
    generalize R.getLast hne = f at eR
    subst eR
    have hQ := List.nodup_append.mp hR
    have hf : f ∉ Q := fun q => hQ.2.2 f q f (by simp) rfl
    obtain ⟨N, hc⟩ := ih Q (by simp at hl; omega) C (less w f) hQ.1 (supp_less S)
    obtain ⟨u, p, P⟩ := pre_of (O := ownOf N) S hf hc (ownOf_iff hc.1.nc)
    obtain ⟨g, mv, B, F⟩ := fix_there P S _ _ _ (BF.start P) rfl
    obtain ⟨m, hm⟩ := B.ends f
    exact aug_there P B F m _ _ _ (AInv.start P B hm)
end matching
end KN

namespace KN
section worths
variable {α β : Type} [DecidableEq α] [DecidableEq β]
/-! ### prices of the columns -/
/-- what row r gains by column c, an entry of weight x, if it leaves its own column -/
def gainC (w : α → β → Option Int) (M : α → Option β) (q : β → Int) (r : α) (x : Int) : Int := x + match M r with
  | none => 0
  | some d => q d - wt w r d
structure CP (w : α → β → Option Int) (R : List α) (C : List β) (N : List (α × β)) (q : β → Int) : Prop where
  q0 : ∀ c, 0 ≤ q c
  le : ∀ u p, Dual w u p → Tight w R C N u p → ∀ c ∈ C, q c ≤ p c
def CFix (w : α → β → Option Int) (M : α → Option β) (q : β → Int) : Prop := ∀ r c x, w r c = some x → gainC w M q r x ≤ q c
section
variable {w : α → β → Option Int} {R : List α} {C : List β} {N : List (α × β)} {q : β → Int}
theorem CP.start : CP w R C N (fun _ => 0) := ⟨fun _ => Int.le_refl _, fun u p d _ c _ => d.pn c⟩
theorem look_mem {N : List (α × β)} (h : (N.map Prod.fst).Nodup) {r : α} {c : β} : look N r = some c ↔ (r, c) ∈ N := ⟨mem_of_look, look_of_mem h⟩
theorem gain_le (S : Supp w R C) (m : IsM w N) {u : α → Int} {p : β → Int} (d : Dual w u p) (t : Tight w R C N u p) (hq : ∀ c ∈ C, q c ≤ p c) {r : α} {c : β} {x : Int} (h : w r c = some x) : gainC w (look N) q r x ≤ p c := by
  have h1 := d.ge r c x h
  unfold gainC
  cases e : look N r with
  | none =>
    have := t.ur r (S r c x h).1 (look_none.mp e)
    simp only
    omega
  | some d' =>
    have hm := mem_of_look e
    have h2 := t.eq r d' hm
    obtain ⟨y, hy⟩ := m.en r d' hm
    have h3 := hq d' (S r d' y hy).2
    simp only
    omega
theorem CP.relax (S : Supp w R C) (m : IsM w N) (B : CP w R C N q) {r : α} {c : β} {x : Int} (h : w r c = some x) (hlt : q c < gainC w (look N) q r x) :
    CP w R C N (fun z => if z = c then gainC w (look N) q r x else q z) := by
  refine ⟨fun z => ?_, fun u p d t z hz => ?_⟩
  · have := B.q0 c
    have := B.q0 z
    show 0 ≤ if z = c then gainC w (look N) q r x else q z
    split <;> omega
  · have h1 := B.le u p d t
    show (if z = c then gainC w (look N) q r x else q z) ≤ p z
    by_cases e : z = c
    · rw [if_pos e, e]
      exact gain_le S m d t h1 h
    · rw [if_neg e]; exact h1 z hz
/-- the worth of a row by the prices -/
def worthC (w : α → β → Option Int) (M : α → Option β) (q : β → Int) (r : α) : Int := match M r with
  | none => 0
  | some c => wt w r c - q c
theorem CP.dual (S : Supp w R C) (c : Cert w R C N) (B : CP w R C N q) (F : CFix w (look N) q) : Dual w (worthC w (look N) q) q ∧ Tight w R C N (worthC w (look N) q) q := by
  obtain ⟨m, u, p, d, t⟩ := c
  have hq := B.le u p d t
  refine ⟨⟨fun r => ?_, B.q0, fun r c x h => ?_⟩, fun r c h => ?_, fun r hr h => ?_, fun c hc h => ?_⟩
  · unfold worthC
    cases e : look N r with
    | none => exact Int.le_refl _
    | some c =>
      have hm := mem_of_look e
      obtain ⟨y, hy⟩ := m.en r c hm
      have h1 := hq c (S r c y hy).2
      have h2 := t.eq r c hm
      have h3 := d.un r
      simp only
      omega
  · have h1 := F r c x h
    unfold gainC at h1
    unfold worthC
    cases e : look N r with
    | none =>
      rw [e] at h1
      simp only at h1 ⊢
      omega
    | some c' =>
      rw [e] at h1
      simp only at h1 ⊢
      omega
  · unfold worthC
    rw [look_of_mem m.nr h]
    simp only
    omega
  · unfold worthC
    rw [look_none.mpr h]
  · have h1 := hq c hc
    have h2 := t.pc c hc h
    have h3 := B.q0 c
    omega
end
/-- the table whose row n is worth k less -/
def dim (w : α → β → Option Int) (n : α) (k : Int) : α → β → Option Int := fun r c => if r = n then (w r c).map (· - k) else w r c
section
variable {w : α → β → Option Int} {R : List α} {C : List β} {N : List (α × β)} {n : α} {k : Int}
theorem dim_some {r : α} {c : β} {x : Int} (h : dim w n k r c = some x) : ∃ y, w r c = some y ∧ x = if r = n then y - k else y := by
  unfold dim at h
  by_cases e : r = n
  · rw [if_pos e] at h
    obtain ⟨y, h1, h2⟩ := Option.map_eq_some_iff.mp h
    exact ⟨y, h1, by rw [if_pos e]; exact h2.symm⟩
  · rw [if_neg e] at h
    exact ⟨x, h, by rw [if_neg e]⟩
theorem dim_M : IsM (dim w n k) N ↔ IsM w N := by
  constructor
  · intro m
    exact ⟨m.nr, m.nc, fun r c h => let ⟨x, hx⟩ := m.en r c h; let ⟨y, hy, _⟩ := dim_some hx; ⟨y, hy⟩⟩
  · intro m
    refine ⟨m.nr, m.nc, fun r c h => ?_⟩
    obtain ⟨x, hx⟩ := m.en r c h
    unfold dim
    by_cases e : r = n
    · rw [if_pos e, hx]; exact ⟨_, rfl⟩
    · rw [if_neg e]; exact ⟨x, hx⟩
theorem dim_wt {r : α} {c : β} {x : Int} (h : w r c = some x) : wt (dim w n k) r c = if r = n then x - k else x := by
  unfold wt dim
  by_cases e : r = n
  · rw [if_pos e, if_pos e, h]; rfl
  · rw [if_neg e, if_neg e, h]; rfl
theorem dim_val_no (m : IsM w N) (h : n ∉ N.map Prod.fst) : val (dim w n k) N = val w N := sumf_congr fun x hx => by
  obtain ⟨y, hy⟩ := m.en x.1 x.2 hx
  have : x.1 ≠ n := fun e => h (e ▸ List.mem_map.mpr ⟨x, hx, rfl⟩)
  rw [dim_wt hy, if_neg this, wt_of hy]
theorem dim_val : ∀ {N : List (α × β)}, IsM w N → n ∈ N.map Prod.fst → val (dim w n k) N = val w N - k
  | [], _, h => by simp at h
  | x :: l, m, h => by
    have mr := List.nodup_cons.mp (show (x.1 :: l.map Prod.fst).Nodup from m.nr)
    have mc := List.nodup_cons.mp (show (x.2 :: l.map Prod.snd).Nodup from m.nc)
    have m' : IsM w l := ⟨mr.2, mc.2, fun r c q => m.en r c (List.mem_cons_of_mem _ q)⟩
    obtain ⟨y, hy⟩ := m.en x.1 x.2 List.mem_cons_self
    show sumf _ (x :: l) = sumf _ (x :: l) - k
    rw [sumf_cons, sumf_cons, dim_wt hy, wt_of hy]
    by_cases e : x.1 = n
    · have h1 := dim_val_no (k := k) m' (fun q => mr.1 (by rw [e]; exact q))
      unfold val at h1
      rw [if_pos e, h1]; omega
    · have h2 : n ∈ l.map Prod.fst := by
        rcases List.mem_cons.mp (show n ∈ x.1 :: l.map Prod.fst from h) with q | q
        · exact absurd q.symm e
        · exact q
      have h1 := dim_val m' h2
      unfold val at h1
      rw [if_neg e, h1]; omega
end
theorem worth_is {w : α → β → Option Int} {R : List α} {C : List β} {N : List (α × β)} {q : β → Int} (S : Supp w R C) (hR : R.Nodup) (hC : C.Nodup) (c : Cert w R C N) (B : CP w R C N q) (F : CFix w (look N) q) {n : α} (hn : n ∈ R)
    {v v' : Int} (hv : IsMax w v) (hv' : IsMax (less w n) v') : worthC w (look N) q n = v - v' := by
  have m := c.1
  obtain ⟨D, T⟩ := B.dual S c F
  have ev : v = val w N := hv.uniq (c.max S hR hC)
  have etot := T.total m S hR hC
  -- not more
  have up : v' ≤ v - worthC w (look N) q n := by
    obtain ⟨⟨N', m', e'⟩, _⟩ := hv'
    have d2 : Dual (less w n) (fun r => if r = n then 0 else worthC w (look N) q r) q := by
      refine ⟨fun r => ?_, D.pn, fun r c x h => ?_⟩
      · show 0 ≤ if r = n then 0 else worthC w (look N) q r
        split
        · exact Int.le_refl _
        · exact D.un r
      · obtain ⟨h1, h2⟩ := less_some h
        show x ≤ (if r = n then 0 else worthC w (look N) q r) + q c
        rw [if_neg h1]
        exact D.ge r c x h2
    have s2 : Supp (less w n) R C := fun r c x h => S r c x (less_some h).2
    have h1 := d2.weak m' s2
    have h2 := sumf_erase (fun r => if r = n then 0 else worthC w (look N) q r) hn
    have h3 := sumf_erase (worthC w (look N) q) hn
    have h4 : sumf (fun r => if r = n then 0 else worthC w (look N) q r) (R.erase n) = sumf (worthC w (look N) q) (R.erase n) := sumf_congr fun x hx => by
      have : x ≠ n := fun e => List.Nodup.not_mem_erase hR (e ▸ hx)
      show (if x = n then 0 else worthC w (look N) q x) = worthC w (look N) q x
      rw [if_neg this]
    simp only [if_true] at h2
    omega
  -- not less
  have low : v - v' ≤ worthC w (look N) q n := by
    cases e : look N n with
    | none =>
      have hnf := look_none.mp e
      have h1 := hv'.2 N (less_M.mpr ⟨m, hnf⟩)
      rw [less_val hnf] at h1
      have h2 := D.un n
      omega
    | some c0 =>
      have h0 := mem_of_look e
      have hnf : n ∈ N.map Prod.fst := mem_fst h0
      have hk : 0 ≤ v - v' := by
        obtain ⟨⟨N', m', e'⟩, _⟩ := hv'
        obtain ⟨m1, m2⟩ := less_M.mp m'
        rw [less_val m2] at e'
        have := hv.2 N' m1
        omega
      have s2 : Supp (dim w n (v - v')) R C := fun r c x h => let ⟨y, hy, _⟩ := dim_some h; S r c y hy
      obtain ⟨N1, c1⟩ := cert_there _ R rfl C (dim w n (v - v')) hR s2
      have mx := c1.max s2 hR hC
      obtain ⟨m1, u1, p1, d1, t1⟩ := c1
      have tot1 := t1.total m1 s2 hR hC
      have mN : IsM (dim w n (v - v')) N := dim_M.mpr m
      have e2 := dim_val (k := v - v') m hnf
      have h5 : val (dim w n (v - v')) N1 ≤ val (dim w n (v - v')) N := by
        have m1' := dim_M.mp m1
        by_cases q1 : n ∈ N1.map Prod.fst
        · have := dim_val (k := v - v') m1' q1
          have := hv.2 N1 m1'
          omega
        · have := dim_val_no (k := v - v') m1' q1
          have := hv'.2 N1 (less_M.mpr ⟨m1', q1⟩)
          rw [less_val q1] at this
          omega
      have h6 := mx.2 N mN
      have t2 := tight_of_total d1 mN s2 (by omega)
      have dd : Dual w (fun r => if r = n then u1 r + (v - v') else u1 r) p1 := by
        refine ⟨fun r => ?_, d1.pn, fun r c x h => ?_⟩
        · have := d1.un r
          show 0 ≤ if r = n then u1 r + (v - v') else u1 r
          split <;> omega
        · have h1 := d1.ge r c _ (show dim w n (v - v') r c = some (if r = n then x - (v - v') else x) by
            unfold dim
            by_cases er : r = n
            · rw [if_pos er, if_pos er, h]; rfl
            · rw [if_neg er, if_neg er, h])
          show x ≤ (if r = n then u1 r + (v - v') else u1 r) + p1 c
          split <;> split at h1 <;> first | omega | (rename_i a b; exact absurd a b) | (rename_i a b; exact absurd b a)
      have tt : Tight w R C N (fun r => if r = n then u1 r + (v - v') else u1 r) p1 := by
        refine ⟨fun r c h => ?_, fun r hr h => ?_, t2.pc⟩
        · have h1 := t2.eq r c h
          obtain ⟨y, hy⟩ := m.en r c h
          rw [dim_wt hy] at h1
          rw [wt_of hy]
          show (if r = n then u1 r + (v - v') else u1 r) + p1 c = y
          split <;> split at h1 <;> first | omega | (rename_i a b; exact absurd a b) | (rename_i a b; exact absurd b a)
        · have : r ≠ n := fun er => h (er ▸ hnf)
          show (if r = n then u1 r + (v - v') else u1 r) = 0
          rw [if_neg this]
          exact t2.ur r hr h
      obtain ⟨y, hy⟩ := m.en n c0 h0
      have h7 := B.le _ _ dd tt c0 (S n c0 y hy).2
      have h8 := tt.eq n c0 h0
      have h9 := d1.un n
      unfold worthC
      rw [e]
      simp only [if_true] at h8 ⊢
      omega
  omega
/-! ### the exact table's best is one of the table's -/
theorem exact_cert {w E : α → β → Option Int} {R : List α} {C : List β} {N : List (α × β)} (S : Supp w R C) (hR : R.Nodup) (hC : C.Nodup) {A σ : Int}
    (hE : ∀ r c, (∃ x, E r c = some x) ↔ ∃ x, w r c = some x) (hw : ∀ r c x y, w r c = some x → E r c = some y → A * x ≤ y ∧ y ≤ A * x + σ) (hσ : 0 ≤ σ) (hA : (R.length : Int) * σ < A) (c : Cert E R C N) : Cert w R C N := by
  have MM : ∀ L, IsM E L ↔ IsM w L := fun L => ⟨fun m => ⟨m.nr, m.nc, fun r c h => (hE r c).mp (m.en r c h)⟩, fun m => ⟨m.nr, m.nc, fun r c h => (hE r c).mpr (m.en r c h)⟩⟩
  have SE : Supp E R C := fun r c x h => let ⟨y, hy⟩ := (hE r c).mp ⟨x, h⟩; S r c y hy
  have mulA : ∀ L : List (α × β), sumf (fun x => A * wt w x.1 x.2) L = A * val w L := fun L => by
    unfold val
    induction L with
    | nil => simp [sumf]
    | cons x r ih => rw [sumf_cons, sumf_cons, ih, Int.mul_add]
  have lo : ∀ L, IsM w L → A * val w L ≤ val E L := fun L m => by
    rw [← mulA]
    refine sumf_le fun x hx => ?_
    obtain ⟨y, hy⟩ := m.en x.1 x.2 hx
    obtain ⟨z, hz⟩ := (hE _ _).mpr ⟨y, hy⟩
    rw [wt_of hy, wt_of hz]
    exact (hw _ _ _ _ hy hz).1
  have constS : ∀ L : List α, sumf (fun _ => σ) L = (L.length : Int) * σ := fun L => by
    induction L with
    | nil => simp [sumf]
    | cons x r ih => rw [sumf_cons, ih, List.length_cons]; rw [Int.natCast_add, Int.add_mul]; simp; omega
  have hi : ∀ L, IsM w L → val E L ≤ A * val w L + (R.length : Int) * σ := fun L m => by
    have h1 : val E L ≤ sumf (fun x => A * wt w x.1 x.2 + σ) L := by
      refine sumf_le fun x hx => ?_
      obtain ⟨y, hy⟩ := m.en x.1 x.2 hx
      obtain ⟨z, hz⟩ := (hE _ _).mpr ⟨y, hy⟩
      rw [wt_of hy, wt_of hz]
      exact (hw _ _ _ _ hy hz).2
    rw [sumf_add, mulA] at h1
    have h2 : sumf (fun _ => σ) L = sumf (fun _ => σ) (L.map Prod.fst) := (sumf_map (fun _ => σ) Prod.fst L).symm
    have h3 := sumf_sub (f := fun _ => σ) m.nr (m.rows S) (fun _ _ => hσ)
    rw [constS R, ← h2] at h3
    omega
  obtain ⟨N0, c0⟩ := cert_there _ R rfl C w hR S
  obtain ⟨m0, u, p, d, t⟩ := c0
  have tot := t.total m0 S hR hC
  have mN := (MM N).mp c.1
  have h1 := (c.max SE hR hC).2 N0 ((MM N0).mpr m0)
  have h2 := lo N0 m0
  have h3 := hi N mN
  have h4 := d.weak mN S
  have h5 : A * val w N0 < A * (val w N + 1) := by rw [Int.mul_add]; omega
  have hApos : 0 < A := by
    have := Int.mul_nonneg (Int.natCast_nonneg R.length) hσ
    omega
  have h6 : val w N0 < val w N + 1 := Int.lt_of_mul_lt_mul_left h5 (by omega)
  exact ⟨mN, u, p, d, tight_of_total d mN S (by omega)⟩
/-! ### one weight changes -/
/-- the same entries; every matching's value grows, by at most d -/
def Near (w w' : α → β → Option Int) (d : Int) : Prop := (∀ N, IsM w N ↔ IsM w' N) ∧ ∀ N, IsM w N → val w N ≤ val w' N ∧ val w' N ≤ val w N + d
theorem Near.max {w w' : α → β → Option Int} {d v v' : Int} (h : Near w w' d) (hv : IsMax w v) (hv' : IsMax w' v') : v ≤ v' ∧ v' ≤ v + d := by
  obtain ⟨⟨N, m, e⟩, hv⟩ := hv
  obtain ⟨⟨N', m', e'⟩, hv'⟩ := hv'
  have h1 := h.2 N m
  have h2 := h.2 N' ((h.1 N').mpr m')
  have h3 := hv' N ((h.1 N).mp m)
  have h4 := hv N' ((h.1 N').mpr m')
  omega
theorem Near.less {w w' : α → β → Option Int} {d : Int} (h : Near w w' d) (n : α) : Near (less w n) (less w' n) d := by
  refine ⟨fun N => ?_, fun N m => ?_⟩
  · rw [less_M, less_M, h.1 N]
  · obtain ⟨m1, m2⟩ := less_M.mp m
    rw [less_val m2, less_val m2]
    exact h.2 N m1
theorem near_one {w w' : α → β → Option Int} {d : Int} (hd : 0 ≤ d) (r0 : α) (c0 : β) (hs : ∀ r c, (∃ x, w r c = some x) ↔ ∃ x, w' r c = some x) (he : ∀ r c, ¬ (r = r0 ∧ c = c0) → w' r c = w r c) (h0 : ∀ x y, w r0 c0 = some x → w' r0 c0 = some y → x ≤ y ∧ y ≤ x + d) : Near w w' d := by
  refine ⟨fun N => ⟨fun m => ⟨m.nr, m.nc, fun r c h => (hs r c).mp (m.en r c h)⟩, fun m => ⟨m.nr, m.nc, fun r c h => (hs r c).mpr (m.en r c h)⟩⟩, ?_⟩
  have no : ∀ N : List (α × β), r0 ∉ N.map Prod.fst → val w' N = val w N := fun N h => sumf_congr fun x hx => by
    have : ¬ (x.1 = r0 ∧ x.2 = c0) := fun e => h (e.1 ▸ List.mem_map.mpr ⟨x, hx, rfl⟩)
    unfold wt
    rw [he _ _ this]
  intro N
  induction N with
  | nil => intro _; simp [val, sumf]; omega
  | cons x l ih =>
    intro m
    have mr := List.nodup_cons.mp (show (x.1 :: l.map Prod.fst).Nodup from m.nr)
    have mc := List.nodup_cons.mp (show (x.2 :: l.map Prod.snd).Nodup from m.nc)
    have m' : IsM w l := ⟨mr.2, mc.2, fun r c q => m.en r c (List.mem_cons_of_mem _ q)⟩
    obtain ⟨y, hy⟩ := m.en x.1 x.2 List.mem_cons_self
    obtain ⟨z, hz⟩ := (hs _ _).mp ⟨y, hy⟩
    show sumf _ (x :: l) ≤ sumf _ (x :: l) ∧ sumf _ (x :: l) ≤ sumf _ (x :: l) + d
    rw [sumf_cons, sumf_cons, wt_of hy, wt_of hz]
    by_cases e : x.1 = r0
    · have h1 := no l (fun q => mr.1 (by rw [e]; exact q))
      unfold val at h1
      by_cases e2 : x.2 = c0
      · rw [e, e2] at hy hz
        have := h0 y z hy hz
        omega
      · rw [he _ _ (fun q => e2 q.2), hy] at hz
        cases hz
        omega
    · have h1 := ih m'
      unfold val at h1
      rw [he _ _ (fun q => e q.1), hy] at hz
      cases hz
      omega
end worths
end KN

namespace KN
open PySem L2 PySem.Spec
open PyProof.Rows hiding St
/-! ### d.items() of a dict with tuple keys -/
section
variable {X : Cx} {pins : List (Addr × Obj)} {σ : St} {H : Hp} {s : Shared} {d : Addr} {o : Obj}
theorem frz_tuples {kvs : List (List Key × V)} (I : Inv X pins σ H s) (h : H d = some (.frz o (.dT kvs))) :
    (d == sysModules) = false ∧ ∃ (es : Array DictEntry) (ep : Nat), o.data = .dict es ep ∧ s.heap.DictRaw d es ep ∧ es.size = kvs.length ∧
      ∀ (i : Nat) (hi : i < es.size) (k : List Key) (v : V), kvs[i]? = some (k, v) → ∃ q : Addr, es[i].key = .ref q ∧ H q = some (.tup (k.map kV)) ∧ RelV v es[i].val := by
  obtain ⟨gd, _, low, rows, pr, ob, es, ep, hob, hex, hdat, hlist, _⟩ := I.hok d _ h
  rw [gd] at hob
  cases hob
  have n1 : es.size = rows.length := size_of_entries hlist
  have n2 : kvs.length = rows.length := Paired.length pr
  refine ⟨low, es, ep, hdat, ⟨o, gd, hex, hdat⟩, n1.trans n2.symm, fun i hi k v hk => ?_⟩
  obtain ⟨row, hrow, a1, a2, a3⟩ := paired_get pr hk
  have at_i := entry_at hlist i
  rw [hrow, Array.getElem?_eq_getElem hi] at at_i
  have at_i := Option.some.inj at_i
  exact ⟨row.2.1, by rw [at_i]; rfl, a2, by rw [at_i]; exact a3⟩
end
/-- the pairs of the locked dict at d, its keys tuples: each a new tuple of the key's own tuple and the value -/
def Itp (d : Addr) (o : Obj) (kvs : List (List Key × V)) : It where
  go i H := H d = some (.frz o (.dT kvs)) ∧ i < kvs.length
  yld i H x H' := ∃ T k v q, kvs[i]? = some (k, v) ∧ x = .ref T ∧ H T = none ∧ H q = some (.tup (k.map kV)) ∧ H' = upd H T (.tup [.ref q, v])
  stop i H := H d = some (.frz o (.dT kvs)) ∧ kvs.length ≤ i
theorem turn_pairs {P : Program} {w : World} {K : PySem.W.Frag} {d : Addr} {o : Obj} {es : Array DictEntry} {ep : Nat} {kvs : List (List Key × V)} {elts : List Expr} {kk : Nat} {tpos : Pos} (it : Addr) (hdat : o.data = .dict es ep) :
    Turn P w K (.Tuple elts kk tpos) (Itp d o kvs) [it] it (fun i h => ∃ x y, IsItemIter h it d i kvs.length ep x y) where
  mem := List.mem_singleton.mpr rfl
  obj := by
    rintro i h ⟨x, y, hit⟩ b hb
    cases List.mem_singleton.mp hb
    exact ⟨_, hit, fun v z => nomatch z⟩
  keep := by
    rintro i h h' ⟨x, y, hit⟩ hk
    exact ⟨x, y, hk it (List.mem_singleton.mpr rfl) _ hit⟩
  item := by
    rintro Y rfl rfl rfl hc i pins s σ H E I hf ⟨x, y, hit⟩ ⟨hd, hi⟩
    obtain ⟨low, es', ep', hdat', raw, hsz, ent⟩ := frz_tuples I hd
    rw [hdat] at hdat'
    cases hdat'
    have hi' : i < es.size := by rw [hsz]; exact hi
    obtain ⟨⟨k, v⟩, hkv⟩ : ∃ p, kvs[i]? = some p := ⟨_, List.getElem?_eq_getElem hi⟩
    obtain ⟨q, e1, e2, e3⟩ := ent i hi' k v hkv
    rw [← hsz] at hit
    have old : it < s.heap.objs.size := Heap.lt_size hit
    refine wpAny_pyNext_items_item_raw hit raw hi' fun h1 out tup big keeps => ⟨_, rfl, wpAny_letOwnedTupleGo_items (s := { s with heap := h1 }) out fun h2 hit2 but => ?_⟩
    have tup2 := (but.2 _ (Nat.ne_of_gt old)).trans tup
    have hnew : ObjOk Y.prog Y.w (upd H s.heap.objs.size (.tup [.ref q, v])) h2 s.heap.objs.size (.tup [.ref q, v]) :=
      ⟨by show 2 ≤ sizeLine; decide, [es[i].key, es[i].val], .cons e1 (.cons e3 .nil), ⟨_, tup2, rfl, _, rfl⟩⟩
    have I2 := I.turnedNew (t' := s.toks) (ch := [it]) (fun b ob hb e => (but.2 b (by simpa using hb)).trans (keeps b ob (by simpa using hb) e)) hf (Nat.le_refl _) hnew
    refine ⟨.ref s.heap.objs.size, _, I2, rfl, ⟨_, k, v, q, hkv, rfl, I.hok.fresh (Nat.le_refl _), e2, rfl⟩, ⟨_, _, hsz ▸ hit2⟩, fun b hb => ?_⟩
    cases List.mem_singleton.mp hb
    rw [upd_ne (Nat.ne_of_lt old)]
    exact (hf it (List.mem_singleton.mpr rfl)).1
  done := by
    rintro Y rfl rfl rfl hc i pins s σ H E I hf ⟨x, y, hit⟩ ⟨hd, hi⟩
    obtain ⟨low, es', ep', hdat', raw, hsz, ent⟩ := frz_tuples I hd
    rw [hdat] at hdat'
    cases hdat'
    rw [← hsz] at hit
    obtain ⟨f0, f1, f2, f3, f4, f5⟩ := hf it (List.mem_singleton.mpr rfl)
    exact wpAny_pyNext_items_end_raw (I.ok.hd hc) hit raw (by omega) fun h' but => ⟨rfl, I.turned (t' := s.toks) (fun b ob hb e => but b ob hb e) f0 f1 f3 f4 f5⟩
  self := by
    rintro A i s Q E ⟨x, y, hit⟩ hq
    exact wpAny_pyIter_itemiter hit hq
def iPairs (td : TE) : TI := fun σ H R => td σ H fun x H1 => ∃ d o kvs, x = .ref d ∧ H1 d = some (.frz o (.dT kvs)) ∧ R (Itp d o kvs) H1
theorem pi_pairs {X : Cx} {e : Expr} {td : TE} {apos cpos tpos : Pos} {elts : List Expr} {kk : Nat} (he : PE X e td) (hbase : attributeBase e "items" X.env (eval e X.env) = eval e X.env := by rfl) (hline : (apos.endLine == cpos.line) = true := by rfl) :
    PI X (.Tuple elts kk tpos) (.Call (.Attribute e "items" apos) [] [] cpos) (iPairs td) := by
  refine ⟨fun pins s σ H R I h => ?_⟩
  refine wpAny_Call_method (T := "dict") (id := "dict.items") hbase rfl hline F.plainAttrs_dict F.slot_dict_items F.type_dict_items (thn (he.run pins s σ H _ I h) ?_)
  rintro u s1 ⟨x, H1, I1, rx, d, o, kvs, rfl, hd, q⟩
  obtain rfl : u = Value.ref d := rx
  obtain ⟨low, es, ep, hdat, raw, hsz, ent⟩ := frz_tuples I1 hd
  refine ⟨raw.typeIs, fun b e => ?_, ?_⟩
  · cases e
    obtain ⟨ob, g1, g2, _⟩ := raw
    exact ⟨ob, g1, g2.2.1⟩
  have I2 : Inv X pins σ H1 { s1 with heap := s1.heap.push { cls := .type "dict_items", data := .fields #[.ref d] } } := I1.kept (t' := s1.toks) fun b ob q => Heap.get?_push_of_some _ q
  have walk : wpAny (model X.prog X.w) X.A (pyIter (.ref s1.heap.objs.size)) (PIE X pins σ (.Tuple elts kk tpos) R) X.xe { s1 with heap := s1.heap.push { cls := .type "dict_items", data := .fields #[.ref d] } } := by
    refine wpAny_pyIter_items_raw (d := d) (es := es) (ep := ep) ⟨_, Heap.get?_push_size _ rfl, rfl, rfl⟩ (raw.at fun ob g => Heap.get?_push_of_some _ g) ?_
    refine pi_one (tk := s1.toks) I2 _ (turn_pairs _ hdat) ⟨.none, .none, ?_⟩ q
    rw [← hsz]
    exact Heap.get?_push_size _ rfl
  show wpAny _ _ (callWith cpos (.builtin "dict.items") [.ref d] [] []) _ X.xe s1
  exact method_meetsIn F.slot_dict_items F.entry_dict_items rfl (PySem.evalArgs_none ⟨rfl, raw.typeIs, F.args_dict_items_1 _, _, meets_dict_items_raw d low, ⟨es, ep, raw⟩, walk⟩)
/-! ### pop(k, x) of a dict whose keys are ints and texts, k one of them or None -/
theorem none_pairs {P : Program} {w : World} : ∀ {es : List DictEntry} {vs : List (Key × Value)}, Pairs (mixKind P w) es vs → Pairs (noneKind P w) es (vs.map fun p => (some p.1, p.2))
  | _, _, .nil => .nil
  | _, _, .cons h1 h2 t => .cons (kv := (some _, _)) h1 h2 (none_pairs t)
theorem none_dict {P : Program} {w : World} {h : Heap} {a : Addr} {vs : List (Key × Value)} (d : h.DictOf (mixKind P w) a vs) : h.DictOf (noneKind P w) a (vs.map fun p => (some p.1, p.2)) := by
  obtain ⟨o, es, ep, h1, h2, h3, h4, h5, h6⟩ := d
  refine ⟨o, es, ep, h1, h2, h3, fun e he => ?_, none_pairs h5, ?_⟩
  · obtain ⟨k, a1, a2⟩ := h4 e he
    exact ⟨some k, a1, a2⟩
  · have e1 : (vs.map fun p => ((some p.1 : Option Key), p.2)).map (·.1) = (vs.map (·.1)).map some := by simp [List.map_map, Function.comp_def]
    rw [e1]
    exact List.pairwise_map.mpr (h6.imp fun ne e => ne (Option.some.inj e))
theorem none_at {vs : List (Key × Value)} : valueAt (vs.map fun p => ((some p.1 : Option Key), p.2)) none = none := by
  unfold valueAt
  have : (List.map (fun p => ((some p.1 : Option Key), p.2)) vs).find? (fun kv => decide (kv.1 = none)) = none := by
    rw [List.find?_eq_none]
    intro x hx
    obtain ⟨p, _, rfl⟩ := List.mem_map.mp hx
    simp
  rw [this]
  rfl
def rPopN : V → List V → Hp → VK → Prop := fun x vs H Q => ∃ a kvs, x = .ref a ∧ H a = some (.dK kvs) ∧
  ((∃ k z, vs = [kV k, z] ∧ (∀ v, valV kvs k = some v → Q v (upd H a (.dK (dropK kvs k)))) ∧ (valV kvs k = none → Q z H)) ∨ ∃ z, vs = [.non, z] ∧ Q z H)
theorem mt_popN {X : Cx} : MtR X "dict.pop" rPopN := by
  rintro pins s σ H x xs v us Q I rx rs ⟨a, kvs, rfl, ha, hq⟩
  obtain rfl : v = Value.ref a := rx
  rcases hq with ⟨k, z, rfl, q1, q2⟩ | ⟨z, rfl, q⟩
  · obtain ⟨u1, u2, rfl, r1, r2⟩ := vals2 rs
    cases l : valV kvs k with
    | some y => exact d_pop I ha r1 l (.inr ⟨u2, rfl⟩) fun u' s' I' r' => ⟨y, _, I', r', q1 y l⟩
    | none => exact d_popD I ha r1 l fun s' I' => ⟨z, H, I', r2, q2 l⟩
  · obtain ⟨u1, u2, rfl, r1, r2⟩ := vals2 rs
    obtain rfl : u1 = Value.none := r1
    obtain ⟨_, low, vs, _, dd⟩ := dk_of I.hok ha
    have key : (noneKind X.prog X.w).is none Value.none = true := rfl
    refine call_meetsIn PySem.F.slot_dict_pop dd.typeIs PySem.F.entry_dict_pop (PySem.F.args_dict_pop_3 _ _ _) (meets_dict_pop_default (noneKind X.prog X.w) a key low rfl u2) ⟨_, none_dict dd, none_at, ?_⟩
    exact ⟨z, H, I.tok _, r2, q⟩
/-! ### sorted(d), d's keys pairs of a text and an int -/
/-- a pair (text, int) as a tuple of the heap -/
def pairK (p : Str × Int) : List Key := [.inr p.1, .inl p.2]
theorem pairK_inj {p q : Str × Int} (h : pairK p = pairK q) : p = q := by
  obtain ⟨a, b⟩ := p
  obtain ⟨c, d⟩ := q
  simp only [pairK, List.cons.injEq, Sum.inr.injEq, Sum.inl.injEq, and_true] at h
  rw [h.1, h.2]
def encP (b : Addr × Str × Int) : PyData := .tuple [.str b.2.1, .int b.2.2]
theorem alikeP (b c : Addr × Str × Int) : PySem.W.alike (encP b) (encP c) = true := by
  simp [encP, PySem.W.alike, PySem.W.alikeAll]

/-- what sorted(d) hands back: the keys' own tuples, in some order -/
def rSortedP : List V → Hp → VK → Prop := fun vs H Q => ∃ (a : Addr) (kvs : List (List Key × V)) (ks : List (Str × Int)), vs = [.ref a] ∧ Rd H a (.dT kvs) ∧ kvs.map (·.1) = ks.map pairK ∧
  ∀ (bs : List (Addr × Str × Int)) (p : Addr), (bs.map (·.2)).Perm ks → (∀ b ∈ bs, H b.1 = some (.tup [.str b.2.1, .int b.2.2])) → H p = none → Q (.ref p) (upd H p (.lst (bs.map fun b => V.ref b.1)))
theorem each_of {α β : Type} {R : α → β → Prop} : ∀ {as : List α} {bs : List β}, as.length = bs.length → (∀ (i : Nat) (a : α) (b : β), as[i]? = some a → bs[i]? = some b → R a b) → PySem.W.EachIs R as bs
  | [], [], _, _ => .nil
  | a :: as, b :: bs, hl, h => .cons (h 0 a b rfl rfl) (each_of (by simpa using hl) fun i x y e1 e2 => h (i + 1) x y (by simpa using e1) (by simpa using e2))
  | [], _ :: _, hl, _ => by simp at hl
  | _ :: _, [], hl, _ => by simp at hl
theorem each_mem {α β : Type} {R : α → β → Prop} {Q : β → Prop} : ∀ {as : List α} {bs : List β}, PySem.W.EachIs R as bs → (∀ a b, R a b → Q b) → ∀ b ∈ bs, Q b
  | _, _, .nil, _, b, h => nomatch h
  | _, _, .cons r t, f, b, h => by
    rcases List.mem_cons.mp h with e | h
    · rw [e]; exact f _ _ r
    · exact each_mem t f b h
theorem each_vals {H : Hp} : ∀ {us : List Value} {bs : List (Addr × Str × Int)}, PySem.W.EachIs (fun v b => v = Value.ref b.1 ∧ H b.1 = some (.tup [.str b.2.1, .int b.2.2])) us bs → Vals (bs.map fun b => V.ref b.1) us
  | _, _, .nil => .nil
  | _, _, .cons r t => .cons r.1 (each_vals t)
theorem sorted_pairs {X : Cx} (hc : X.calm = true) (hu : X.A.units + 64 < cLine) : CallR X (.builtin "sorted") rSortedP := by
  rintro pins s σ H xs us Q I r ⟨a, kvs, ks, rfl, hd, hks, q⟩
  obtain ⟨u, rfl, rx⟩ := vals1 r
  obtain rfl : u = Value.ref a := rx
  obtain ⟨big, low, rows, rel, hdict⟩ := dt_rd I.hok hd
  obtain ⟨es, ep, raw, hsz, hent⟩ := hdict.raw
  have n1 : kvs.length = rows.length := Paired.length rel
  have n2 : kvs.length = ks.length := by have := congrArg List.length hks; simpa using this
  refine Calls.call_function_entry PyProof.Rows.kind_sorted PyProof.Rows.plain_sorted PyProof.Rows.entry_sorted (PyProof.Rows.args_sorted1 _) ?_
  unfold Builtin.«sorted»
  refine wpAny_bind (m := checkCount "sorted" 1 1 _) (wpAny_pure ?_)
  refine wpAny_bind (PySem.W.kdu_collect (A := X.A.in1) (PySem.KdlSrc.rawDict (es := es) (ep := ep) low) (I.ok.hd hc) raw (by omega) fun h1 tk acc keeps hacc => ?_)
  have hal : acc.toList.length = ks.length := by rw [Array.length_toList, hacc.1]; omega
  -- the keys' addresses beside the keys
  let bs : List (Addr × Str × Int) := (rows.map (·.2.1)).zip ks
  have hbl : bs.length = ks.length := by simp [bs]; omega
  have each : PySem.W.EachIs (fun v b => v = Value.ref b.1 ∧ H b.1 = some (.tup [.str b.2.1, .int b.2.2])) acc.toList bs := by
    refine each_of (by omega) fun i v b e1 e2 => ?_
    obtain ⟨hi, ev⟩ := hacc.2 i v (by rw [← Array.getElem?_toList]; exact e1)
    obtain ⟨row, g1, g2, g3, g4⟩ := hent i hi
    have hik : i < ks.length := by omega
    have e2' := e2
    simp only [bs] at e2'
    rw [List.getElem?_zip_eq_some] at e2'
    obtain ⟨b1, b2⟩ := e2'
    rw [List.getElem?_map, g1] at b1
    have b1 := Option.some.inj b1
    have hik2 : i < kvs.length := by omega
    obtain ⟨row', g1', p1, p2, p3⟩ := paired_get rel (i := i) (a := kvs[i]) (List.getElem?_eq_getElem hik2)
    rw [g1] at g1'
    cases g1'
    have k1 : kvs[i].1 = pairK b.2 := by
      have := congrArg (fun l => l[i]?) hks
      simp only [List.getElem?_map, List.getElem?_eq_getElem hik2, b2, Option.map_some, Option.some.injEq] at this
      exact this
    rw [k1] at p2
    exact ⟨by rw [ev, g2, ← b1], by rw [← b1]; exact p2⟩
  have I1 : Inv X pins σ H { s with heap := h1, toks := tk } := I.kept keeps
  refine wpAny_bind (wpAny_newList ?_ (by omega))
  have hoL : (h1.push (PyProof.Rows.seqObj "list" acc.toList.toArray 0)).get? h1.objs.size = some (PyProof.Rows.seqObj "list" acc.toList.toArray 0) := Heap.get?_push_size _ rfl
  show wpAny _ _ _ _ _ { s with heap := h1.push (PyProof.Rows.seqObj "list" acc.toList.toArray 0), toks := tk }
  have reads : PySem.W.EachIs (fun v b => ∃ as, Reads (h1.push (PyProof.Rows.seqObj "list" acc.toList.toArray 0)) v (encP b) as ∧ h1.objs.size ∉ as) acc.toList bs := by
    refine each.mono fun v b ⟨e1, e2⟩ => ?_
    obtain ⟨_, its, rv, o, ho, hcl, n, hdt⟩ := (show ObjOk X.prog X.w H h1 b.1 (.tup [.str b.2.1, .int b.2.2]) from I1.hok _ _ e2)
    obtain ⟨w1, w2, rfl, r1, r2⟩ := vals2 rv
    obtain ⟨t1, rfl⟩ := r1
    obtain ⟨t2, rfl⟩ := r2
    rw [e1]
    exact ⟨_, .tuple (Heap.get?_push_of_some _ ho) hcl hdt (.cons (.str _ _) (.cons (.int _ _) .nil)), by simp⟩
  refine wpAny_bind (wpAny_holding (PySem.W.list_sort_data (s := { s with heap := h1.push (PyProof.Rows.seqObj "list" acc.toList.toArray 0), toks := tk }) (enc := encP) hoL each reads (PySem.W.AllAlike.of alikeP) (PySem.W.Sortable.tuples fun b => ⟨_, _, rfl⟩) (by omega)
    (fun b _ => by
      have : (encP b).depth ≤ 2 := by simp [encP, PyData.depth, PyData.depthAll]
      have h3 : X.A.in1.units = X.A.units + 1 := rfl
      omega) fun out ho eo => ?_))
  obtain ⟨e', he'⟩ := PyProof.Rows.sortedHeap_at (vs := acc.toList) (out := out.toArray) hoL
  have perm := List.mergeSort_perm bs (PySem.W.dataLe false encP)
  have bsK : bs.map (·.2) = ks := by
    simp only [bs]
    rw [List.map_snd_zip]
    simp
    omega
  have hq := q (bs.mergeSort (PySem.W.dataLe false encP)) h1.objs.size (by rw [← bsK]; exact perm.map _) (each_mem eo fun _ _ z => z.2) (I1.hok.fresh (Nat.le_refl _))
  refine wpAny_pure ⟨_, rfl, .ref h1.objs.size, _, I1.laid (t' := tk) (fun b u e => ?_) (Nat.le_refl _) (show ObjOk X.prog X.w _ _ _ (.lst _) from ⟨?_, out, e', each_vals eo, he'⟩), rfl, hq⟩
  · have hb : b < h1.objs.size := Heap.lt_size e
    show (PyProof.Rows.sortedHeap _ _ _ _).get? b = some u
    rw [PyProof.Rows.sortedHeap_old (Nat.ne_of_lt hb) (by rw [PyProof.Rows.size_push']; exact Nat.lt_succ_of_lt hb)]
    exact Heap.get?_push_of_some _ e
  · rw [List.length_map, perm.length_eq]
    omega
end KN

namespace KN
open PySem L2 PySem.Spec
open PyProof.Rows hiding St
/-! ### {**a, **b} of dicts whose keys are ints and texts -/
section
variable {prog : Program} {w : World} {κ : Type} [DecidableEq κ] {knd : KeyKind prog w κ} {A : Around} {E : Value → Shared → Prop} {s : Shared}
theorem put_entry {d : Addr} {kvs : List (κ × Value)} {k : κ} {key v : Value} {Q : Unit → Shared → Prop} (hk : knd.is k key = true) (hd : s.heap.DictOf knd d kvs) (hl : kvs.length ≤ sizeLine)
    (q : ∀ h', h'.DictOf knd d (stored kvs k v) → Heap.SameBut d s.heap h' → Q () { s with heap := h' }) : wpAny (model prog w) A (dictPut d (knd.hash k) key v) Q E s := by
  obtain ⟨o, es, ep, g1, g2, g3, g4, g5, g6⟩ := hd
  have n1 : es.size = kvs.length := by rw [← g5.length]; simp
  have same : (es.findIdx? fun e => knd.is k e.key) = kvs.findIdx? fun kv => decide (kv.1 = k) := by
    rw [← g5.findIdx k]
    obtain ⟨l⟩ := es
    simp
  unfold dictPut
  refine wpAny_bind (wpAny_dictFind_of hk g1 g3 g4 ?_)
  cases found : es.findIdx? fun e => knd.is k e.key with
  | none =>
    have new : k ∉ kvs.map (·.1) := not_mem_of_findIdx_none (same ▸ found)
    have no : ¬ (kvs.any fun kv => decide (kv.1 = k)) = true := fun z => by
      obtain ⟨p, hp, e⟩ := List.any_eq_true.mp z
      exact new (List.mem_map.mpr ⟨p, hp, of_decide_eq_true e⟩)
    refine wpAny_updateDictKeys (hz := by omega) g1 g3 (q _ ⟨_, _, ep + 1, Heap.get?_update_self _ g1 (Obj.isFreed_of_dict (Obj.data_mapDictKeys g3 _)), g2.mapDictKeys _, Obj.data_mapDictKeys g3 _, g4.push hk _, ?_, ?_⟩ (Heap.SameBut.update ..))
    · have := g5.append hk (knd.hash k) v
      rw [stored, if_neg no]
      obtain ⟨l⟩ := es
      simpa using this
    · rw [stored, if_neg no, List.map_append]
      exact nd_snoc g6 new
  | some i =>
    have yes : (kvs.any fun kv => decide (kv.1 = k)) = true := any_of_findIdx_some (same ▸ found)
    have inl : (es.toList.findIdx? fun e => knd.is k e.key) = some i := by
      rw [← found]
      obtain ⟨l⟩ := es
      simp
    refine wpAny_updateDict g1 g3 (q _ ⟨_, _, ep, Heap.get?_update_self _ g1 (Obj.isFreed_of_dict (Obj.data_mapDict g3 _)), g2.mapDict _, Obj.data_mapDict g3 _, g4.modify _ _, ?_, ?_⟩ (Heap.SameBut.update ..))
    · have := g5.modify g6 inl v
      rw [stored, if_pos yes]
      obtain ⟨l⟩ := es
      simpa using this
    · rw [stored, if_pos yes, keys_map_store]
      exact g6
theorem merge_in {d a : Addr} {kvs more : List (κ × Value)} {Q : Unit → Shared → Prop} (ne : d ≠ a) (low : (a == sysModules) = false) (hd : s.heap.DictOf knd d kvs) (ha : s.heap.DictOf knd a more) (hl : kvs.length + more.length ≤ sizeLine)
    (noRef : ∀ k v, knd.is k v = true → ∀ b, v ≠ .ref b) (q : ∀ h', h'.DictOf knd d (merged kvs more) → Heap.SameBut d s.heap h' → Q () { s with heap := h' }) : wpAny (model prog w) A (mergeMapping d (.ref a) false) Q E s := by
  obtain ⟨o, es, ep, g1, g2, g3, g4, g5, g6⟩ := id ha
  obtain ⟨od, esd, epd, f1, f2, f3, f4, f5, f6⟩ := id hd
  have n1 : es.size = more.length := by rw [← g5.length]; simp
  unfold mergeMapping
  refine wpAny_bind (wpAny_isInstance ha.typeIs PySem.F.kt_sub_dict ?_)
  rw [if_pos rfl]
  refine wpAny_bind (wpAny_specialOf ha.typeIs F.slot_dict_iter.lookup (wpAny_bind (wpAny_pure ?_)))
  rw [show (some (Value.builtin "dict.__iter__") == some (Value.builtin "dict.__iter__")) = true from by simp]
  show wpAny _ _ (if (a == sysModules) = true then _ else _) _ _ s
  rw [if_neg (by rw [low]; exact Bool.false_ne_true)]
  have step : wpAny (model prog w) A (do
      let __do_lift ← dictEntries a
      let epoch ← dictEpoch a
      forIn (List.range __do_lift.size) PUnit.unit fun i (_ : PUnit) => (do
          let __do_lift ← dictEntries a
          match __do_lift[i]? with
          | some e => do
            holding [e.key, e.val] (dictPut d e.hash e.key e.val)
            let __do_lift ← dictEpoch a
            if (__do_lift != epoch) = true then do
                (unsupported "dict.changed-during-merge" : Sem PUnit)
                pure (ForInStep.yield PUnit.unit)
              else pure (ForInStep.yield PUnit.unit)
          | _ => do
            (unsupported "dict.changed-during-merge" : Sem PUnit)
            pure (ForInStep.yield PUnit.unit) : Sem (ForInStep PUnit))
      pure ()) Q E s := by
    refine wpAny_bind (wpAny_dictEntries g1 g3 (wpAny_bind (wpAny_dictEpoch g1 g3 (wpAny_bind ?_))))
    refine wpAny_forIn_list _ (fun rest _ s' => ∃ h' i, s' = { s with heap := h' } ∧ rest = List.range' i (es.size - i) ∧ i ≤ es.size ∧ h'.DictOf knd d (merged kvs (more.take i)) ∧ h'.get? a = some o ∧ Heap.SameBut d s.heap h')
      _ ?_ ?_ _ _ ⟨s.heap, 0, rfl, by rw [List.range_eq_range']; simp, Nat.zero_le _, by simpa [merged] using hd, g1, Heap.SameBut.refl _ _⟩
    · rintro x rest b s' ⟨h', i, rfl, hr, hi, hd', ha', hs'⟩
      have hlt : i < es.size := by
        rcases Nat.lt_or_ge i es.size with h | h
        · exact h
        · rw [Nat.sub_eq_zero_of_le h] at hr
          simp at hr
      have e : es.size - i = (es.size - (i + 1)) + 1 := by omega
      rw [e, List.range'_succ] at hr
      obtain ⟨rfl, hrest⟩ := List.cons.inj hr
      refine wpAny_bind (wpAny_dictEntries ha' g3 ?_)
      rw [Array.getElem?_eq_getElem hlt]
      obtain ⟨⟨k, v⟩, hkv⟩ : ∃ kv, more[x]? = some kv := ⟨more[x]'(by omega), List.getElem?_eq_getElem _⟩
      obtain ⟨k1, k2⟩ := g5.get? (e := es[x]) (by simp [hlt]) hkv
      obtain ⟨k', m1, m2⟩ := g4 es[x] (Array.getElem_mem hlt)
      have ek : k' = k := knd.inj _ _ _ m1 k1
      subst ek
      show wpAny _ _ (holding [es[x].key, es[x].val] (dictPut d es[x].hash es[x].key es[x].val) >>= _) _ _ _
      rw [m2, k2]
      have few : (merged kvs (more.take x)).length ≤ sizeLine := by
        have e1 := merged_length_le kvs (more.take x)
        have e2 : (more.take x).length ≤ more.length := by rw [List.length_take]; omega
        omega
      refine wpAny_bind (wpAny_holding (put_entry k1 hd' few fun h'' hd'' hs'' => ?_))
      have ha'' : h''.get? a = some o := (hs''.2 a (Ne.symm ne)).trans ha'
      refine wpAny_bind (wpAny_dictEpoch ha'' g3 ?_)
      rw [if_neg (by simp)]
      exact wpAny_pure ⟨h'', x + 1, rfl, hrest, hlt, by rw [merged_take_succ kvs more x (k', v) hkv]; exact hd'', ha'', hs'.trans hs''⟩
    · rintro b s' ⟨h', i, rfl, hr, hi, hd', ha', hs'⟩
      have e : i = es.size := by
        rcases Nat.lt_or_ge i es.size with h | h
        · have e : es.size - i = (es.size - (i + 1)) + 1 := by omega
          rw [e, List.range'_succ] at hr
          cases hr
        · omega
      subst e
      rw [List.take_of_length_le (by omega)] at hd'
      exact wpAny_pure (q _ hd' hs')
  refine wpAny_bind (wpAny_dictEntries f1 f3 ?_)
  by_cases emp : esd.isEmpty = true
  · rw [if_pos emp]
    refine wpAny_bind (wpAny_dictEntries g1 g3 (wpAny_bind ?_))
    rw [← Array.forIn_toList]
    refine wpAny_forIn_list _ (fun rest _ s' => s' = s ∧ ∀ e ∈ rest, ∃ k, knd.is k e.key = true) _ ?_ ?_ _ _ ⟨rfl, fun e he => ?_⟩
    · rintro x rest b s' ⟨rfl, hk⟩
      obtain ⟨k, hk1⟩ := hk x List.mem_cons_self
      have nr := noRef k x.key hk1
      cases hx : x.key with
      | ref b => exact absurd hx (nr b)
      | _ => exact wpAny_pure ⟨rfl, fun e he => hk e (List.mem_cons_of_mem _ he)⟩
    · rintro b s' ⟨rfl, _⟩
      exact step
    · obtain ⟨k, m1, _⟩ := g4 e (by simpa using he)
      exact ⟨k, m1⟩
  · rw [if_neg emp]
    exact step
end
theorem mix_noRef {P : Program} {w : World} (k : Key) (v : Value) (h : (mixKind P w).is k v = true) (b : Addr) : v ≠ .ref b := by
  rintro rfl
  rcases keyIs_shape h with ⟨_, _, _, e⟩ | ⟨_, _, _, e⟩ <;> cases e
/-- {**a, **b} -/
def tBoth (ta tb : TE) : TE := fun σ H Q => ∀ D, H D = none → ta σ (upd H D (.dK [])) fun x H1 => ∃ a ka, x = .ref a ∧ H1 a = some (.dK ka) ∧ a ≠ D ∧ H1 D = some (.dK []) ∧
  tb σ (upd H1 D (.dK (mergeK [] ka))) fun y H2 => ∃ b kb, y = .ref b ∧ H2 b = some (.dK kb) ∧ b ≠ D ∧ H2 D = some (.dK (mergeK [] ka)) ∧ ka.length + kb.length ≤ sizeLine ∧ Q (.ref D) (upd H2 D (.dK (mergeK (mergeK [] ka) kb)))
theorem merge_dict {X : Cx} {pins : List (Addr × Obj)} {σ : St} {H : Hp} {s : Shared} {D a : Addr} {kd ka : List (Key × V)} {Q : Unit → Shared → Prop} {E : Value → Shared → Prop} (I : Inv X pins σ H s) (hD : H D = some (.dK kd)) (ha : H a = some (.dK ka)) (ne : a ≠ D) (hl : kd.length + ka.length ≤ sizeLine)
    (q : ∀ s', Inv X pins σ (upd H D (.dK (mergeK kd ka))) s' → Q () s') : wpAny (model X.prog X.w) X.A (mergeMapping D (.ref a) false) Q E s := by
  obtain ⟨z1, low1, vs1, r1, d1⟩ := dk_of I.hok hD
  obtain ⟨z2, low2, vs2, r2, d2⟩ := dk_of I.hok ha
  have e1 := KV.length r1
  have e2 := KV.length r2
  refine merge_in (Ne.symm ne) low2 d1 d2 (by omega) mix_noRef fun h' d' but => q _ ?_
  have lm := length_mergeK ka kd
  exact d_write (t' := s.toks) I (by rw [hD]; exact True.intro) but (let ⟨o, _, _, g, _⟩ := d'; ⟨o, g⟩) (dk_new (by omega) low1 (r2.merge r1) d')
theorem pe_both {X : Cx} {ea eb : Expr} {ta tb : TE} {pos : Pos} (ha : PE X ea ta) (hb : PE X eb tb) : PE X (.Dict [none, none] [ea, eb] pos) (tBoth ta tb) := by
  refine ⟨fun pins s σ H Q I h => ?_⟩
  have low := I.big
  show wpAny _ _ (do standAt pos; dictDisplay [(none, do let x ← eval ea X.env; standAt pos; pure x), (none, do let x ← eval eb X.env; standAt pos; pure x)]) _ _ s
  refine wpAny_bind (wpAny_standAt ?_)
  unfold dictDisplay
  have n0 : H s.heap.objs.size = none := I.hok.fresh (Nat.le_refl _)
  have I0 : Inv X pins σ (upd H s.heap.objs.size (.dK [])) { s with heap := s.heap.push { cls := .type "dict", data := .dict #[] } } :=
    I.laid (t' := s.toks) (fun _ _ q => Heap.get?_push_of_some _ q) (Nat.le_refl _) (dk_empty s.heap low)
  have h := h _ n0
  generalize hDe : s.heap.objs.size = D at I0 h n0
  refine wpAny_bind ?_
  rw [List.forIn_cons]
  refine wpAny_bind ?_
  refine wpAny_bind (wpAny_pure ?_)
  refine wpAny_bind (wpAny_alloc ?_)
  rw [hDe]
  refine wpAny_bind (wpAny_holding (wpAny_bind (thn (ha.run pins _ σ _ _ I0 h) ?_)))
  rintro u s1 ⟨x, H1, I1, rx, a, ka, rfl, eA, ne1, eD, h1⟩
  obtain rfl : u = Value.ref a := rx
  refine wpAny_bind (wpAny_standAt (wpAny_pure ?_))
  refine wpAny_bind (wpAny_onRaise (wpAny_tryCatch (wpAny_onRaise (wpAny_holding (merge_dict I1 eD eA ne1 (by have := (dk_of I1.hok eA).1; simpa using this) fun s2 I2 => ?_)))))
  refine wpAny_pure ?_
  dsimp only
  rw [List.forIn_cons]
  refine wpAny_bind ?_
  refine wpAny_bind (wpAny_pure ?_)
  refine wpAny_bind (wpAny_pure ?_)
  refine wpAny_bind (wpAny_holding (wpAny_bind (thn (hb.run pins _ σ _ _ I2 h1) ?_)))
  rintro u s3 ⟨y, H2, I3, ry, b, kb, rfl, eB, ne2, eD2, few, q⟩
  obtain rfl : u = Value.ref b := ry
  refine wpAny_bind (wpAny_standAt (wpAny_pure ?_))
  have lm := length_mergeK ka []
  simp only [List.length_nil] at lm
  refine wpAny_bind (wpAny_onRaise (wpAny_tryCatch (wpAny_onRaise (wpAny_holding (merge_dict I3 eD2 eB ne2 (by omega) fun s4 I4 => ?_)))))
  refine wpAny_pure ?_
  dsimp only
  rw [List.forIn_nil]
  refine wpAny_pure ?_
  refine wpAny_bind (wpAny_pure ?_)
  exact wpAny_pure ⟨.ref D, _, I4, rfl, q⟩
end KN

namespace KN
open PySem L2 PySem.Spec
open PyProof.Rows hiding St
/-! ### dict comprehensions: the block around the loop -/
theorem new_dict {P : Program} {w : World} {H : Hp} {o : HO} (h : Heap) (hb : sysModules < h.objs.size) (ho : o = .dK [] ∨ o = .dT []) : ObjOk P w H (h.push { cls := .type "dict", data := .dict #[] }) h.objs.size o := by
  rcases ho with e | e
  · rw [e]; exact dk_empty h hb
  · rw [e]; exact dt_empty h hb
section
variable {X : Cx} {pins : List (Addr × Obj)} {s : Shared} {σ : St} {H : Hp} {Q : VK} {kx vx tg iter : Expr} {ifs : List Expr} {scope : Scope} {own : List (Str × Nat)} {pos pos' : Pos} {wi : TI}
theorem dcomp_core {B : It → Hp → Addr → Prop} {rest : List Comprehension} {o0 : HO} {use : Option (Value → Sem Unit)} {Qf : Value → Shared → Prop}
    (hc : X.calm = true) (hN : X.N.Nodup) (I : Inv X pins σ H s) (hi : PI X tg iter wi) (ok : BlkOk X.N X.env.scope scope own) (hs : ∀ x, foldedSetIterable iter X.env x = pure x) (h0 : o0 = .dK [] ∨ o0 = .dT [])
    (h : wi σ H fun J H1 => ∀ D, H1 D = none → B J H1 D)
    (loop : ∀ (s3 : Shared) (H3 H1 : Hp) (fp : List Addr) (it D : Addr) (tn : Nat → Heap → Prop) (J : It) (s4 : Shared) (C : Addr) (cl : List (Str × Addr)), H3 = upd H1 D o0 → B J H1 D → Turn X.prog X.w X.K tg J fp it tn →
      Inv (X.blk s3 H3 scope (compEnvC scope cl C X.env) fp) [] (wipe σ (own.map (·.2))) H3 s4 → tn 0 s4.heap → (∀ b ∈ fp, H3 b = none) →
      codeAny (model X.prog X.w) X.A (.compLoop (.DictComp kx vx (⟨tg, iter, ifs, 0⟩ :: rest) scope pos) 0 (.ref it) (.ref D) (compEnvC scope cl C X.env))
        (fun r s' => r = .ok .next ∧ ∃ H5, Inv (X.blk s3 H3 scope (compEnvC scope cl C X.env) fp) [] (wipe σ (own.map (·.2))) H5 s' ∧ Q (.ref D) H5) s4)
    (fin : ∀ (D C : Addr) (s' : Shared) (m : Str → Option Value) (H' : Hp), Inv X pins σ H' s' → Q (.ref D) H' → s'.heap.Ns C m → FpOk X pins H' C → compPost (model X.prog X.w) X.A X.xe use Qf (.ref D) C (.ok .next) s') :
    wpAny (model X.prog X.w) X.A (comprehension (.DictComp kx vx (⟨tg, iter, ifs, 0⟩ :: rest) scope pos) scope X.env pos' newDict false (eval iter X.env) use) Qf X.xe s := by
  have cells : ∀ y ∈ scope.names, y.2 = .free → ∃ c, X.env.cells.lookup y.1 = some c := by
    intro y hy e
    refine I.ok.has _ ?_
    rcases ok.free y hy e with k | k
    · exact Or.inl k
    · exact Or.inr k
  refine wpAny_comprehension_free (use := use) rfl hs (closure_ok cells) ok.kind (fun y hy e => (ok.uniq y hy).trans (congrArg some e)) ?_
  refine thn (hi.run pins s σ H _ I h) fun _ _ z => thn z ?_
  rintro _ s2 ⟨it, fp, tn, J, H2, rfl, I2, T, start, apart, body⟩
  refine wpAny_newObj_type (newEnv_comp ?_)
  have free0 : H2 s2.heap.objs.size = none := I2.hok.fresh (Nat.le_refl _)
  have young : ∀ b ∈ fp, b < s2.heap.objs.size := fun b hb => let ⟨_, g, _⟩ := T.obj _ _ start b hb; Heap.lt_size g
  have body := body _ free0
  have I3 : Inv X pins σ (upd H2 s2.heap.objs.size o0) { s2 with heap := s2.heap.push { cls := .type "dict", data := .dict #[] } } :=
    I2.laid (t' := s2.toks) (fun b o g => Heap.get?_push_of_some _ g) (Nat.le_refl _) (new_dict s2.heap I2.big h0)
  generalize hD : s2.heap.objs.size = D at free0 young body I3
  generalize hs3 : ({ s2 with heap := s2.heap.push { cls := .type "dict", data := .dict #[] } } : Shared) = s3 at I3
  have heap3 : s3.heap = s2.heap.push { cls := .type "dict", data := .dict #[] } := by rw [← hs3]
  have start3 : tn 0 s3.heap := T.keep _ _ _ start fun b _ o g => by rw [heap3]; exact Heap.get?_push_of_some _ g
  have apart3 : ∀ b ∈ fp, FpOk X pins (upd H2 D o0) b ∧ b < s3.heap.objs.size := fun b hb => by
    have lt := young b hb
    refine ⟨⟨?_, (apart b hb).2⟩, ?_⟩
    · rw [upd_ne (Nat.ne_of_lt lt)]
      exact (apart b hb).1
    · rw [heap3, Heap.size_push, hD]
      exact Nat.lt_succ_of_lt lt
  have I4 := block_start I3 ok hN apart3
  have start4 : tn 0 (pushCells (s3.heap.push { cls := .type "dict", data := .dict #[] }) scope.names) := T.keep _ _ _ start3 fun b _ o g => pushCells_keeps _ _ _ _ (Heap.get?_push_of_some _ g)
  have go := loop s3 _ H2 fp it D tn J _ _ _ rfl body T I4 start4 fun b hb => (apart3 b hb).1.1
  refine codeAny_compStart_dict ?_ (T.self X.A 0 _ _ _ start4 ?_)
  all_goals
    refine codeAny_mono go ?_
    rintro r s6 ⟨rfl, H5, I6, q⟩
    have I7 : Inv X pins σ H5 s6 := I3.call' (ch := fp) I6.os I6.base I6.hok I6.bare fun b hb => let z := (apart3 b hb).1; ⟨z.2.2.2.1, z.2.1, z.2.2.2.2.1, z.2.2.2.2.2⟩
    obtain ⟨m, ns, _⟩ := I6.loc
    exact fin D _ s6 m H5 I7 q ns (I3.fpOk (Nat.le_refl _) I6.free)
end

/-! ### one turn of an iterator within a block, its own objects pinned meanwhile -/
theorem turn_in {Y : Cx} {tg : Expr} {J : It} {fp : List Addr} {it : Addr} {tn : Nat → Heap → Prop} (T : Turn Y.prog Y.w Y.K tg J fp it tn) (hc : Y.calm = true) {i : Nat} {pins : List (Addr × Obj)} {σ : St} {H : Hp} {s : Shared} (I : Inv Y pins σ H s) (st : tn i s.heap)
    (fo : ∀ b ∈ fp, FpOk Y pins H b) (go : J.go i H) {R : Value → Shared → Prop} {Q : Option Value → Shared → Prop} {E : Value → Shared → Prop}
    (hR : ∀ u s1, wpAny (model Y.prog Y.w) Y.A (letOwnedTupleGo tg (.ref it) u) (fun _ s2 => R u s2) (fun _ _ => False) s1 → Q (some u) s1)
    (k : ∀ (u : Value) (x : V) (H' : Hp) (s' : Shared), Inv Y (pins ++ pinsAt fp s'.heap) σ H' s' → RelV x u → J.yld i H x H' →
      (∀ (σ2 : St) (H2 : Hp) (s2 : Shared), Inv Y (pins ++ pinsAt fp s'.heap) σ2 H2 s2 → σ.length = σ2.length → (∀ (j : Nat) v, σ[j]? = some (some v) → σ2[j]? = some (some v)) → Inv Y pins σ H2 s2 ∧ tn (i + 1) s2.heap ∧ ∀ b ∈ fp, FpOk Y pins H2 b) → R u s') :
    wpAny (model Y.prog Y.w) Y.A (pyNext (.ref it)) Q E s := by
  refine thnF (T.item Y rfl rfl rfl hc i pins s σ H (fun _ _ => False) I fo st go) ?_
  rintro r s1 ⟨u, rfl, h1⟩
  refine hR u s1 (thn h1 ?_)
  rintro _ s2 ⟨x, H2, I2, rx, y, st2, n2⟩
  have fo2 : ∀ b ∈ fp, FpOk Y pins H2 b := fun b hb => ⟨n2 b hb, (fo b hb).2⟩
  refine k u x H2 s2 (I2.pinned fo2 (T.obj _ _ st2)) rx y fun σ3 H3 s3 I3 hl hk => ?_
  have held : ∀ b ∈ fp, ∀ o, s2.heap.get? b = some o → s3.heap.get? b = some o ∧ H3 b = none := fun b hb o g =>
    let z := I3.pin (b, o) (List.mem_append_right _ (List.mem_append_right _ (mem_pinsAt hb g)))
    ⟨z.1, z.2.1⟩
  refine ⟨I3.unpinned.weak hl hk, T.keep _ _ _ st2 fun b hb o g => (held b hb o g).1, fun b hb => ⟨?_, (fo b hb).2⟩⟩
  obtain ⟨o, g, _⟩ := T.obj _ _ st2 b hb
  exact (held b hb o g).2
/-- a comprehension's d[k] = v, d's keys ints and texts, or tuples of these -/
theorem put_dict {X : Cx} {pins : List (Addr × Obj)} {σ : St} {H H' : Hp} {s : Shared} {E : Value → Shared → Prop} {D : Addr} {y v : V} {u r : Value} {Q : Unit → Shared → Prop} (hu : X.A.units + 1 < cLine) (I : Inv X pins σ H s) (g : DPut H D y v H')
    (ry : RelV y u) (rv : RelV v r) (q : ∀ s', Inv X pins σ H' s' → Q () s') : wpAny (model X.prog X.w) X.A (dictSet D u r) Q E s := by
  rcases g with ⟨kvs, k, e, rfl, l, rfl⟩ | ⟨kvs, k, b, e, rfl, eb, l, rfl⟩
  · exact d_dictSet I e l ry rv q
  · obtain rfl : u = Value.ref b := ry
    obtain ⟨big, low, rows, rel, dd⟩ := dt_of I.hok e
    have n1 := Paired.length rel
    have n2 := length_putK kvs k v
    refine wpAny_dictSet_heap (hsz := by omega) (show X.A.units < cLine by omega) (key_of I.hok eb) dd fun h' dd' but => q _ ?_
    obtain ⟨o, es, ep, g1, g2, g3, g4, _, g6⟩ := dd'
    refine d_write I (by rw [e]; exact True.intro) but ⟨o, g1⟩ ⟨by omega, low, _, (rel.put k eb rv).keeps fun c ys ec => ?_, o, es, ep, g1, g2, g3, g4, g6⟩
    rw [upd_ne (ne_of ec e fun z => nomatch z)]
    exact ec
/-- {k: v for tg in iter if ..}: D the new dict, at first o0 -/
def tDg (o0 : HO) (wi : TI) (g : TG) (tt : TT) (tk tv : TE) (vs : List Nat) : TE := fun σ H Q => wi σ H fun J H1 => ∀ D, H1 D = none → ∃ W : Nat → Nat → Hp → Prop, (∃ m, W 0 m (upd H1 D o0)) ∧ ∀ i m H, W i m H →
  (J.stop i H ∧ Q (.ref D) H) ∨ (J.go i H ∧ ∃ Nx : Hp → Prop, (∀ H', Nx H' → ∃ m', m' < m ∧ W (i + 1) m' H') ∧ ∀ x H', J.yld i H x H' → g x (wipe σ vs) H' fun σ2 H2 => wipe σ2 vs = wipe σ vs ∧ tt σ2 H2 fun b H3 =>
    if b = true then tk σ2 H3 fun y H4 => tv σ2 H4 fun z H5 => ∃ H6, DPut H5 D y z H6 ∧ Nx H6 else Nx H3)
section
variable {X : Cx} {kx vx tg iter : Expr} {ifs : List Expr} {scope : Scope} {own : List (Str × Nat)} {pos : Pos} {wi : TI} {g : TG} {tt : TT} {tk tv : TE} {o0 : HO}
theorem wipe_in {σ σ2 : St} {vs : List Nat} (h : wipe σ2 vs = wipe σ vs) : (wipe σ vs).length = σ2.length ∧ ∀ (j : Nat) v, (wipe σ vs)[j]? = some (some v) → σ2[j]? = some (some v) := by
  refine ⟨by rw [← h, wipe_length], fun j v e => ?_⟩
  rw [← h] at e
  exact (wipe_some e).1
theorem dg_core {pins : List (Addr × Obj)} {s : Shared} {σ : St} {H : Hp} {Q : VK} {pos' : Pos} {use : Option (Value → Sem Unit)} {Qf : Value → Shared → Prop}
    (hu : X.A.units + 1 < cLine) (hc : X.calm = true) (hN : X.N.Nodup) (I : Inv X pins σ H s) (hi : PI X tg iter wi) (ok : BlkOk X.N X.env.scope scope own) (hs : ∀ x, foldedSetIterable iter X.env x = pure x) (h0 : o0 = .dK [] ∨ o0 = .dT [])
    (hg : ∀ (s : Shared) (H : Hp) (C : Addr) (cl : List (Str × Addr)) (fp : List Addr), PG (X.blk s H scope (compEnvC scope cl C X.env) fp) tg g) (ht : ∀ (s : Shared) (H : Hp) (C : Addr) (cl : List (Str × Addr)) (fp : List Addr), PTs (X.blk s H scope (compEnvC scope cl C X.env) fp) ifs tt)
    (hk : ∀ (s : Shared) (H : Hp) (C : Addr) (cl : List (Str × Addr)) (fp : List Addr), PE (X.blk s H scope (compEnvC scope cl C X.env) fp) kx tk) (he : ∀ (s : Shared) (H : Hp) (C : Addr) (cl : List (Str × Addr)) (fp : List Addr), PE (X.blk s H scope (compEnvC scope cl C X.env) fp) vx tv)
    (h : tDg o0 wi g tt tk tv (own.map (·.2)) σ H Q)
    (fin : ∀ (D C : Addr) (s' : Shared) (m : Str → Option Value) (H' : Hp), Inv X pins σ H' s' → Q (.ref D) H' → s'.heap.Ns C m → FpOk X pins H' C → compPost (model X.prog X.w) X.A X.xe use Qf (.ref D) C (.ok .next) s') :
    wpAny (model X.prog X.w) X.A (comprehension (.DictComp kx vx [⟨tg, iter, ifs, 0⟩] scope pos) scope X.env pos' newDict false (eval iter X.env) use) Qf X.xe s := by
  refine dcomp_core hc hN I hi ok hs h0 h ?_ fin
  rintro s3 H3 H1 fp it D tn J s4 C cl rfl ⟨W, ⟨m0, w0⟩, turns⟩ T I4 st4 n4
  have pg := hg s3 (upd H1 D o0) C cl fp
  have pt := ht s3 (upd H1 D o0) C cl fp
  have pk := hk s3 (upd H1 D o0) C cl fp
  have pv := he s3 (upd H1 D o0) C cl fp
  generalize hY : X.blk s3 (upd H1 D o0) scope (compEnvC scope cl C X.env) fp = Y at pg pt pk pv I4
  have eP : Y.prog = X.prog := by rw [← hY]
  have eW : Y.w = X.w := by rw [← hY]
  have eK : Y.K = X.K := by rw [← hY]
  have eA : Y.A = X.A := by rw [← hY]
  have eC : Y.calm = true := by rw [← hY]; exact hc
  have eE : Y.xe = fun _ _ => False := by rw [← hY]
  have eN : Y.env = compEnvC scope cl C X.env := by rw [← hY]
  have ePn : Y.pn = [] := by rw [← hY]
  have eX : Y.ex = fp := by rw [← hY]
  rw [← eP, ← eW, ← eA, ← eN]
  rw [← eP, ← eW, ← eK] at T
  have fo : ∀ {σ' : St} {H' : Hp} {s' : Shared}, Inv Y [] σ' H' s' → (∀ b ∈ fp, H' b = none) → ∀ b ∈ fp, FpOk Y [] H' b := fun {σ' H' s'} I' nn b hb =>
    have hx : b ∈ Y.ex := by rw [eX]; exact hb
    ⟨nn b hb, (I'.ok.exf b hx).1, I'.ok.exfs b hx, .inl hx, fun x c e => (I'.ok.exf b hx).2 x c e, fun p hp => by rw [ePn] at hp; exact absurd hp (by simp)⟩
  refine compLoop_anyD (fun n s' => ∃ i H', Inv Y [] (wipe σ (own.map (·.2))) H' s' ∧ tn i s'.heap ∧ (∀ b ∈ fp, FpOk Y [] H' b) ∧ W i n H') ?_ m0 ⟨0, _, I4, st4, fo I4 n4, w0⟩
  rintro n s5 ⟨i, H5, I5, st5, f5, w5⟩
  rcases turns i n H5 w5 with ⟨stop, q⟩ | ⟨go, Nx, next, step⟩
  · refine thnF (T.done Y rfl rfl rfl eC i [] s5 _ H5 (fun _ _ => False) I5 f5 st5 stop) ?_
    rintro r s6 ⟨rfl, I6⟩
    exact ⟨rfl, H5, I6, q⟩
  · refine turn_in T eC I5 st5 f5 go (fun u s1 z => thnF z fun _ _ y => y) fun u x H7 s7 I7 rx y back => ?_
    have a1 := pg.run _ s7 _ H7 x u _ I7 rx (step x H7 y)
    rw [eE] at a1
    refine thnF a1 ?_
    rintro _ s8 ⟨σ8, H8, I8, w8, q8⟩
    obtain ⟨hl, hkeep⟩ := wipe_in w8
    have a2 := pt.run _ s8 σ8 H8 _ I8 q8
    rw [eE] at a2
    refine thnF a2 ?_
    rintro b s9 ⟨H9, I9, q9⟩
    cases b with
    | false =>
      rw [if_neg Bool.false_ne_true] at q9 ⊢
      obtain ⟨m', lt, w'⟩ := next _ q9
      obtain ⟨J1, J2, J3⟩ := back _ _ _ I9 hl hkeep
      exact ⟨m', lt, i + 1, H9, J1, J2, J3, w'⟩
    | true =>
      rw [if_pos rfl] at q9 ⊢
      have a3 := pk.run _ s9 σ8 H9 _ I9 q9
      rw [eE] at a3
      refine thnF a3 ?_
      rintro ku s10 ⟨yk, H10, I10, r10, q10⟩
      have a4 := pv.run _ s10 σ8 H10 _ I10 q10
      rw [eE] at a4
      refine thnF a4 ?_
      rintro vu s11 ⟨yv, H11, I11, r11, H12, put, nx⟩
      refine put_dict (by rw [eA]; exact hu) I11 put r10 r11 fun s12 I12 => ?_
      obtain ⟨m', lt, w'⟩ := next _ nx
      obtain ⟨J1, J2, J3⟩ := back _ _ _ I12 hl hkeep
      exact ⟨m', lt, i + 1, H12, J1, J2, J3, w'⟩
end
end KN

namespace KN
open PySem L2 PySem.Spec
open PyProof.Rows hiding St
section
variable {X : Cx} {kx vx tg iter : Expr} {ifs : List Expr} {scope : Scope} {own : List (Str × Nat)} {pos : Pos} {wi : TI} {g : TG} {tt : TT} {tk tv : TE} {o0 : HO}
theorem pe_dg (hu : X.A.units + 1 < cLine) (h0 : o0 = .dK [] ∨ o0 = .dT []) (hc : X.calm = true) (hN : X.N.Nodup) (hi : PI X tg iter wi) (ok : BlkOk X.N X.env.scope scope own)
    (hg : ∀ (s : Shared) (H : Hp) (C : Addr) (cl : List (Str × Addr)) (fp : List Addr), PG (X.blk s H scope (compEnvC scope cl C X.env) fp) tg g) (ht : ∀ (s : Shared) (H : Hp) (C : Addr) (cl : List (Str × Addr)) (fp : List Addr), PTs (X.blk s H scope (compEnvC scope cl C X.env) fp) ifs tt)
    (hk : ∀ (s : Shared) (H : Hp) (C : Addr) (cl : List (Str × Addr)) (fp : List Addr), PE (X.blk s H scope (compEnvC scope cl C X.env) fp) kx tk) (he : ∀ (s : Shared) (H : Hp) (C : Addr) (cl : List (Str × Addr)) (fp : List Addr), PE (X.blk s H scope (compEnvC scope cl C X.env) fp) vx tv)
    (hs : ∀ x, foldedSetIterable iter X.env x = pure x := by intro _; rfl) : PE X (.DictComp kx vx [⟨tg, iter, ifs, 0⟩] scope pos) (tDg o0 wi g tt tk tv (own.map (·.2))) := by
  refine ⟨fun pins s σ H Q I h => ?_⟩
  rw [arm_eval_DictComp]
  refine dg_core hu hc hN I hi ok hs h0 hg ht hk he h fun D C s' m H' I' q ns f => ⟨m, ns, fun h2 but => ?_⟩
  exact ⟨.ref D, H', I'.turned (t' := s'.toks) (fun b o hb e => (but.2 b hb).trans e) f.1 f.2.1 f.2.2.2.1 f.2.2.2.2.1 f.2.2.2.2.2, rfl, q⟩
theorem swap_dict {env : Env} {gs : List Comprehension} {py : Pos} {y : Str} {l : Nat} (hk : env.scope.kind = .function) (hy : env.scope.names.lookup y = some .local) (hl : (py.line == pos.line) = true)
    (ha : (scope.names.any fun (n, k) => n == y && (k == .local || k == .cell)) = false) : swapsWith (.DictComp kx vx gs scope pos) (some (.Name y py)) l env = pure true := by
  have a1 : env.kindOf y = some .local := hy
  have a2 : env.blockKind = .function := by
    unfold Env.blockKind
    rw [hk]
    rfl
  unfold swapsWith
  simp only [a1, a2, ha, Expr.pos, hl]
  rfl
/-- y = {..} of a plain local -/
theorem ps_setDg {i : Nat} {y : Str} {py spos : Pos} (hu : X.A.units + 1 < cLine) (h0 : o0 = .dK [] ∨ o0 = .dT []) (hc : X.calm = true) (hN : X.N.Nodup) (hy : X.N[i]? = some y) (hyl : X.env.scope.names.lookup y = some .local)
    (hsw : swapsWith (.DictComp kx vx [⟨tg, iter, ifs, 0⟩] scope pos) (some (.Name y py)) spos.line X.env = pure true) (hi : PI X tg iter wi) (ok : BlkOk X.N X.env.scope scope own)
    (hg : ∀ (s : Shared) (H : Hp) (C : Addr) (cl : List (Str × Addr)) (fp : List Addr), PG (X.blk s H scope (compEnvC scope cl C X.env) fp) tg g) (ht : ∀ (s : Shared) (H : Hp) (C : Addr) (cl : List (Str × Addr)) (fp : List Addr), PTs (X.blk s H scope (compEnvC scope cl C X.env) fp) ifs tt)
    (hk : ∀ (s : Shared) (H : Hp) (C : Addr) (cl : List (Str × Addr)) (fp : List Addr), PE (X.blk s H scope (compEnvC scope cl C X.env) fp) kx tk) (he : ∀ (s : Shared) (H : Hp) (C : Addr) (cl : List (Str × Addr)) (fp : List Addr), PE (X.blk s H scope (compEnvC scope cl C X.env) fp) vx tv)
    (hs : ∀ x, foldedSetIterable iter X.env x = pure x := by intro _; rfl) : PS X (.Assign [.Name y py] (.DictComp kx vx [⟨tg, iter, ifs, 0⟩] scope pos) spos) (tAsg (tDg o0 wi g tt tk tv (own.map (·.2))) (gName i)) := by
  refine ⟨fun pins s σ H D I h => ?_⟩
  rw [exec_Assign_Name_used _ _ _ _ hsw]
  refine wpAny_bind (wpAny_standAt (wpAny_bind ?_))
  have h : tDg o0 wi g tt tk tv (own.map (·.2)) σ H (fun x H1 => gName i x σ H1 D.nx) := h
  show wpAny _ X.A (do let _ ← comprehension (.DictComp kx vx [⟨tg, iter, ifs, 0⟩] scope pos) scope X.env (firstIterPos [⟨tg, iter, ifs, 0⟩] pos) newDict false (eval iter X.env) (some (assign (.Name y py) X.env))) _ _ s
  refine wpAny_bind (thn (dg_core (Qf := fun _ s' => SP X pins D .next s') hu hc hN I hi ok hs h0 hg ht hk he h fun L C s' m H' I' q ns f => ?_) fun _ s' hq => wpAny_pure (wpAny_pure hq))
  show wpAny _ _ (assign (.Name y py) X.env (.ref L)) _ _ _
  refine wpAny_assign_Name (store_ok2 (v := V.ref L) I' hN hy (.inl hyl) rfl (fun s2 I2 ⟨a, but, ha⟩ => ?_) (.inr hyl))
  have apart : C ≠ a := by
    rcases ha with z | z
    · rw [z]; exact f.2.1
    · exact fun e => f.2.2.2.2.1 y a z e.symm
  refine ⟨m, ns.sameBut but apart, fun h3 but3 => ?_⟩
  exact ⟨_, H', I2.turned (t' := s2.toks) (fun b o hb e => (but3.2 b hb).trans e) f.1 f.2.1 f.2.2.2.1 f.2.2.2.2.1 f.2.2.2.2.2, q⟩
end
/-! ### {k: v for t0 in i0 for t1 in i1} -/
section
variable {kx vx t0 i0 t1 i1 : Expr} {scope : Scope} {pos : Pos}
theorem turn_out (it acc : Value) (env : Env) : compTurn (.DictComp kx vx [⟨t0, i0, [], 0⟩, ⟨t1, i1, [], 0⟩] scope pos) 0 it acc env = (do
    standAt i0.pos
    match ← pyNext it with
    | none => pure (.done .next)
    | some v =>
      letOwnedTupleGo t0 it v
      assign t0 env v
      let x ← eval i1 env
      standAt i1.pos
      let x ← foldedSetIterable i1 env x
      let _ ← runOwn (.compStart (.DictComp kx vx [⟨t0, i0, [], 0⟩, ⟨t1, i1, [], 0⟩] scope pos) 1 (← holding [x] (pyIter x)) acc env) env
      again (.compLoop (.DictComp kx vx [⟨t0, i0, [], 0⟩, ⟨t1, i1, [], 0⟩] scope pos) 0 it acc env)) := by rfl
theorem turn_inner (it : Value) (D : Addr) (env : Env) : compTurn (.DictComp kx vx [⟨t0, i0, [], 0⟩, ⟨t1, i1, [], 0⟩] scope pos) 1 it (.ref D) env = (do
    standAt i1.pos
    match ← pyNext it with
    | none => pure (.done .next)
    | some v =>
      letOwnedTupleGo t1 it v
      assign t1 env v
      (do
        let kv ← eval kx env
        let vv ← holding [kv] (eval vx env)
        standAt { kx.pos with endLine := vx.pos.endLine, endCol := vx.pos.endCol }
        holding [kv, vv] (dictSet D kv vv))
      again (.compLoop (.DictComp kx vx [⟨t0, i0, [], 0⟩, ⟨t1, i1, [], 0⟩] scope pos) 1 it (.ref D) env)) := by rfl
abbrev NoE : Value → Shared → Prop := fun _ _ => False
variable {prog : Program} {w : World} {A : Around} {s : Shared} {it : Value} {env : Env} {R : Result → Shared → Prop}
/-- the loop of the first clause: at each turn the second clause is run through -/
theorem loop_out {acc : Value} (hs : ∀ x, foldedSetIterable i1 env x = pure x) (I : Nat → Shared → Prop)
    (turn : ∀ n s, I n s → wpAny (model prog w) A (pyNext it) (fun r s1 => match r with
      | none => R (.ok .next) s1
      | some v => wpAny (model prog w) A (letOwnedTupleGo t0 it v) (fun _ s2 => wpAny (model prog w) A (assign t0 env v) (fun _ s3 => wpAny (model prog w) A (eval i1 env) (fun x s4 => wpAny (model prog w) A (pyIter x) (fun it1 s5 =>
          codeAny (model prog w) A (.compStart (.DictComp kx vx [⟨t0, i0, [], 0⟩, ⟨t1, i1, [], 0⟩] scope pos) 1 it1 acc env) (fun r s' => r = .ok .next ∧ ∃ m, m < n ∧ I m s') s5) NoE s4) NoE s3) NoE s2) NoE s1) NoE s) (n : Nat) (h : I n s) :
    codeAny (model prog w) A (.compLoop (.DictComp kx vx [⟨t0, i0, [], 0⟩, ⟨t1, i1, [], 0⟩] scope pos) 0 it acc env) R s := by
  refine codeAny_loop rfl I (fun n s hI => ?_) n h
  show wpAny _ A ((compTurn (.DictComp kx vx [⟨t0, i0, [], 0⟩, ⟨t1, i1, [], 0⟩] scope pos) 0 it acc env).onRaise (fun x => do noteFrame x env; theTreesLotGoes x)) _ _ s
  refine wpAny_noted ?_
  rw [turn_out]
  refine wpAny_bind (wpAny_standAt (wpAny_bind (thnF (turn n s hI) fun r s1 h1 => ?_)))
  cases r with
  | none => exact wpAny_pure h1
  | some v =>
    refine wpAny_bind (thnF h1 fun _ s2 h2 => ?_)
    refine wpAny_bind (thnF h2 fun _ s3 h3 => ?_)
    refine wpAny_bind (thnF h3 fun x s4 h4 => ?_)
    refine wpAny_bind (wpAny_standAt (wpAny_bind (wpAny_of_eq (hs x) (wpAny_bind (wpAny_holding (thnF h4 fun it1 s5 h5 => ?_))))))
    refine wpAny_bind (wpAny_runOwn ?_)
    rw [Around.mark_none]
    refine codeAny_mono h5 ?_
    rintro r s' ⟨rfl, m, lt, hm⟩
    first
      | exact wpAny_pure ⟨rfl, m, lt, hm⟩
      | exact wpAny_bind (wpAny_pure (wpAny_pure ⟨rfl, m, lt, hm⟩))
/-- the loop of the second -/
theorem loop_inner {D : Addr} (I : Nat → Shared → Prop)
    (turn : ∀ n s, I n s → wpAny (model prog w) A (pyNext it) (fun r s1 => match r with
      | none => R (.ok .next) s1
      | some v => wpAny (model prog w) A (letOwnedTupleGo t1 it v) (fun _ s2 => wpAny (model prog w) A (assign t1 env v) (fun _ s3 => wpAny (model prog w) A (eval kx env) (fun ku s4 => wpAny (model prog w) A (eval vx env) (fun vu s5 =>
          wpAny (model prog w) A (dictSet D ku vu) (fun _ s6 => ∃ m, m < n ∧ I m s6) NoE s5) NoE s4) NoE s3) NoE s2) NoE s1) NoE s) (n : Nat) (h : I n s) :
    codeAny (model prog w) A (.compLoop (.DictComp kx vx [⟨t0, i0, [], 0⟩, ⟨t1, i1, [], 0⟩] scope pos) 1 it (.ref D) env) R s := by
  refine codeAny_loop rfl I (fun n s hI => ?_) n h
  show wpAny _ A ((compTurn (.DictComp kx vx [⟨t0, i0, [], 0⟩, ⟨t1, i1, [], 0⟩] scope pos) 1 it (.ref D) env).onRaise (fun x => do noteFrame x env; theTreesLotGoes x)) _ _ s
  refine wpAny_noted ?_
  rw [turn_inner]
  refine wpAny_bind (wpAny_standAt (wpAny_bind (thnF (turn n s hI) fun r s1 h1 => ?_)))
  cases r with
  | none => exact wpAny_pure h1
  | some v =>
    refine wpAny_bind (thnF h1 fun _ s2 h2 => ?_)
    refine wpAny_bind (thnF h2 fun _ s3 h3 => ?_)
    refine wpAny_bind (wpAny_bind (thnF h3 fun ku s4 h4 => wpAny_bind (wpAny_holding (thnF h4 fun vu s5 h5 => wpAny_bind (wpAny_standAt (wpAny_holding (thnF h5 fun _ s6 h6 => ?_)))))))
    exact wpAny_pure ⟨rfl, h6⟩
/-- the second clause's start -/
theorem start_inner {acc : Value} (h0 : codeAny (model prog w) A (.compLoop (.DictComp kx vx [⟨t0, i0, [], 0⟩, ⟨t1, i1, [], 0⟩] scope pos) 1 it acc env) R s)
    (h : wpAny (model prog w) A (pyIter it) (fun it' s' => codeAny (model prog w) A (.compLoop (.DictComp kx vx [⟨t0, i0, [], 0⟩, ⟨t1, i1, [], 0⟩] scope pos) 1 it' acc env) R s') NoE s) :
    codeAny (model prog w) A (.compStart (.DictComp kx vx [⟨t0, i0, [], 0⟩, ⟨t1, i1, [], 0⟩] scope pos) 1 it acc env) R s := by
  refine codeAny_of_tree ?_
  show wpAny _ _ ((compStart (.DictComp kx vx [⟨t0, i0, [], 0⟩, ⟨t1, i1, [], 0⟩] scope pos) 1 it acc env).onRaise (fun x => do noteFrame x env; standAt theWindowsPlace)) _ _ s
  refine wpAny_notedAt ?_
  unfold compStart
  show wpAny _ _ (ask >>= _) _ _ s
  refine wpAny_bind (wpAny_askSetting (wpAny_ite ?_))
  split
  · first
      | exact wpAny_bind (wpAny_pure (wpAny_pure (And.intro rfl h0)))
      | exact wpAny_pure (And.intro rfl h0)
  · refine wpAny_bind (wpAny_rule ?_)
    first
      | exact wpAny_bind (wpAny_standAt (wpAny_bind (thnF h fun it' s' h' => wpAny_pure (And.intro rfl h'))))
      | (show wpAny _ _ (standAt i1.pos >>= _) _ _ s; exact wpAny_bind (wpAny_standAt (wpAny_bind (thnF h fun it' s' h' => wpAny_pure (And.intro rfl h')))))
end
/-- {k: v for t0 in i0 for t1 in i1}: vs the block's names, vs1 those of the second target -/
def tDg2 (wi : TI) (g : TG) (wi1 : TI) (g1 : TG) (tk tv : TE) (vs vs1 : List Nat) : TE := fun σ H Q => wi σ H fun J H1 => ∀ D, H1 D = none → ∃ W : Nat → Nat → Hp → Prop, (∃ m, W 0 m (upd H1 D (.dK []))) ∧ ∀ i m H, W i m H →
  (J.stop i H ∧ Q (.ref D) H) ∨ (J.go i H ∧ ∃ Nx : Hp → Prop, (∀ H', Nx H' → ∃ m', m' < m ∧ W (i + 1) m' H') ∧ ∀ x H', J.yld i H x H' → g x (wipe σ vs) H' fun σ2 H2 => wipe σ2 vs = wipe σ vs ∧
    wi1 σ2 H2 fun J1 H4 => ∃ W1 : Nat → Nat → Hp → Prop, (∃ m, W1 0 m H4) ∧ ∀ j k H, W1 j k H → (J1.stop j H ∧ Nx H) ∨ (J1.go j H ∧ ∃ Nx1 : Hp → Prop, (∀ H', Nx1 H' → ∃ k', k' < k ∧ W1 (j + 1) k' H') ∧
      ∀ x H', J1.yld j H x H' → g1 x (wipe σ2 vs1) H' fun σ3 H5 => wipe σ3 vs1 = wipe σ2 vs1 ∧ tk σ3 H5 fun y H7 => tv σ3 H7 fun z H8 => ∃ H9, DPut H8 D y z H9 ∧ Nx1 H9))
section
variable {X : Cx} {kx vx tg iter tg1 iter1 : Expr} {scope : Scope} {own : List (Str × Nat)} {vs1 : List Nat} {pos : Pos} {wi wi1 : TI} {g g1 : TG} {tk tv : TE}
theorem pe_dg2 (hu : X.A.units + 1 < cLine) (hc : X.calm = true) (hN : X.N.Nodup) (hi : PI X tg iter wi) (ok : BlkOk X.N X.env.scope scope own) (hv : ∀ i ∈ vs1, i ∈ own.map (·.2))
    (hg : ∀ (s : Shared) (H : Hp) (C : Addr) (cl : List (Str × Addr)) (fp : List Addr), PG (X.blk s H scope (compEnvC scope cl C X.env) fp) tg g)
    (hi1 : ∀ (s : Shared) (H : Hp) (C : Addr) (cl : List (Str × Addr)) (fp : List Addr), PI (X.blk s H scope (compEnvC scope cl C X.env) fp) tg1 iter1 wi1)
    (hg1 : ∀ (s : Shared) (H : Hp) (C : Addr) (cl : List (Str × Addr)) (fp : List Addr), PG (X.blk s H scope (compEnvC scope cl C X.env) fp) tg1 g1)
    (hk : ∀ (s : Shared) (H : Hp) (C : Addr) (cl : List (Str × Addr)) (fp : List Addr), PE (X.blk s H scope (compEnvC scope cl C X.env) fp) kx tk) (he : ∀ (s : Shared) (H : Hp) (C : Addr) (cl : List (Str × Addr)) (fp : List Addr), PE (X.blk s H scope (compEnvC scope cl C X.env) fp) vx tv)
    (hs : ∀ x, foldedSetIterable iter X.env x = pure x := by intro _; rfl) (hs1 : ∀ env x, foldedSetIterable iter1 env x = pure x := by intro _ _; rfl) :
    PE X (.DictComp kx vx [⟨tg, iter, [], 0⟩, ⟨tg1, iter1, [], 0⟩] scope pos) (tDg2 wi g wi1 g1 tk tv (own.map (·.2)) vs1) := by
  refine ⟨fun pins s σ H Q I h => ?_⟩
  rw [arm_eval_DictComp]
  refine dcomp_core (o0 := .dK []) (Q := Q) hc hN I hi ok hs (.inl rfl) h ?_ fun D C s' m H' I' q ns f => ⟨m, ns, fun h2 but => ?_⟩
  rotate_left
  · exact ⟨.ref D, H', I'.turned (t' := s'.toks) (fun b o hb e => (but.2 b hb).trans e) f.1 f.2.1 f.2.2.2.1 f.2.2.2.2.1 f.2.2.2.2.2, rfl, q⟩
  rintro s3 H3 H1 fp it D tn J s4 C cl rfl ⟨W, ⟨m0, w0⟩, turns⟩ T I4 st4 n4
  have pg := hg s3 (upd H1 D (.dK [])) C cl fp
  have pi1 := hi1 s3 (upd H1 D (.dK [])) C cl fp
  have pg1 := hg1 s3 (upd H1 D (.dK [])) C cl fp
  have pk := hk s3 (upd H1 D (.dK [])) C cl fp
  have pv := he s3 (upd H1 D (.dK [])) C cl fp
  generalize hY : X.blk s3 (upd H1 D (.dK [])) scope (compEnvC scope cl C X.env) fp = Y at pg pi1 pg1 pk pv I4
  have eP : Y.prog = X.prog := by rw [← hY]
  have eW : Y.w = X.w := by rw [← hY]
  have eK : Y.K = X.K := by rw [← hY]
  have eA : Y.A = X.A := by rw [← hY]
  have eC : Y.calm = true := by rw [← hY]; exact hc
  have eE : Y.xe = fun _ _ => False := by rw [← hY]
  have eN : Y.env = compEnvC scope cl C X.env := by rw [← hY]
  have ePn : Y.pn = [] := by rw [← hY]
  have eX : Y.ex = fp := by rw [← hY]
  rw [← eP, ← eW, ← eA, ← eN]
  rw [← eP, ← eW, ← eK] at T
  have fo : ∀ {σ' : St} {H' : Hp} {s' : Shared}, Inv Y [] σ' H' s' → (∀ b ∈ fp, H' b = none) → ∀ b ∈ fp, FpOk Y [] H' b := fun {σ' H' s'} I' nn b hb =>
    have hx : b ∈ Y.ex := by rw [eX]; exact hb
    ⟨nn b hb, (I'.ok.exf b hx).1, I'.ok.exfs b hx, .inl hx, fun x c e => (I'.ok.exf b hx).2 x c e, fun p hp => by rw [ePn] at hp; exact absurd hp (by simp)⟩
  refine loop_out (hs1 _) (fun n s' => ∃ i H', Inv Y [] (wipe σ (own.map (·.2))) H' s' ∧ tn i s'.heap ∧ (∀ b ∈ fp, FpOk Y [] H' b) ∧ W i n H') ?_ m0 ⟨0, _, I4, st4, fo I4 n4, w0⟩
  rintro n s5 ⟨i, H5, I5, st5, f5, w5⟩
  rcases turns i n H5 w5 with ⟨stop, q⟩ | ⟨go, Nx, next, step⟩
  · refine thnF (T.done Y rfl rfl rfl eC i [] s5 _ H5 (fun _ _ => False) I5 f5 st5 stop) ?_
    rintro r s6 ⟨rfl, I6⟩
    exact ⟨rfl, H5, I6, q⟩
  refine turn_in T eC I5 st5 f5 go (fun u s1 z => thnF z fun _ _ y => y) fun u x H7 s7 I7 rx y back => ?_
  have a1 := pg.run _ s7 _ H7 x u _ I7 rx (step x H7 y)
  rw [eE] at a1
  refine thnF a1 ?_
  rintro _ s8 ⟨σ8, H8, I8, w8, q8⟩
  obtain ⟨hl, hkeep⟩ := wipe_in w8
  have keep2 : ∀ (j : Nat) v, (wipe σ (own.map (·.2)))[j]? = some (some v) → (wipe σ8 vs1)[j]? = some (some v) := fun j v e => by
    rw [← w8] at e
    obtain ⟨e1, e2⟩ := wipe_some e
    rw [wipe_out fun z => e2 (hv j z)]
    exact e1
  have a2 := pi1.run _ s8 σ8 H8 _ I8 q8
  rw [eE] at a2
  refine thnF a2 fun xv s9 h9 => thnF h9 ?_
  rintro _ s10 ⟨it1, fp1, tn1, J1, H10, rfl, I10, T1, st10, f10, W1, ⟨m1, w1⟩, turns1⟩
  refine start_inner ?_ (T1.self Y.A 0 _ _ _ st10 ?_)
  all_goals
    refine loop_inner (fun k s' => ∃ j H', Inv Y ([] ++ pinsAt fp s7.heap) (wipe σ8 vs1) H' s' ∧ tn1 j s'.heap ∧ (∀ b ∈ fp1, FpOk Y ([] ++ pinsAt fp s7.heap) H' b) ∧ W1 j k H') ?_ m1
      ⟨0, H10, I10.weak (wipe_length _ _) (fun j v e => (wipe_some e).1), st10, f10, w1⟩
    rintro k s11 ⟨j, H11, I11, st11, f11, w11⟩
    rcases turns1 j k H11 w11 with ⟨stop1, nx⟩ | ⟨go1, Nx1, next1, step1⟩
    · refine thnF (T1.done Y rfl rfl rfl eC j _ s11 _ H11 (fun _ _ => False) I11 f11 st11 stop1) ?_
      rintro r s12 ⟨rfl, I12⟩
      obtain ⟨m', lt, w'⟩ := next _ nx
      obtain ⟨b1, b2, b3⟩ := back _ _ _ I12 (hl.trans (wipe_length _ _).symm) keep2
      exact ⟨rfl, m', lt, i + 1, H11, b1, b2, b3, w'⟩
    · refine turn_in T1 eC I11 st11 f11 go1 (fun u s1 z => thnF z fun _ _ y => y) fun u1 x1 H13 s13 I13 rx1 y1 back1 => ?_
      have b1 := pg1.run _ s13 _ H13 x1 u1 _ I13 rx1 (step1 x1 H13 y1)
      rw [eE] at b1
      refine thnF b1 ?_
      rintro _ s14 ⟨σ14, H14, I14, w14, q14⟩
      obtain ⟨hl1, hkeep1⟩ := wipe_in w14
      have b2 := pk.run _ s14 σ14 H14 _ I14 q14
      rw [eE] at b2
      refine thnF b2 ?_
      rintro ku s15 ⟨yk, H15, I15, r15, q15⟩
      have b3 := pv.run _ s15 σ14 H15 _ I15 q15
      rw [eE] at b3
      refine thnF b3 ?_
      rintro vu s16 ⟨yv, H16, I16, r16, H17, put, nx⟩
      refine put_dict (by rw [eA]; exact hu) I16 put r15 r16 fun s17 I17 => ?_
      obtain ⟨k', lt, w'⟩ := next1 _ nx
      obtain ⟨c1, c2, c3⟩ := back1 _ _ _ I17 hl1 hkeep1
      exact ⟨k', lt, j + 1, H17, c1, c2, c3, w'⟩
end
end KN

namespace KN
open PySem L2 PySem.Spec
open PyProof.Rows hiding St
/-! ### ints of any size: powers -/
/-- i ** j: the result within 2 ^ 27 bits -/
def CPowX (i j : Int) : Prop := 0 ≤ j ∧ (Builtin.Int.intBits i : Int) * j ≤ 2 ^ 27
theorem op_powX {X : Cx} : OpR X (binaryOp .Pow) (rI CPowX fun i j => .int (i ^ j.toNat)) := opI fun _ _ _ _ _ _ _ hc q => pow_int hc.1 hc.2 q
/-! ### set(xs) of a list of ints -/
abbrev noSet (w : World) : Obj := { cls := .type "set", dict := none, data := .set #[] 0 (.fresh 0 0 (!w.params.followText "set-order")) }
section
variable {P : Program} {w : World} {A : Around} {E : Value → Shared → Prop} {s : Shared}
theorem set_of_list {l : Addr} {items : Array Value} (ns : List Int) {Q : Value → Shared → Prop} (hh : A.handled = none) (hl : s.heap.IsList l items) (hit : PyProof.Rows.IntsAre items.toList ns) (hb : ns.length + 1 < scanBound)
    (q : ∀ (h' : Heap) (tk c : Nat), SetR w h' s.heap.objs.size (fun j => decide (j ∈ ns)) c → c ≤ ns.length → (∀ b o, s.heap.get? b = some o → h'.get? b = some o) → Q (.ref s.heap.objs.size) { s with heap := h', toks := tk }) :
    wpAny (model P w) A (call (.type "set") [.ref l]) Q E s := by
  have size : items.size = ns.length := by
    rw [← Array.length_toList]
    exact PyProof.Rows.IntsAre.length hit
  obtain ⟨c, tl, hmro⟩ := F.called_set.mro
  have hmade := F.called_set.made
  have hsub := F.called_set.sub
  refine wpAny_call (codeAny_of_tree ?_)
  show wpAny _ _ (callAny (.type "set") _) _ _ _
  refine wpAny_pure ⟨Code.quiet_builtin _ (by decide +kernel), codeAny_builtin F.entry_type_call ?_⟩
  rw [Around.under_plain (weight_type_call_type "set" [.ref l] []) rfl]
  have h1 := F.called_set.notType
  have h2 := F.called_set.canCreate
  have hct := F.typeCall_set_1 (.ref l)
  repeat (any_goals (first | assumption | wp_step))
  refine codeAny_mono (code_set_led1 (.ref l) (E := E) (Q₁ := fun v s1 => v = .ref s.heap.objs.size ∧ s1 = { s with heap := s.heap.push (noSet w) }) ⟨rfl, rfl⟩) fun r s1 hr => ?_
  cases r with
  | error e => exact hr
  | ok fl =>
    cases fl with
    | ret v =>
      obtain ⟨rfl, rfl⟩ := hr
      have hS : (s.heap.push (noSet w)).get? s.heap.objs.size = some (noSet w) := Heap.get?_push_size _ rfl
      have hT : Shared.TypeIs { s with heap := s.heap.push (noSet w) } (.ref s.heap.objs.size) "set" := ⟨_, hS, rfl⟩
      have hli := F.called_set.init.lookup
      have hbi := F.called_set.init.bind (.ref s.heap.objs.size)
      repeat (any_goals (first | assumption | wp_step))
      refine codeAny_mono (codeAny_call_builtin (R := wants (fun r s2 => r = .none ∧ ∃ h' tk c, s2 = { s with heap := h', toks := tk } ∧ SetR w h' s.heap.objs.size (fun j => decide (j ∈ ns)) c ∧ c ≤ ns.length ∧ ∀ b o, s.heap.get? b = some o → h'.get? b = some o) E)
        F.called_set.init.plain F.entry_set_init (check_set_init_1 hT ?_)) fun r2 s2 hr2 => ?_
      · obtain ⟨⟨ocls, odict, odata, oslots⟩, hol, hcl, nl, hdl⟩ := hl
        simp only at hcl hdl
        subst hcl hdl
        have hol2 : (s.heap.push (noSet w)).get? l = some { cls := .type "list", dict := odict, data := .seq items nl, slots := oslots } := Heap.get?_push_of_some _ hol
        have hsls := F.sub_list_set
        have hslf := F.sub_list_frozenset
        have hne : (Value.type "list" == Value.type "dict") = false := by decide
        have here : (s.heap.push (noSet w)).IsList l items := ⟨_, hol2, rfl, nl, rfl⟩
        unfold Builtin.«set.__init__» noKeywords Builtin.Frozenset.updateFrom
        generalize hPI : pyIter = PI
        wp_walk
        subst hPI
        refine wpAny_pyIter_list here (wpAny_bind (wpAny_runValue ?_))
        have lS : l < s.heap.objs.size := Heap.lt_size hol
        have hh3 : A.in1.in1.in1.handled = none := by simp [hh]
        have big : (s.heap.push (noSet w)).objs.size = s.heap.objs.size + 1 := Heap.size_push ..
        have lI : l ≠ (s.heap.push (noSet w)).objs.size := by rw [big]; exact Nat.ne_of_lt (Nat.lt_succ_of_lt lS)
        have out : s.heap.objs.size ∉ [(s.heap.push (noSet w)).objs.size, l] := by
          rw [big]
          intro z
          rcases List.mem_cons.mp z with z | z
          · exact absurd z (Nat.ne_of_lt (Nat.lt_succ_self _))
          · exact absurd (List.mem_singleton.mp z) (Nat.ne_of_gt lS)
        have each : ∀ (i : Nat) (v : Value), items[i]? = some v → ∃ k t, ns[i]? = some k ∧ v = .int k t := fun i v hv => by
          have hi : i < ns.length := by rw [← size]; exact (Array.getElem?_eq_some_iff.mp hv).1
          obtain ⟨t, e⟩ := PyProof.Rows.IntsAre.int_at hit i v (by rw [Array.getElem?_toList]; exact hv)
          refine ⟨ns[i], t, List.getElem?_eq_getElem hi, ?_⟩
          rw [e, List.getD_eq_getElem?_getD, List.getElem?_eq_getElem hi]
          rfl
        refine set_update_ints ((Walks.list hh3 _ l lI items).toS) s.heap.objs.size out ns size hb each (items.size - 0) 0 _ (by omega) (Nat.zero_le _) ⟨⟨_, Heap.get?_push_size _ rfl, rfl, rfl⟩, here.push _⟩
          ⟨0, Nat.le_refl 0, setR_new_at (Heap.get?_push_of_some _ hS)⟩ ?_
        rintro ⟨h', g2, d', tk', os'⟩ c' moved hc' hS'
        have eg : g2 = s.gens := moved.gens
        have ed : d' = s.drawn := moved.drawn
        have eo : os' = s.os := moved.os
        subst eg ed eo
        show wpAny _ _ _ _ _ _
        refine wpAny_pure ?_
        show wpAny _ _ (ret Value.none) _ _ _
        refine wpAny_pure ⟨rfl, h', tk', c', rfl, hS', by omega, fun b o e => ?_⟩
        have hb0 : b < s.heap.objs.size := Heap.lt_size e
        refine moved.heap b o (fun z => ?_) (Heap.get?_push_of_some _ (Heap.get?_push_of_some _ e))
        rcases List.mem_cons.mp z with z | z
        · exact absurd z (Nat.ne_of_lt hb0)
        · have z := List.mem_singleton.mp z
          rw [big] at z
          exact absurd z (Nat.ne_of_lt (Nat.lt_succ_of_lt hb0))
      · cases r2 with
        | error e => exact hr2
        | ok fl2 =>
          cases fl2 with
          | ret r =>
            obtain ⟨rfl, h', tk, c', rfl, hS', hc', hk'⟩ := hr2
            repeat (any_goals (first | assumption | wp_step))
            exact q _ _ _ hS' hc' hk'
          | _ => exact hr2.elim
    | _ => exact hr.elim
end
/-- set(xs) -/
def rSetL (K : PySem.W.Frag) (w : World) : List V → Hp → VK → Prop := fun xs H Q => ∃ (a : Addr) (ns : List Int), xs = [.ref a] ∧ SqL K H a (ns.map V.int) ∧ ns.length < 60 ∧
  ∀ p c, H p = none → c ≤ ns.length → Q (.ref p) (upd H p (SetO w p (fun j => decide (j ∈ ns)) c))
theorem call_setL {X : Cx} (hc : X.calm = true) : CallR X (.type "set") (rSetL X.K X.w) := by
  rintro pins s σ H xs us Q I r ⟨a, ns, rfl, hq, few, q⟩
  obtain ⟨u, rfl, rx⟩ := vals1 r
  obtain rfl : u = Value.ref a := rx
  obtain ⟨its, rv, pl, _⟩ := I.list hq
  have hsb : (60 : Nat) < scanBound := by decide
  refine set_of_list ns (I.ok.hd hc) pl.isList (by simpa using ints_of_vals rv) (by omega) fun h' tk c hS hcl keeps => ?_
  exact ⟨.ref _, _, I.laid (t' := tk) keeps (Nat.le_refl _) (setO_new hS), rfl, q _ c (I.hok.fresh (Nat.le_refl _)) hcl⟩
end KN

namespace KN
open PySem L2 PySem.Spec
open PyProof.Rows hiding St
/-! ### the text by places -/
def topS (i : Nat) : Stmt := PySem.Challenge.pw_keptnames_k31_whole_few_items_move.main.body.getD i (.Pass ⟨0, 0, 0, 0⟩)
abbrev sRE : Stmt := topS 1
abbrev sBM : Stmt := topS 2
abbrev sGP : Stmt := topS 3
abbrev sCP : Stmt := topS 4
abbrev sRW : Stmt := topS 5
abbrev sLT : Stmt := topS 7
abbrev sWO : Stmt := topS 8
abbrev sTN : Stmt := topS 9
abbrev sTP : Stmt := topS 10
abbrev sET : Stmt := topS 11
abbrev sCV : Stmt := topS 13
abbrev sBC : Stmt := topS 14
abbrev sGV : Stmt := topS 15
abbrev sPO : Stmt := topS 17
abbrev sLO : Stmt := topS 18
abbrev sCT : Stmt := topS 19
abbrev sOT : Stmt := topS 20
abbrev sCO : Stmt := topS 21
abbrev sRI : Stmt := topS 22
abbrev sNW : Stmt := topS 24
abbrev sST : Stmt := topS 26
abbrev sDR : Stmt := topS 27
abbrev sCH : Stmt := topS 28
abbrev sDN : Stmt := topS 29
abbrev sMV : Stmt := topS 30
abbrev sWR : Stmt := topS 31
abbrev sLaw : Stmt := topS 32
/-! ### heaps: all that was tracked is as it was, but at some addresses -/
def Ex (l : List Addr) (H H' : Hp) : Prop := ∀ b o, H b = some o → b ∉ l → H' b = some o
theorem Ex.refl (l : List Addr) (H : Hp) : Ex l H H := fun _ _ h _ => h
theorem Ex.trans {l : List Addr} {H H1 H2 : Hp} (a : Ex l H H1) (b : Ex l H1 H2) : Ex l H H2 := fun c o h n => b c o (a c o h n) n
theorem Ex.mono {l l' : List Addr} {H H' : Hp} (a : Ex l H H') (h : ∀ x ∈ l, x ∈ l') : Ex l' H H' := fun c o e n => a c o e fun z => n (h c z)
theorem Ex.of_same {l : List Addr} {H H' : Hp} (a : Same H H') : Ex l H H' := fun c o h _ => a c o h
theorem Ex.same {H H' : Hp} (a : Ex [] H H') : Same H H' := fun c o h => a c o h (by simp)
theorem Ex.upd_in {l : List Addr} {H : Hp} {a : Addr} {o : HO} (h : a ∈ l) : Ex l H (upd H a o) := fun c u e n => by
  rw [upd_ne fun z => n (by rw [z]; exact h)]
  exact e
theorem Ex.upd_new {l : List Addr} {H : Hp} {a : Addr} {o : HO} (h : H a = none) : Ex l H (upd H a o) := fun c u e _ => by
  rw [upd_ne (ne_of_none e h)]
  exact e
/-- a new object that others may change: whoever looks at the heap of before sees no change -/
theorem Ex.drop {l : List Addr} {H H' : Hp} {a : Addr} (x : Ex (a :: l) H H') (h : H a = none) : Ex l H H' := fun c o e n => x c o e fun z => by
  rcases List.mem_cons.mp z with z | z
  · rw [z, h] at e
    cases e
  · exact n z
theorem Ex.free {l : List Addr} {H H' : Hp} (x : Ex l H H') {a : Addr} (h : H' a = none) (hl : a ∉ l) : H a = none := by
  cases e : H a with
  | none => rfl
  | some o =>
    have := x a o e hl
    rw [h] at this
    cases this
theorem same_new {H : Hp} {p : Addr} {o : HO} (h : H p = none) : Same H (upd H p o) := fun b x e => by
  rw [upd_ne (ne_of_none e h)]
  exact e
/-- a locked object is let go -/
theorem Ex.unlock {l : List Addr} {H H' : Hp} {d : Addr} {od : Obj} {u : HO} (h : H d = some u) (x : Ex l (upd H d (.frz od u)) H') : Ex l H (upd H' d u) := fun b o e n => by
  by_cases hb : b = d
  · subst hb
    rw [upd_same]
    rw [h] at e
    exact e
  · rw [upd_ne hb]
    refine x b o ?_ n
    rw [upd_ne hb]
    exact e
theorem Ex.rd {l : List Addr} {H H' : Hp} (x : Ex l H H') {a : Addr} {u : HO} (h : Rd H a u) (n : a ∉ l) : Rd H' a u := by
  rcases h with h | ⟨o, h⟩
  · exact .inl (x a _ h n)
  · exact .inr ⟨o, x a _ h n⟩
/-! ### ints as loops carry them -/
theorem size1000 {n : Nat} (h : n ≤ 1000) : n ≤ sizeLine := Nat.le_of_lt (small1000 h)
end KN

namespace KN
open PySem L2 PySem.Spec
open PyProof.Rows hiding St
/-! ### the law's draws -/
abbrev strm (d e : Int) : HO := .lst [.int d, .int e]
def spDR : Sp := fun vs H Q _ => ∃ (a : Addr) (size d e : Int), vs = [.ref a, .int size] ∧ H a = some (strm d e) ∧ 0 ≤ d ∧ 0 ≤ e ∧ e < 2 ^ 40 ∧ 0 < size ∧ size < 1000 ∧
  ∀ d' e' r : Int, 0 ≤ d' → 0 ≤ e' → e' < 2 ^ 40 → 0 ≤ r → r < size → Q (.int r) (upd H a (strm d' e'))
section
variable {P : Program} {w : World} {K : PySem.W.Frag} {mg : Str → Option Value} {base : Heap}
theorem scDR : FnScope ["_law_stream_here", "_law_size", "_law_found"] ["_law_stream_here", "_law_size"] (defScope sDR) := ⟨rfl, rfl, rfl, by decide +kernel, rfl, by decide +kernel, by decide +kernel⟩
theorem ok_DR {f : Addr} {fd : FuncData} (F : Fun K "_law_draw" "_law_draw" sDR f fd) : FnOk P w K mg base CX0 1 f fd ["_law_stream_here", "_law_size"] spDR := by
  refine F.ok scDR (fun vs H Q E h => ?_) (fun cdv A outer s H vs Q E hr h => ?_)
  · obtain ⟨a, size, d, e, rfl, _⟩ := h
    rfl
  · obtain ⟨a, size, d, e, rfl, ha, d0, e0, e1, s0, s1, q⟩ := h
    refine ⟨_, pss_cons (ps_if (pt_cmpR op_ge (pe_ix ix_list (pv 0) pe_int (fun _ _ => rfl)) (pv 1) (nomark _))
        (pss_cons (ps_set (i := 2) scDR.nd rfl (.inl rfl) (pe_op op_mod (pe_ix ix_list (pv 0) pe_int (fun _ _ => rfl)) (pv 1)))
        (pss_cons (ps_asg (pe_op op_fdiv (pe_ix ix_list (pv 0) pe_int (fun _ _ => rfl)) (pv 1)) (pg_sub (pv 0) pe_int set_list))
        (pss_one (ps_ret (pv 2))))) pss_nil)
      (pss_cons (ps_asg (pe_op op_mod (pe_op op_add (pe_op op_mul (pe_ix ix_list (pv 0) pe_int (fun _ _ => rfl)) pe_int) pe_int) pe_int) (pg_sub (pv 0) pe_int set_list))
      (pss_one (ps_ret (pe_op op_mod (pe_op op_fdiv (pe_op op_mod (pe_op op_pow (pe_op op_mod (pe_op op_pow (pe_ix ix_list (pv 0) pe_int (fun _ _ => rfl)) pe_int) pe_int) pe_int) pe_int) pe_int) (pv 1))))), ?_⟩
    have g0 : atI [V.int d, V.int e] 0 = some (.int d) := rfl
    have g1 : atI [V.int d, V.int e] 1 = some (.int e) := rfl
    refine ⟨.ref a, rfl, a, _, 0, _, rfl, rfl, SqL.of ha, g0, .int size, rfl, d, size, rfl, rfl, _, rfl, ite2 (fun c => ?_) (fun c => ?_)⟩
    · have c : size ≤ d := of_decide_eq_true c
      refine ⟨.ref a, rfl, a, _, 0, _, rfl, rfl, SqL.of ha, g0, .int size, rfl, d, size, rfl, rfl, s0, ?_⟩
      refine ⟨.ref a, rfl, a, _, 0, _, rfl, rfl, SqL.of ha, g0, .int size, rfl, d, size, rfl, rfl, ⟨s0, by omega⟩, ?_⟩
      refine ⟨.ref a, rfl, a, _, 0, 0, rfl, rfl, ha, rfl, ?_⟩
      refine ⟨_, rfl, ?_⟩
      exact q (d / size) e (d % size) (Int.ediv_nonneg d0 (by omega)) e0 e1 (Int.emod_nonneg _ (by omega)) (Int.emod_lt_of_pos _ s0)
    · refine ⟨.ref a, rfl, a, _, 1, _, rfl, rfl, SqL.of ha, g1, e, 48271, rfl, rfl, .inl ⟨by omega, by omega⟩, _, _, rfl, rfl, _, _, rfl, rfl, (by show (0 : Int) < 2147483647; decide), ?_⟩
      have n0 := Int.emod_nonneg (e * 48271 + 12345) (show (2147483647 : Int) ≠ 0 by decide)
      have n1 := Int.emod_lt_of_pos (e * 48271 + 12345) (show (0 : Int) < 2147483647 by decide)
      refine ⟨.ref a, rfl, a, _, 1, 1, rfl, rfl, ha, rfl, ?_⟩
      have m0 := Int.emod_nonneg (((e * 48271 + 12345) % 2147483647) ^ (3 : Int).toNat) (show (2147483629 : Int) ≠ 0 by decide)
      have m1 := Int.emod_lt_of_pos (((e * 48271 + 12345) % 2147483647) ^ (3 : Int).toNat) (show (0 : Int) < 2147483629 by decide)
      refine ⟨.ref a, rfl, a, _, 1, _, rfl, rfl, SqL.of upd_same, rfl, _, 3, rfl, rfl, ⟨by decide, by decide, by omega⟩, _, _, rfl, rfl, (by show (0 : Int) < 2147483629; decide), ?_⟩
      refine ⟨_, 5, rfl, rfl, ⟨by decide, by decide, by omega⟩, _, _, rfl, rfl, (by show (0 : Int) < 1000000007; decide), _, _, rfl, rfl, ⟨by decide, by decide⟩, .int size, rfl, _, _, rfl, rfl, s0, ?_⟩
      exact q d _ _ d0 n0 (by omega) (Int.emod_nonneg _ (by omega)) (Int.emod_lt_of_pos _ s0)
end
end KN

namespace KN
open PySem L2 PySem.Spec
open PyProof.Rows hiding St
def spCH : Sp := fun vs H Q _ => ∃ (a l : Addr) (xs : List V) (d e : Int), vs = [.ref a, .ref l] ∧ H a = some (strm d e) ∧ 0 ≤ d ∧ 0 ≤ e ∧ e < 2 ^ 40 ∧ H l = some (.lst xs) ∧ l ≠ a ∧ 0 < xs.length ∧ xs.length < 1000 ∧
  ∀ (d' e' : Int) (i : Nat) (y : V), 0 ≤ d' → 0 ≤ e' → e' < 2 ^ 40 → xs[i]? = some y → Q y (upd H a (strm d' e'))
section
variable {P : Program} {w : World} {K : PySem.W.Frag} {mg : Str → Option Value} {base : Heap}
theorem scCH : FnScope ["_law_stream_here", "_law_items"] ["_law_stream_here", "_law_items"] (defScope sCH) := ⟨rfl, rfl, rfl, by decide +kernel, rfl, by decide +kernel, by decide +kernel⟩
theorem ok_CH {f fD : Addr} {fd fdD : FuncData} (F : Fun K "_law_choose" "_law_choose" sCH f fd) (FD : Fun K "_law_draw" "_law_draw" sDR fD fdD) (bD : Binds K fdD ["_law_stream_here", "_law_size"] []) (gD : mg "_law_draw" = some (.ref fD)) (ml : mg "len" = none) :
    FnOk P w K mg base CX0 2 f fd ["_law_stream_here", "_law_items"] spCH := by
  have G : FnOk P w K mg base CX0 1 fD fdD ["_law_stream_here", "_law_size"] spDR := ok_DR FD
  refine F.ok scCH (fun vs H Q E h => ?_) (fun cdv A outer s H vs Q E hr h => ?_)
  · obtain ⟨a, l, xs, d, e, rfl, _⟩ := h
    rfl
  · obtain ⟨a, l, xs, d, e, rfl, ha, d0, e0, e1, hl, ne, n0, n1, q⟩ := h
    refine ⟨_, pss_one (ps_ret (pe_ix ix_list (pv 1) (pe_call G hr (by rfl) gD FD.kp bD .nil pass0 (pa_cons (pv 0) (pa_cons (pe_callB call_len_seq (by rfl) ml PySem.boot_len (pa_cons (pv 1) pa_nil)) pa_nil))) (fun _ _ => rfl))), ?_⟩
    refine ⟨.ref l, rfl, .ref a, rfl, .ref l, rfl, l, xs, rfl, .inl (SqL.of hl), a, xs.length, d, e, rfl, ha, d0, e0, e1, by omega, by omega, fun d' e' r h1 h2 h3 h4 h5 => ?_⟩
    obtain ⟨i, rfl⟩ := Int.eq_ofNat_of_zero_le h4
    have hi : i < xs.length := by omega
    refine ⟨l, xs, i, xs[i], rfl, rfl, SqL.of (by rw [upd_ne ne]; exact hl), atI_nat (List.getElem?_eq_getElem hi), ?_⟩
    exact q d' e' i _ h1 h2 h3 (List.getElem?_eq_getElem hi)
end
def spST (K : PySem.W.Frag) : Sp := fun vs H Q _ => ∃ (a : Addr) (k : Nat) (ns : List Int), vs = [.ref a, .int k] ∧ SqL K H a (ns.map V.int) ∧ ns.length ≤ 63 ∧ (∀ n ∈ ns, Builtin.Int.intBits n ≤ 1048576) ∧ k < 100 ∧
  ∀ (p : Addr) (d e : Int), H p = none → 0 ≤ d → 0 ≤ e → e < 2 ^ 40 → Q (.ref p) (upd H p (strm d e))
section
variable {P : Program} {w : World} {K : PySem.W.Frag} {mg : Str → Option Value} {base : Heap}
theorem scST : FnScope ["_law_script", "_law_start", "_law_seed", "_law_number", "_law_digits"] ["_law_script", "_law_start"] (defScope sST) := ⟨rfl, rfl, rfl, by decide +kernel, rfl, by decide +kernel, by decide +kernel⟩
theorem two_le {x y : V} : [x, y].length ≤ sizeLine := by
  show 2 ≤ sizeLine
  decide
theorem cube_ok {x n : Int} (hx : 0 ≤ x) (hx1 : x < 2 ^ 40) (hn : Builtin.Int.intBits n ≤ 1048576) : CPowX (x * 40127 + n) 3 := by
  refine ⟨by decide, ?_⟩
  have h1 : Builtin.Int.intBits (x * 40127) ≤ 56 := PySem.intBits_le_iff.mpr (by
    have e : (2 : Nat) ^ 56 = 72057594037927936 := by decide
    rw [e]
    omega)
  have h2 := PySem.intBits_add_le h1 hn
  have e : max 56 1048576 + 1 = 1048577 := by decide
  rw [e] at h2
  omega
theorem ok_ST {f : Addr} {fd : FuncData} (F : Fun K "_law_stream" "_law_stream" sST f fd) (ml : mg "len" = none) : FnOk P w K mg base CX0 1 f fd ["_law_script", "_law_start"] (spST K) := by
  refine F.ok scST (fun vs H Q E h => ?_) (fun cdv A outer s H vs Q E hr h => ?_)
  · obtain ⟨a, k, ns, rfl, _⟩ := h
    rfl
  · obtain ⟨a, k, ns, rfl, ha, len, bits, hk, q⟩ := h
    refine ⟨_, pss_cons (ps_set (i := 2) scST.nd rfl (.inl rfl) (pe_op op_add pe_int (pv 1)))
      (pss_cons (ps_for PassesOwn.never rfl (pi_list (pv 0)) (pg_name (i := 3) scST.nd rfl (.inl rfl))
        (pss_one (ps_set (i := 2) scST.nd rfl (.inl rfl) (pe_op op_add (pe_op op_mod (pe_op op_powX (pe_op op_add (pe_op op_mul (pv 2) pe_int) (pv 3)) pe_int) pe_int) pe_int))))
      (pss_cons (ps_set (i := 4) scST.nd rfl (.inl rfl) pe_int)
      (pss_cons (ps_if (PW.pt (pw_and (pt_cmpR op_lt (pv 1) (pe_callB call_len_seq (by rfl) ml PySem.boot_len (pa_cons (pv 0) pa_nil)) (nomark _)) (pw_and1 (pt_cmpR op_ge (pe_ix ix_list (pv 0) (pv 1) (fun _ _ => rfl)) (pe_op op_pow pe_int pe_int) (nomark _)))))
        (pss_one (ps_set (i := 4) scST.nd rfl (.inl rfl) (pe_op op_sub (pe_ix ix_list (pv 0) (pv 1) (fun _ _ => rfl)) (pe_op op_pow pe_int pe_int)))) pss_nil)
      (pss_one (ps_ret (pe_lst (pa_cons (pv 4) (pa_cons (pv 2) pa_nil)))))))), ?_⟩
    refine ⟨_, rfl, _, _, rfl, rfl, ?_⟩
    refine ⟨_, rfl, a, rfl, ⟨_, ha⟩, for_list (K := K) (a := a) (xs := ns.map V.int) (fun i σ H' => H' = H ∧ ∃ (x : Int) (v : Option V), σ = [some (.ref a), some (.int k), some (.int x), v, none] ∧ 0 ≤ x ∧ x < 2 ^ 40)
      ⟨rfl, _, none, rfl, ?_, ?_⟩ (fun i σ H' _ ⟨e, _⟩ => e ▸ ha) ?_ ?_⟩
    · show (0 : Int) ≤ 19 + k
      omega
    · show (19 : Int) + k < 2 ^ 40
      omega
    · rintro i y σ H' hi ⟨rfl, x, v, rfl, x0, x1⟩
      obtain ⟨n, hn, rfl⟩ : ∃ n, ns[i]? = some n ∧ y = V.int n := by
        rw [List.getElem?_map] at hi
        obtain ⟨n, h1, h2⟩ := Option.map_eq_some_iff.mp hi
        exact ⟨n, h1, h2.symm⟩
      have nb := bits n (List.mem_of_getElem? hn)
      refine ⟨_, rfl, _, _, rfl, rfl, .inl ⟨by omega, by omega⟩, _, rfl, _, _, rfl, rfl, _, 3, rfl, rfl, cube_ok x0 x1 nb, _, _, rfl, rfl, (by show (0 : Int) < 2147483629; decide), _, _, rfl, rfl, ?_⟩
      have m0 := Int.emod_nonneg ((x * 40127 + n) ^ (3 : Int).toNat) (show (2147483629 : Int) ≠ 0 by decide)
      have m1 := Int.emod_lt_of_pos ((x * 40127 + n) ^ (3 : Int).toNat) (show (0 : Int) < 2147483629 by decide)
      refine ⟨rfl, _, _, rfl, ?_, ?_⟩
      · show (0 : Int) ≤ (x * 40127 + n) ^ (3 : Int).toNat % 2147483629 + 1
        omega
      · show (x * 40127 + n) ^ (3 : Int).toNat % 2147483629 + 1 < (2 : Int) ^ 40
        omega
    · rintro σ H' ⟨rfl, x, v, rfl, x0, x1⟩
      -- _law_digits = 0
      have last : ∀ d : Int, 0 ≤ d → ∀ (v : Option V), ∀ p, H' p = none → Q (.ref p) (upd H' p (.lst [.int d, .int x])) := fun d d0 v p hp => q p d x hp d0 x0 x1
      refine ⟨_, rfl, _, rfl, a, _, rfl, .inl ha, k, _, rfl, rfl, _, rfl, ite2 (fun c => ?_) (fun c => ?_)⟩
      · have c : (k : Int) < ((ns.map V.int).length : Nat) := of_decide_eq_true c
        rw [List.length_map] at c
        have hk2 : k < ns.length := by omega
        have gk : (ns.map V.int)[k]? = some (.int ns[k]) := by
          rw [List.getElem?_map, List.getElem?_eq_getElem hk2]
          rfl
        refine ⟨_, rfl, _, rfl, a, _, _, _, rfl, rfl, ha, atI_nat gk, 10, 18, rfl, rfl, ⟨by decide, by decide, by decide⟩, _, _, rfl, rfl, _, rfl, ite2 (fun c2 => ?_) (fun c2 => ?_)⟩
        · have c2 := of_decide_eq_true c2
          refine ⟨_, rfl, _, rfl, a, _, _, _, rfl, rfl, ha, atI_nat gk, 10, 18, rfl, rfl, ⟨by decide, by decide, by decide⟩, _, _, rfl, rfl, ?_⟩
          refine ⟨_, rfl, _, rfl, two_le, ?_⟩
          exact last _ (by omega) none
        · refine ⟨_, rfl, _, rfl, two_le, ?_⟩
          exact last 0 (Int.le_refl _) none
      · refine ⟨_, rfl, _, rfl, two_le, ?_⟩
        exact last 0 (Int.le_refl _) none
end
end KN

namespace KN
open PySem L2 PySem.Spec
open PyProof.Rows hiding St
/-! ### plain tables as they stand in a dict -/
section
variable {α β κ : Type} [DecidableEq α] [DecidableEq κ]
def emb (ke : α → κ) (ve : β → V) (L : List (α × β)) : List (κ × V) := L.map fun x => (ke x.1, ve x.2)
variable {ke : α → κ} {ve : β → V} {L : List (α × β)} {a : α} {b : β}
theorem emb_length : (emb ke ve L).length = L.length := List.length_map ..
theorem emb_keys : (emb ke ve L).map (·.1) = (keys L).map ke := by simp [emb, List.map_map, Function.comp_def]
theorem emb_get {i : Nat} (h : L[i]? = some (a, b)) : (emb ke ve L)[i]? = some (ke a, ve b) := by simp [emb, h]
theorem emb_val (hk : ∀ x y, ke x = ke y → x = y) : valV (emb ke ve L) (ke a) = (look L a).map ve := by
  induction L with
  | nil => rfl
  | cons x r ih =>
    by_cases e : x.1 = a
    · have h1 : ke x.1 = ke a := by rw [e]
      show valV ((ke x.1, ve x.2) :: emb ke ve r) (ke a) = _
      rw [valV_pos (p := (ke x.1, ve x.2)) h1]
      simp [look, e]
    · have h1 : ¬ ke x.1 = ke a := fun z => e (hk _ _ z)
      show valV ((ke x.1, ve x.2) :: emb ke ve r) (ke a) = _
      rw [valV_neg (p := (ke x.1, ve x.2)) h1, ih]
      simp [look, e]
theorem emb_val_other {k : κ} (h : ∀ x, ke x ≠ k) : valV (emb ke ve L) k = none := by
  induction L with
  | nil => rfl
  | cons x r ih =>
    show valV ((ke x.1, ve x.2) :: emb ke ve r) k = _
    rw [valV_neg (p := (ke x.1, ve x.2)) (h x.1), ih]
theorem emb_put (hk : ∀ x y, ke x = ke y → x = y) (hn : (keys L).Nodup) : putK (emb ke ve L) (ke a) (ve b) = emb ke ve (put L a b) := by
  by_cases ha : a ∈ keys L
  · have any : ((emb ke ve L).any fun kv => decide (kv.1 = ke a)) = true := by
      rw [valV_any, emb_val hk]
      obtain ⟨y, hy⟩ := look_some_of_key ha
      rw [hy]
      rfl
    unfold putK
    rw [if_pos any]
    clear any
    induction L with
    | nil => simp at ha
    | cons x r ih =>
      have hn' := List.nodup_cons.mp (show (x.1 :: keys r).Nodup from hn)
      by_cases e : x.1 = a
      · have rest : ∀ y ∈ r, ¬ ke y.1 = ke a := fun y hy z => hn'.1 (by
          rw [e, ← hk _ _ z]
          exact List.mem_map.mpr ⟨y, hy, rfl⟩)
        show (if ke x.1 = ke a then (ke x.1, ve b) else (ke x.1, ve x.2)) :: (emb ke ve r).map _ = emb ke ve (put (x :: r) a b)
        rw [if_pos (by rw [e])]
        have h2 : (emb ke ve r).map (fun kv => if kv.1 = ke a then (kv.1, ve b) else kv) = emb ke ve r := by
          refine (List.map_congr_left fun p hp => ?_).trans (List.map_id _)
          obtain ⟨y, hy, rfl⟩ := List.mem_map.mp hp
          exact if_neg (rest y hy)
        rw [h2]
        simp [put, e, emb]
      · have ha' : a ∈ keys r := by
          rcases List.mem_cons.mp ha with q | q
          · exact absurd q.symm e
          · exact q
        show (if ke x.1 = ke a then (ke x.1, ve b) else (ke x.1, ve x.2)) :: (emb ke ve r).map _ = emb ke ve (put (x :: r) a b)
        rw [if_neg fun z => e (hk _ _ z), ih hn'.2 ha']
        simp [put, e, emb]
  · rw [putK_new (ve b) (by rw [emb_val hk, look_none.mpr ha]; rfl), keys_put_new b ha]
    simp [emb]
theorem emb_del (hk : ∀ x y, ke x = ke y → x = y) : dropK (emb ke ve L) (ke a) = emb ke ve (del L a) := by
  induction L with
  | nil => rfl
  | cons x r ih =>
    show dropK ((ke x.1, ve x.2) :: emb ke ve r) (ke a) = _
    by_cases e : x.1 = a
    · rw [dropK_pos (p := (ke x.1, ve x.2)) (by rw [e]), ih]
      simp [del, e]
    · rw [dropK_neg (p := (ke x.1, ve x.2)) fun z => e (hk _ _ z), ih]
      simp [del, e, emb]
end
abbrev kS : Str → Key := Sum.inr
abbrev kI : Int → Key := Sum.inl
theorem kS_inj : ∀ x y : Str, kS x = kS y → x = y := fun _ _ h => Sum.inr.inj h
theorem kI_inj : ∀ x y : Int, kI x = kI y → x = y := fun _ _ h => Sum.inl.inj h
theorem kP_inj : ∀ x y : Str × Int, pairK x = pairK y → x = y := fun _ _ h => pairK_inj h
/-- dicts by the kinds of their keys and values -/
abbrev dSI (L : List (Str × Int)) : HO := .dK (emb kS V.int L)
abbrev dIS (L : List (Int × Str)) : HO := .dK (emb kI V.str L)
abbrev dII (L : List (Int × Int)) : HO := .dK (emb kI V.int L)
abbrev dSR (L : List (Str × Addr)) : HO := .dK (emb kS V.ref L)
abbrev dT (L : List ((Str × Int) × Int)) : HO := .dT (emb pairK V.int L)
abbrev tupP (p : Str × Int) : HO := .tup [.str p.1, .int p.2]
section
variable {H : Hp} {a : Addr} {α β : Type} [DecidableEq α] {ve : β → V}
theorem get_S {L : List (Str × β)} {k : Str} {o : Option V} (h : Rd H a (.dK (emb kS ve L))) (e : (look L k).map ve = o) : DGet H a (.str k) o := .inl ⟨_, .inr k, h, rfl, by rw [← e]; exact (emb_val kS_inj).symm⟩
theorem get_I {L : List (Int × β)} {k : Int} {o : Option V} (h : Rd H a (.dK (emb kI ve L))) (e : (look L k).map ve = o) : DGet H a (.int k) o := .inl ⟨_, .inl k, h, rfl, by rw [← e]; exact (emb_val kI_inj).symm⟩
theorem get_T {L : List ((Str × Int) × Int)} {p : Str × Int} {b : Addr} {o : Option V} (h : Rd H a (dT L)) (hb : H b = some (tupP p)) (e : (look L p).map V.int = o) : DGet H a (.ref b) o :=
  .inr ⟨_, pairK p, b, h, rfl, hb, by rw [← e]; exact (emb_val kP_inj).symm⟩
theorem put_S {L : List (Str × β)} {k : Str} {v : β} {H' : Hp} (h : H a = some (.dK (emb kS ve L))) (hn : (keys L).Nodup) (hl : L.length < sizeLine) (e : H' = upd H a (.dK (emb kS ve (put L k v)))) : DPut H a (.str k) (ve v) H' :=
  .inl ⟨_, .inr k, h, rfl, by rw [emb_length]; exact hl, by rw [e, ← emb_put kS_inj hn]⟩
theorem put_I {L : List (Int × β)} {k : Int} {v : β} {H' : Hp} (h : H a = some (.dK (emb kI ve L))) (hn : (keys L).Nodup) (hl : L.length < sizeLine) (e : H' = upd H a (.dK (emb kI ve (put L k v)))) : DPut H a (.int k) (ve v) H' :=
  .inl ⟨_, .inl k, h, rfl, by rw [emb_length]; exact hl, by rw [e, ← emb_put kI_inj hn]⟩
theorem put_T {L : List ((Str × Int) × Int)} {p : Str × Int} {v : Int} {b : Addr} {H' : Hp} (h : H a = some (dT L)) (hb : H b = some (tupP p)) (hn : (keys L).Nodup) (hl : L.length < sizeLine) (e : H' = upd H a (dT (put L p v))) : DPut H a (.ref b) (.int v) H' :=
  .inr ⟨_, pairK p, b, h, rfl, hb, by rw [emb_length]; exact hl, by
    rw [e]
    refine congrArg (fun z => upd H a (.dT z)) ?_
    refine Eq.trans (emb_put (ke := pairK) (ve := V.int) (a := p) (b := v) kP_inj hn).symm ?_
    congr⟩
end
/-! ### walks -/
section
variable {d : Addr} {o : Obj}
theorem walk_pairs {kvs : List (List Key × V)} : Walk (Itp d o kvs) kvs.length (fun H => H d = some (.frz o (.dT kvs)))
    (fun i H x H' => ∃ T k v q, kvs[i]? = some (k, v) ∧ x = .ref T ∧ H T = none ∧ H q = some (.tup (k.map kV)) ∧ H' = upd H T (.tup [.ref q, v])) :=
  ⟨fun _ _ hi q => ⟨q, hi⟩, fun _ q => ⟨q, Nat.le_refl _⟩, fun _ _ _ _ _ _ y => y⟩
theorem dg_it {J : It} {n : Nat} {G : Hp → Prop} {Y : Nat → Hp → V → Hp → Prop} (w : Walk J n G Y) {o0 : HO} {g : TG} {tt : TT} {tk tv : TE} {vs : List Nat} {σ : St} {H1 : Hp} {D : Addr} {Qd : Hp → Prop} (Pv : Nat → Hp → Prop) (h0 : Pv 0 (upd H1 D o0)) (hG : ∀ i H, i ≤ n → Pv i H → G H)
    (hs : ∀ i x H H', i < n → Pv i H → Y i H x H' → g x (wipe σ vs) H' fun σ2 H2 => wipe σ2 vs = wipe σ vs ∧ tt σ2 H2 fun b H3 =>
      if b = true then tk σ2 H3 fun y H4 => tv σ2 H4 fun z H5 => ∃ H6, DPut H5 D y z H6 ∧ Pv (i + 1) H6 else Pv (i + 1) H3) (hd : ∀ H, Pv n H → Qd H) :
    ∃ W : Nat → Nat → Hp → Prop, (∃ m, W 0 m (upd H1 D o0)) ∧ ∀ i m H, W i m H → (J.stop i H ∧ Qd H) ∨ (J.go i H ∧ ∃ Nx : Hp → Prop, (∀ H', Nx H' → ∃ m', m' < m ∧ W (i + 1) m' H') ∧
      ∀ x H', J.yld i H x H' → g x (wipe σ vs) H' fun σ2 H2 => wipe σ2 vs = wipe σ vs ∧ tt σ2 H2 fun b H3 => if b = true then tk σ2 H3 fun y H4 => tv σ2 H4 fun z H5 => ∃ H6, DPut H5 D y z H6 ∧ Nx H6 else Nx H3) := by
  refine ⟨fun i m H => m = n - i ∧ i ≤ n ∧ Pv i H, ⟨n, rfl, Nat.zero_le _, h0⟩, ?_⟩
  rintro i m H ⟨rfl, hi, p⟩
  by_cases hlt : i < n
  · exact .inr ⟨w.goes i H hlt (hG i H hi p), Pv (i + 1), fun H' p' => ⟨n - (i + 1), by omega, rfl, hlt, p'⟩, fun x H' y => hs i x H H' hlt p (w.yields i H x H' hlt (hG i H hi p) y)⟩
  · obtain rfl : i = n := by omega
    exact .inl ⟨w.stops H (hG i H hi p), hd H p⟩
theorem dg2_it {J : It} {n : Nat} {G : Hp → Prop} {Y : Nat → Hp → V → Hp → Prop} (w : Walk J n G Y) {g g1 : TG} {wi1 : TI} {tk tv : TE} {vs vs1 : List Nat} {σ : St} {H1 : Hp} {D : Addr} {Qd : Hp → Prop} (Pv : Nat → Hp → Prop) (h0 : Pv 0 (upd H1 D (.dK []))) (hG : ∀ i H, i ≤ n → Pv i H → G H)
    (hs : ∀ i x H H', i < n → Pv i H → Y i H x H' → g x (wipe σ vs) H' fun σ2 H2 => wipe σ2 vs = wipe σ vs ∧
      wi1 σ2 H2 fun J1 H4 => ∃ W1 : Nat → Nat → Hp → Prop, (∃ m, W1 0 m H4) ∧ ∀ j k H, W1 j k H → (J1.stop j H ∧ Pv (i + 1) H) ∨ (J1.go j H ∧ ∃ Nx1 : Hp → Prop, (∀ H', Nx1 H' → ∃ k', k' < k ∧ W1 (j + 1) k' H') ∧
        ∀ x H', J1.yld j H x H' → g1 x (wipe σ2 vs1) H' fun σ3 H5 => wipe σ3 vs1 = wipe σ2 vs1 ∧ tk σ3 H5 fun y H7 => tv σ3 H7 fun z H8 => ∃ H9, DPut H8 D y z H9 ∧ Nx1 H9)) (hd : ∀ H, Pv n H → Qd H) :
    ∃ W : Nat → Nat → Hp → Prop, (∃ m, W 0 m (upd H1 D (.dK []))) ∧ ∀ i m H, W i m H → (J.stop i H ∧ Qd H) ∨ (J.go i H ∧ ∃ Nx : Hp → Prop, (∀ H', Nx H' → ∃ m', m' < m ∧ W (i + 1) m' H') ∧
      ∀ x H', J.yld i H x H' → g x (wipe σ vs) H' fun σ2 H2 => wipe σ2 vs = wipe σ vs ∧
      wi1 σ2 H2 fun J1 H4 => ∃ W1 : Nat → Nat → Hp → Prop, (∃ m, W1 0 m H4) ∧ ∀ j k H, W1 j k H → (J1.stop j H ∧ Nx H) ∨ (J1.go j H ∧ ∃ Nx1 : Hp → Prop, (∀ H', Nx1 H' → ∃ k', k' < k ∧ W1 (j + 1) k' H') ∧
        ∀ x H', J1.yld j H x H' → g1 x (wipe σ2 vs1) H' fun σ3 H5 => wipe σ3 vs1 = wipe σ2 vs1 ∧ tk σ3 H5 fun y H7 => tv σ3 H7 fun z H8 => ∃ H9, DPut H8 D y z H9 ∧ Nx1 H9)) := by
  refine ⟨fun i m H => m = n - i ∧ i ≤ n ∧ Pv i H, ⟨n, rfl, Nat.zero_le _, h0⟩, ?_⟩
  rintro i m H ⟨rfl, hi, p⟩
  by_cases hlt : i < n
  · exact .inr ⟨w.goes i H hlt (hG i H hi p), Pv (i + 1), fun H' p' => ⟨n - (i + 1), by omega, rfl, hlt, p'⟩, fun x H' y => hs i x H H' hlt p (w.yields i H x H' hlt (hG i H hi p) y)⟩
  · obtain rfl : i = n := by omega
    exact .inl ⟨w.stops H (hG i H hi p), hd H p⟩
/-- the inner walk of two -/
theorem in_it {J : It} {n : Nat} {G : Hp → Prop} {Y : Nat → Hp → V → Hp → Prop} (w : Walk J n G Y) {g : TG} {tk tv : TE} {vs : List Nat} {σ : St} {H1 : Hp} {D : Addr} {Qd : Hp → Prop} (Pv : Nat → Hp → Prop) (h0 : Pv 0 H1) (hG : ∀ i H, i ≤ n → Pv i H → G H)
    (hs : ∀ i x H H', i < n → Pv i H → Y i H x H' → g x (wipe σ vs) H' fun σ2 H2 => wipe σ2 vs = wipe σ vs ∧ tk σ2 H2 fun y H4 => tv σ2 H4 fun z H5 => ∃ H6, DPut H5 D y z H6 ∧ Pv (i + 1) H6) (hd : ∀ H, Pv n H → Qd H) :
    ∃ W : Nat → Nat → Hp → Prop, (∃ m, W 0 m H1) ∧ ∀ i m H, W i m H → (J.stop i H ∧ Qd H) ∨ (J.go i H ∧ ∃ Nx : Hp → Prop, (∀ H', Nx H' → ∃ m', m' < m ∧ W (i + 1) m' H') ∧
      ∀ x H', J.yld i H x H' → g x (wipe σ vs) H' fun σ2 H2 => wipe σ2 vs = wipe σ vs ∧ tk σ2 H2 fun y H4 => tv σ2 H4 fun z H5 => ∃ H6, DPut H5 D y z H6 ∧ Nx H6) := by
  refine ⟨fun i m H => m = n - i ∧ i ≤ n ∧ Pv i H, ⟨n, rfl, Nat.zero_le _, h0⟩, ?_⟩
  rintro i m H ⟨rfl, hi, p⟩
  by_cases hlt : i < n
  · exact .inr ⟨w.goes i H hlt (hG i H hi p), Pv (i + 1), fun H' p' => ⟨n - (i + 1), by omega, rfl, hlt, p'⟩, fun x H' y => hs i x H H' hlt p (w.yields i H x H' hlt (hG i H hi p) y)⟩
  · obtain rfl : i = n := by omega
    exact .inl ⟨w.stops H (hG i H hi p), hd H p⟩
end
end KN

namespace KN
open PySem L2 PySem.Spec
open PyProof.Rows hiding St
/-! ### what a table is -/
structure TabAt (H : Hp) (a : Addr) (T : List ((Str × Int) × Int)) : Prop where
  at_ : H a = some (dT T)
  nk : (keys T).Nodup
  len : T.length < 60
theorem TabAt.ex {H H' : Hp} {a : Addr} {T : List ((Str × Int) × Int)} {l : List Addr} (t : TabAt H a T) (x : Ex l H H') (n : a ∉ l) : TabAt H' a T := ⟨x a _ t.at_ n, t.nk, t.len⟩
theorem mutT {T : List ((Str × Int) × Int)} : Mut (some (dT T)) := True.intro
theorem mutK {κ : List (Key × V)} : Mut (some (.dK κ)) := True.intro
/-- the walk of the keys of a table -/
theorem keyT {T : List ((Str × Int) × Int)} {i : Nat} {k : List Key} {v : V} (h : (emb pairK V.int T)[i]? = some (k, v)) : ∃ (p : Str × Int) (x : Int), T[i]? = some (p, x) ∧ k = pairK p ∧ v = .int x := by
  unfold emb at h
  rw [List.getElem?_map] at h
  obtain ⟨⟨p, x⟩, h1, h2⟩ := Option.map_eq_some_iff.mp h
  cases h2
  exact ⟨p, x, h1, rfl, rfl⟩
theorem keyK {α β : Type} {ke : α → Key} {ve : β → V} {L : List (α × β)} {i : Nat} {k : Key} {v : V} (h : (emb ke ve L)[i]? = some (k, v)) : ∃ (p : α) (x : β), L[i]? = some (p, x) ∧ k = ke p ∧ v = ve x := by
  unfold emb at h
  rw [List.getElem?_map] at h
  obtain ⟨⟨p, x⟩, h1, h2⟩ := Option.map_eq_some_iff.mp h
  cases h2
  exact ⟨p, x, h1, rfl, rfl⟩
theorem pairK_tup {p : Str × Int} : HO.tup ((pairK p).map kV) = tupP p := rfl
/-- the first n of a table's keys, as some dict of their parts holds them -/
theorem mem_take_succ {α : Type} {l : List α} {i : Nat} {x y : α} (h : l[i]? = some x) : y ∈ l.take (i + 1) ↔ y ∈ l.take i ∨ y = x := by
  have hi : i < l.length := (List.getElem?_eq_some_iff.mp h).1
  have e : l[i] = x := (List.getElem?_eq_some_iff.mp h).2
  rw [List.take_add_one, h]
  simp
theorem keys_take {α β : Type} {L : List (α × β)} : (keys L).take L.length = keys L := List.take_of_length_le (by simp [keys])
section
variable {P : Program} {w : World} {K : PySem.W.Frag} {mg : Str → Option Value} {base : Heap}
def spTN : Sp := fun vs H Q _ => ∃ (a : Addr) (T : List ((Str × Int) × Int)), vs = [.ref a] ∧ TabAt H a T ∧
  ∀ (p : Addr) (H' : Hp) (ns : List Str), Ex [] H H' → H p = none → H' p = some (.lst (ns.map V.str)) → ns.Nodup → (∀ r, r ∈ ns ↔ ∃ c, (r, c) ∈ keys T) → Q (.ref p) H'
theorem scTN : FnScope ["table", "name", "place"] ["table"] (defScope sTN) := ⟨rfl, rfl, rfl, by decide +kernel, rfl, by decide +kernel, by decide +kernel⟩
theorem ok_TN {f : Addr} {fd : FuncData} (F : Fun K "table_names" "table_names" sTN f fd) (ms : mg "sorted" = none) : FnOk P w K mg base CX0 1 f fd ["table"] spTN := by
  refine F.ok scTN (fun vs H Q E h => ?_) (fun cdv A outer s H vs Q E hr h => ?_)
  · obtain ⟨a, T, rfl, _⟩ := h
    rfl
  · obtain ⟨a, T, rfl, ta, q⟩ := h
    refine ⟨_, pss_one (ps_ret (pe_lock (pe_callB (call_sortedD rfl) (by rfl) ms PyProof.Rows.boot_sorted (pa_cons
      (pe_dg (own := [("name", 1), ("place", 2)]) (g := gTup K 2 (gCons (gName 1) (gCons (gName 2) gNil))) (tt := tYes) (hu_of hr) (.inl rfl) rfl scTN.nd (pi_keys (pv 0)) (blkOk_by (N := ["table", "name", "place"]) (sc := defScope sTN) (by decide +kernel))
        (fun _ _ _ _ _ => pg_tup rfl (pgs_cons (pg_name (i := 1) scTN.nd rfl (.inl rfl) (.inr rfl)) (pgs_cons (pg_name (i := 2) scTN.nd rfl (.inl rfl) (.inr rfl)) pgs_nil)))
        (fun _ _ _ _ _ => pts_nil) (fun _ _ _ _ _ => pv 1) (fun _ _ _ _ _ => pe_bl)) pa_nil)))), ?_⟩
    refine ⟨a, _, ta.at_, mutT, fun od => ?_⟩
    refine ⟨.ref a, rfl, a, _, rfl, .inr ⟨_, upd_same, fun D hD => ?_⟩⟩
    refine dg_it (walk_keysT) (fun i H' => Ex [D] (upd H a (.frz od (dT T))) H' ∧ ∃ L : List (Str × Bool), H' D = some (.dK (emb kS V.bl L)) ∧ (keys L).Nodup ∧ L.length ≤ i ∧ ∀ r, r ∈ keys L ↔ ∃ c, (r, c) ∈ (keys T).take i) ?_ ?_ ?_ ?_
    · exact ⟨.upd_in (by simp), [], upd_same, by simp, by simp, by simp⟩
    · rintro i H' hi ⟨x, _⟩
      exact x a _ upd_same (by simpa using (ne_of_none (H := upd H a (.frz od (dT T))) upd_same hD))
    · rintro i x H1 H2 hi ⟨ex, L, hL, nL, lL, mL⟩ ⟨rfl, k, v, b, hk, rfl, hb⟩
      obtain ⟨p, y, hT, rfl, rfl⟩ := keyT hk
      rw [pairK_tup] at hb
      refine ⟨b, _, rfl, SqT.of hb, rfl, _, _, rfl, _, _, rfl, rfl, ?_⟩
      refine ⟨rfl, .str p.1, rfl, _, put_S (v := true) hL nL (size1000 (by have := ta.len; rw [emb_length] at hi; omega)) rfl, ?_⟩
      have hTk : (keys T)[i]? = some p := by simp [keys, hT]
      refine ⟨ex.trans (.upd_in (by simp)), _, upd_same, nodup_put nL, Nat.le_trans put_length (by omega), fun r => ?_⟩
      rw [mem_keys_put, mL]
      constructor
      · rintro (rfl | ⟨c, hc⟩)
        · exact ⟨p.2, (mem_take_succ hTk).mpr (.inr rfl)⟩
        · exact ⟨c, (mem_take_succ hTk).mpr (.inl hc)⟩
      · rintro ⟨c, hc⟩
        rcases (mem_take_succ hTk).mp hc with h | h
        · exact .inr ⟨c, h⟩
        · exact .inl (by rw [← h])
    · rintro H1 ⟨ex, L, hL, nL, lL, mL⟩
      rw [emb_length] at mL lL
      have hDa : D ≠ a := fun e => by rw [e, upd_same] at hD; cases hD
      refine ⟨D, _, keys L, rfl, .inl hL, emb_keys, by simp [keys]; have := ta.len; omega, fun ys p hp _ hn => ?_⟩
      have hpa : p ≠ a := fun e => by
        rw [e, ex a _ upd_same (by simpa using hDa.symm)] at hn
        cases hn
      have hpD : p ≠ D := (ne_of_none hL hn).symm
      have ex2 : Ex [D] (upd H a (.frz od (dT T))) (upd H1 p (.lst (ys.map V.str))) := ex.trans (.upd_new hn)
      refine ⟨ex2 a _ upd_same (by simpa using hDa.symm), ?_⟩
      refine q p _ ys (Ex.unlock ta.at_ (ex2.drop hD)) ?_ ?_ (hp.nodup_iff.mpr nL) fun r => ?_
      · have := (ex.free hn (by simpa using hpD))
        rw [upd_ne hpa] at this
        exact this
      · rw [upd_ne hpa, upd_same]
      · rw [hp.mem_iff, mL, keys_take]
def spTP : Sp := fun vs H Q _ => ∃ (a : Addr) (T : List ((Str × Int) × Int)), vs = [.ref a] ∧ TabAt H a T ∧
  ∀ (p : Addr) (H' : Hp) (ns : List Int), Ex [] H H' → H p = none → H' p = some (.lst (ns.map V.int)) → ns.Nodup → (∀ c, c ∈ ns ↔ ∃ r, (r, c) ∈ keys T) → Q (.ref p) H'
theorem scTP : FnScope ["table", "place", "name"] ["table"] (defScope sTP) := ⟨rfl, rfl, rfl, by decide +kernel, rfl, by decide +kernel, by decide +kernel⟩
theorem ok_TP {f : Addr} {fd : FuncData} (F : Fun K "table_places" "table_places" sTP f fd) (ms : mg "sorted" = none) : FnOk P w K mg base CX0 1 f fd ["table"] spTP := by
  refine F.ok scTP (fun vs H Q E h => ?_) (fun cdv A outer s H vs Q E hr h => ?_)
  · obtain ⟨a, T, rfl, _⟩ := h
    rfl
  · obtain ⟨a, T, rfl, ta, q⟩ := h
    refine ⟨_, pss_one (ps_ret (pe_lock (pe_callB (call_sortedDI rfl) (by rfl) ms PyProof.Rows.boot_sorted (pa_cons
      (pe_dg (own := [("place", 1), ("name", 2)]) (g := gTup K 2 (gCons (gName 2) (gCons (gName 1) gNil))) (tt := tYes) (hu_of hr) (.inl rfl) rfl scTP.nd (pi_keys (pv 0)) (blkOk_by (N := ["table", "place", "name"]) (sc := defScope sTP) (by decide +kernel))
        (fun _ _ _ _ _ => pg_tup rfl (pgs_cons (pg_name (i := 2) scTP.nd rfl (.inl rfl) (.inr rfl)) (pgs_cons (pg_name (i := 1) scTP.nd rfl (.inl rfl) (.inr rfl)) pgs_nil)))
        (fun _ _ _ _ _ => pts_nil) (fun _ _ _ _ _ => pv 1) (fun _ _ _ _ _ => pe_bl)) pa_nil)))), ?_⟩
    refine ⟨a, _, ta.at_, mutT, fun od => ?_⟩
    refine ⟨.ref a, rfl, a, _, rfl, .inr ⟨_, upd_same, fun D hD => ?_⟩⟩
    refine dg_it (walk_keysT) (fun i H' => Ex [D] (upd H a (.frz od (dT T))) H' ∧ ∃ L : List (Int × Bool), H' D = some (.dK (emb kI V.bl L)) ∧ (keys L).Nodup ∧ L.length ≤ i ∧ ∀ r, r ∈ keys L ↔ ∃ c, (c, r) ∈ (keys T).take i) ?_ ?_ ?_ ?_
    · exact ⟨.upd_in (by simp), [], upd_same, by simp, by simp, by simp⟩
    · rintro i H' hi ⟨x, _⟩
      exact x a _ upd_same (by simpa using (ne_of_none (H := upd H a (.frz od (dT T))) upd_same hD))
    · rintro i x H1 H2 hi ⟨ex, L, hL, nL, lL, mL⟩ ⟨rfl, k, v, b, hk, rfl, hb⟩
      obtain ⟨p, y, hT, rfl, rfl⟩ := keyT hk
      rw [pairK_tup] at hb
      refine ⟨b, _, rfl, SqT.of hb, rfl, _, _, rfl, _, _, rfl, rfl, ?_⟩
      refine ⟨rfl, .int p.2, rfl, _, put_I (v := true) hL nL (size1000 (by have := ta.len; rw [emb_length] at hi; omega)) rfl, ?_⟩
      have hTk : (keys T)[i]? = some p := by simp [keys, hT]
      refine ⟨ex.trans (.upd_in (by simp)), _, upd_same, nodup_put nL, Nat.le_trans put_length (by omega), fun r => ?_⟩
      rw [mem_keys_put, mL]
      constructor
      · rintro (rfl | ⟨c, hc⟩)
        · exact ⟨p.1, (mem_take_succ hTk).mpr (.inr rfl)⟩
        · exact ⟨c, (mem_take_succ hTk).mpr (.inl hc)⟩
      · rintro ⟨c, hc⟩
        rcases (mem_take_succ hTk).mp hc with h | h
        · exact .inr ⟨c, h⟩
        · exact .inl (by rw [← h])
    · rintro H1 ⟨ex, L, hL, nL, lL, mL⟩
      rw [emb_length] at mL lL
      have hDa : D ≠ a := fun e => by rw [e, upd_same] at hD; cases hD
      refine ⟨D, _, keys L, rfl, .inl hL, emb_keys, by simp [keys]; have := ta.len; omega, fun ys p hp _ hn => ?_⟩
      have hpa : p ≠ a := fun e => by
        rw [e, ex a _ upd_same (by simpa using hDa.symm)] at hn
        cases hn
      have hpD : p ≠ D := (ne_of_none hL hn).symm
      have ex2 : Ex [D] (upd H a (.frz od (dT T))) (upd H1 p (.lst (ys.map V.int))) := ex.trans (.upd_new hn)
      refine ⟨ex2 a _ upd_same (by simpa using hDa.symm), ?_⟩
      refine q p _ ys (Ex.unlock ta.at_ (ex2.drop hD)) ?_ ?_ (hp.nodup_iff.mpr nL) fun r => ?_
      · have := (ex.free hn (by simpa using hpD))
        rw [upd_ne hpa] at this
        exact this
      · rw [upd_ne hpa, upd_same]
      · rw [hp.mem_iff, mL, keys_take]
end
end KN

namespace KN
open PySem L2 PySem.Spec
open PyProof.Rows hiding St
/-- a statement read with what stands behind it put off: G holds then, and G is enough -/
def tCut (t : TS) : TS := fun D σ H => ∃ G : L2.St → Hp → Prop, t { D with nx := G } σ H ∧ ∀ σ' H', G σ' H' → D.nx σ' H'
theorem ps_cut {X : Cx} {st : Stmt} {t : TS} (h : PS X st t) : PS X st (tCut t) := by
  refine ⟨fun pins s σ H D I hw => ?_⟩
  obtain ⟨G, hw, hg⟩ := hw
  refine thn (h.run pins s σ H _ I hw) fun f s1 q => ?_
  cases f with
  | next => obtain ⟨σ', H', I2, q⟩ := q; exact ⟨σ', H', I2, hg _ _ q⟩
  | brk => exact q
  | cont => exact q
  | ret v => exact q
/-- an expression likewise -/
def tCutE (t : TE) : TE := fun σ H Q => ∃ G : V → Hp → Prop, t σ H G ∧ ∀ v H', G v H' → Q v H'
theorem pe_cut {X : Cx} {e : Expr} {t : TE} (h : PE X e t) : PE X e (tCutE t) := by
  refine ⟨fun pins s σ H Q I hw => ?_⟩
  obtain ⟨G, hw, hg⟩ := hw
  exact thn (h.run pins s σ H _ I hw) fun v s1 ⟨x, H1, I1, r, q⟩ => ⟨x, H1, I1, r, hg _ _ q⟩
theorem goF {b : Bool} {A B : Prop} (h : b = false) (hb : B) : if b = true then A else B := by rw [if_neg (by rw [h]; exact Bool.false_ne_true)]; exact hb
theorem goT {b : Bool} {A B : Prop} (h : b = true) (ha : A) : if b = true then A else B := by rw [if_pos h]; exact ha
theorem le2 {x y : V} : [x, y].length ≤ sizeLine := by
  show 2 ≤ sizeLine
  decide
/-- the entries of a table -/
abbrev wT (T : List ((Str × Int) × Int)) : Str → Int → Option Int := fun r c => look T (r, c)
/-- a dict's int, 0 where there is none -/
abbrev at0 {α : Type} [DecidableEq α] (q : List (α × Int)) : α → Int := fun c => (look q c).getD 0
theorem at0_put {α : Type} [DecidableEq α] {q : List (α × Int)} {a : α} {x : Int} : at0 (put q a x) = fun z => if z = a then x else at0 q z := by
  funext z
  show (look (put q a x) z).getD 0 = _
  rw [look_put]
  by_cases e : z = a
  · rw [if_pos e, if_pos e]; rfl
  · rw [if_neg e, if_neg e]
theorem at0_of {α : Type} [DecidableEq α] {q : List (α × Int)} {a : α} {x : Int} (h : look q a = some x) : at0 q a = x := by simp [at0, h]
theorem look_key {α : Type} [DecidableEq α] {q : List (α × Int)} {a : α} (h : a ∈ keys q) : look q a = some (at0 q a) := by
  obtain ⟨x, hx⟩ := look_some_of_key h
  rw [at0_of hx, hx]
def leftC (C : List Int) (p q : Int → Int) : Nat := (sumf (fun c => p c - q c) C).toNat
theorem leftC_lt {C : List Int} {p q q' : Int → Int} (hle : ∀ c, q c ≤ q' c) {c : Int} (hc : c ∈ C) (hlt : q c < q' c) (hp : ∀ c ∈ C, q' c ≤ p c) : leftC C p q' < leftC C p q := by
  have h1 : sumf (fun r => p r - q' r) C < sumf (fun r => p r - q r) C := sumf_lt (fun x _ => by have := hle x; omega) hc (by omega)
  have h2 : 0 ≤ sumf (fun r => p r - q' r) C := sumf_nonneg fun x hx => by have := hp x hx; omega
  unfold leftC
  omega
end KN

namespace KN
open PySem L2 PySem.Spec
open PyProof.Rows hiding St
section
variable {P : Program} {w : World} {K : PySem.W.Frag} {mg : Str → Option Value} {base : Heap}
structure PairsAt (H : Hp) (b : Addr) (ps : List (Str × Int)) : Prop where
  at_ : H b = some (dSI ps)
  nk : (keys ps).Nodup
  len : ps.length < 60
def spCP : Sp := fun vs H Q _ => ∃ (a b : Addr) (T : List ((Str × Int) × Int)) (ps : List (Str × Int)) (R : List Str) (C : List Int), vs = [.ref a, .ref b] ∧ TabAt H a T ∧ PairsAt H b ps ∧ Supp (wT T) R C ∧ Cert (wT T) R C ps ∧
  ∀ (p : Addr) (H' : Hp) (qs : List (Int × Int)), Ex [] H H' → H p = none → H' p = some (dII qs) → (keys qs).Nodup → (∀ c, c ∈ keys qs ↔ ∃ r, (r, c) ∈ keys T) → qs.length ≤ T.length →
    CP (wT T) R C ps (at0 qs) → CFix (wT T) (look ps) (at0 qs) → Q (.ref p) H'
theorem scCP : FnScope ["entries", "pairs", "prices", "is_changed", "key", "weight", "row", "column", "gain"] ["entries", "pairs"] (defScope sCP) := ⟨rfl, rfl, rfl, by decide +kernel, rfl, by decide +kernel, by decide +kernel⟩
theorem ok_CP {f : Addr} {fd : FuncData} (F : Fun K "column_prices" "column_prices" sCP f fd) : FnOk P w K mg base CX0 1 f fd ["entries", "pairs"] spCP := by
  refine F.ok scCP (fun vs H Q E h => ?_) (fun cdv A outer s H vs Q E hr h => ?_)
  · obtain ⟨a, b, T, ps, R, C, rfl, _⟩ := h
    rfl
  · obtain ⟨a, b, T, ps, R, C, rfl, ta, pa, S, ce, q⟩ := h
    have hu := hu_of hr
    have nd := scCP.nd
    refine ⟨_, pss_cons (ps_lock (ps_setDg (i := 2) (own := [("row", 6), ("column", 7)]) (g := gTup K 2 (gCons (gName 6) (gCons (gName 7) gNil))) (tt := tYes) hu (.inl rfl) rfl nd rfl rfl
        (swap_dict rfl rfl rfl (by decide +kernel)) (pi_keys (pv 0)) (blkOk_by (N := ["entries", "pairs", "prices", "is_changed", "key", "weight", "row", "column", "gain"]) (sc := defScope sCP) (by decide +kernel))
        (fun _ _ _ _ _ => pg_tup rfl (pgs_cons (pg_name (i := 6) nd rfl (.inl rfl) (.inr rfl)) (pgs_cons (pg_name (i := 7) nd rfl (.inl rfl) (.inr rfl)) pgs_nil)))
        (fun _ _ _ _ _ => pts_nil) (fun _ _ _ _ _ => pv 7) (fun _ _ _ _ _ => pe_int)))
      (pss_cons (ps_set (i := 3) nd rfl (.inl rfl) pe_bl)
      (pss_cons (ps_while PassesOwn.never (pt_val (pv 3))
        (pss_cons (ps_set (i := 3) nd rfl (.inl rfl) pe_bl)
        (pss_one (ps_lock (ps_for PassesOwn.never rfl (pi_pairs (pv 0)) (pg_tup rfl (pgs_cons (pg_name (i := 4) nd rfl (.inl rfl)) (pgs_cons (pg_name (i := 5) nd rfl (.inl rfl)) pgs_nil)))
          (pss_cons (ps_asg (pv 4) (pg_tup rfl (pgs_cons (pg_name (i := 6) nd rfl (.inl rfl)) (pgs_cons (pg_name (i := 7) nd rfl (.inl rfl)) pgs_nil))))
          (pss_cons (ps_set (i := 8) nd rfl (.inl rfl) (pv 5))
          (pss_cons (ps_cut (ps_if (pt_cmp (pc_din hu (pv 6) (pv 1)))
            (pss_one (ps_aug (i := 8) nd rfl (.inl rfl) (pe_op op_sub (pe_dget hu (pv 2) (pe_dget hu (pv 1) (pv 6) (fun _ _ => rfl)) (fun _ _ => rfl)) (pe_dget hu (pv 0) (pe_tup (pa_cons (pv 6) (pa_cons (pe_dget hu (pv 1) (pv 6) (fun _ _ => rfl)) pa_nil))) (fun _ _ => rfl))) ip_add)) pss_nil))
          (pss_one (ps_if (pt_cmpR op_gt (pv 8) (pe_dget hu (pv 2) (pv 7) (fun _ _ => rfl)) (nomark _))
            (pss_cons (ps_dput hu (pv 2) (pv 7) (pv 8) rfl) (pss_one (ps_set (i := 3) nd rfl (.inl rfl) pe_bl))) pss_nil))))))))))
      (pss_one (ps_ret (pv 2))))), ?_⟩
    refine ⟨a, _, ta.at_, mutT, fun od => ?_⟩
    refine ⟨.ref a, rfl, a, _, rfl, .inr ⟨_, upd_same, fun D hD => ?_⟩⟩
    have hDa : D ≠ a := fun e => by rw [e, upd_same] at hD; cases hD
    have hDH : H D = none := by rw [upd_ne hDa] at hD; exact hD
    refine dg_it (walk_keysT) (fun i H' => Ex [D] (upd H a (.frz od (dT T))) H' ∧ ∃ L : List (Int × Int), H' D = some (dII L) ∧ (keys L).Nodup ∧ L.length ≤ i ∧ (∀ r, r ∈ keys L ↔ ∃ c, (c, r) ∈ (keys T).take i) ∧ ∀ c x, look L c = some x → x = 0) ?_ ?_ ?_ ?_
    · exact ⟨.upd_in (by simp), [], upd_same, by simp, by simp, by simp, by simp [look]⟩
    · rintro i H' hi ⟨x, _⟩
      exact x a _ upd_same (by simpa using hDa.symm)
    · rintro i x H1 H2 hi ⟨ex, L, hL, nL, lL, mL, zL⟩ ⟨rfl, k, v, b, hk, rfl, hb⟩
      obtain ⟨p, y, hT, rfl, rfl⟩ := keyT hk
      rw [pairK_tup] at hb
      refine ⟨b, _, rfl, SqT.of hb, rfl, _, _, rfl, _, _, rfl, rfl, ?_⟩
      refine ⟨rfl, .int p.2, rfl, _, put_I (v := (0 : Int)) hL nL (size1000 (by have := ta.len; rw [emb_length] at hi; omega)) rfl, ?_⟩
      have hTk : (keys T)[i]? = some p := by simp [keys, hT]
      refine ⟨ex.trans (.upd_in (by simp)), _, upd_same, nodup_put nL, Nat.le_trans put_length (by omega), fun r => ?_, fun c x h => ?_⟩
      · rw [mem_keys_put, mL]
        constructor
        · rintro (rfl | ⟨c, hc⟩)
          · exact ⟨p.1, (mem_take_succ hTk).mpr (.inr rfl)⟩
          · exact ⟨c, (mem_take_succ hTk).mpr (.inl hc)⟩
        · rintro ⟨c, hc⟩
          rcases (mem_take_succ hTk).mp hc with h | h
          · exact .inr ⟨c, h⟩
          · exact .inl (by rw [← h])
      · rw [look_put] at h
        by_cases e : c = p.2
        · rw [if_pos e] at h; cases h; rfl
        · rw [if_neg e] at h; exact zL c x h
    · rintro H1 ⟨ex, L0, hL0, nL0, lL0, mL0, zL0⟩
      rw [emb_length] at mL0 lL0
      rw [keys_take] at mL0
      refine ⟨ex a _ upd_same (by simpa using hDa.symm), ?_⟩
      have ex0 : Ex [] H (upd H1 a (dT T)) := Ex.unlock ta.at_ (ex.drop hD)
      have hL0 : upd H1 a (dT T) D = some (dII L0) := by rw [upd_ne hDa]; exact hL0
      generalize upd H1 a (dT T) = H2 at ex0 hL0
      obtain ⟨im, u, pr, du, ti⟩ := ce
      have ce : Cert (wT T) R C ps := ⟨im, u, pr, du, ti⟩
      have cp0 : CP (wT T) R C ps (at0 L0) := by
        have e : at0 L0 = fun _ => 0 := by
          funext c
          cases e : look L0 c with
          | none => simp [at0, e]
          | some x => rw [at0_of e, zL0 c x e]
        rw [e]
        exact .start
      refine ⟨fun m σ H' => ∃ (L : List (Int × Int)) (fl : Bool) (v4 v5 v6 v7 v8 : Option V), σ = [some (.ref a), some (.ref b), some (.ref D), some (.bl fl), v4, v5, v6, v7, v8] ∧ Ex [] H H' ∧ H' D = some (dII L) ∧ (keys L).Nodup ∧ L.length ≤ T.length ∧
        (∀ c, c ∈ keys L ↔ ∃ r, (r, c) ∈ keys T) ∧ CP (wT T) R C ps (at0 L) ∧ m = 2 * leftC C pr (at0 L) + (if fl = true then 1 else 0) ∧ (fl = false → CFix (wT T) (look ps) (at0 L)),
        ⟨_, L0, true, _, _, _, _, _, rfl, ex0, hL0, nL0, lL0, mL0, cp0, rfl, fun z => nomatch z⟩, ?_⟩
      rintro m σ H3 ⟨L1, fl, v4, v5, v6, v7, v8, rfl, ex3, hL1, nL1, lL1, mL1, cp1, rfl, cf1⟩
      refine ⟨_, rfl, fl, rfl, ?_⟩
      cases fl with
      | false =>
        rw [if_neg Bool.false_ne_true]
        exact ⟨_, rfl, q D H3 L1 ex3 hDH hL1 nL1 mL1 lL1 cp1 (cf1 rfl)⟩
      | true =>
        rw [if_pos rfl]
        refine ⟨_, fun σ' H' h => h, ?_⟩
        have ta3 := ta.ex ex3 (by simp)
        refine ⟨a, _, ta3.at_, mutT, fun od => ?_⟩
        refine ⟨.ref a, rfl, a, _, _, rfl, upd_same, for_it walk_pairs (fun i σ H' => ∃ (L : List (Int × Int)) (fl : Bool) (v4 v5 v6 v7 v8 : Option V), σ = [some (.ref a), some (.ref b), some (.ref D), some (.bl fl), v4, v5, v6, v7, v8] ∧ Ex [D] (upd H3 a (.frz od (dT T))) H' ∧ H' D = some (dII L) ∧ (keys L).Nodup ∧ L.length ≤ T.length ∧
          (∀ c, c ∈ keys L ↔ ∃ r, (r, c) ∈ keys T) ∧ CP (wT T) R C ps (at0 L) ∧ (if fl = true then leftC C pr (at0 L) < leftC C pr (at0 L1) else L = L1 ∧ ∀ e ∈ T.take i, gainC (wT T) (look ps) (at0 L1) e.1.1 e.2 ≤ at0 L1 e.1.2)) ?_ ?_ ?_ ?_⟩
        · refine ⟨L1, false, _, _, _, _, _, rfl, .refl _ _, ?_, nL1, lL1, mL1, cp1, ?_⟩
          · rw [upd_ne hDa]; exact hL1
          · rw [if_neg Bool.false_ne_true]
            exact ⟨rfl, by simp⟩
        · rintro i σ H' hi ⟨L, fl, v4, v5, v6, v7, v8, rfl, ex4, _⟩
          exact ex4 a _ upd_same (by simpa using hDa.symm)
        · rintro i x σ H4 H5 hi ⟨L, fl, v4, v5, v6, v7, v8, rfl, ex4, hL, nL, lL, mL, cp, hf⟩ ⟨t, k, v, kq, hk, rfl, ht, hkq, rfl⟩
          obtain ⟨⟨r, c⟩, y, hT, rfl, rfl⟩ := keyT hk
          rw [pairK_tup] at hkq
          have hTm : ((r, c), y) ∈ T := List.mem_of_getElem? hT
          have wy : wT T r c = some y := look_of_mem ta.nk hTm
          have tD : t ≠ D := (ne_of_none hL ht).symm
          have ex5 : Ex [D] (upd H3 a (.frz od (dT T))) (upd H4 t (.tup [.ref kq, .int y])) := ex4.trans (.upd_new ht)
          have hL5 : upd H4 t (.tup [.ref kq, .int y]) D = some (dII L) := by rw [upd_ne tD.symm]; exact hL
          have hkq5 : upd H4 t (.tup [.ref kq, .int y]) kq = some (tupP (r, c)) := by rw [upd_ne (ne_of_none hkq ht)]; exact hkq
          refine ⟨t, _, rfl, SqT.of upd_same, rfl, _, _, rfl, _, _, rfl, rfl, ?_⟩
          generalize upd H4 t (.tup [.ref kq, .int y]) = H5 at ex5 hL5 hkq5
          have ra : Rd H5 a (dT T) := .inr ⟨od, ex5 a _ upd_same (by simpa using hDa.symm)⟩
          have hba : b ≠ a := ne_of pa.at_ ta.at_ (by intro z; cases z)
          have hbD : b ≠ D := fun z => by rw [← z, pa.at_] at hDH; cases hDH
          have rb : Rd H5 b (dSI ps) := .inl (ex5 b _ (by rw [upd_ne hba]; exact ex3 b _ pa.at_ (by simp)) (by simpa using hbD))
          refine ⟨_, rfl, kq, _, rfl, SqT.of hkq5, rfl, _, _, rfl, _, _, rfl, rfl, ?_⟩
          refine ⟨_, rfl, ?_⟩
          refine ⟨fun σ' H' => Ex [D] (upd H3 a (.frz od (dT T))) H' ∧ H' D = some (dII L) ∧ σ' = [some (.ref a), some (.ref b), some (.ref D), some (.bl fl), some (.ref kq), some (.int y), some (.str r), some (.int c), some (.int (gainC (wT T) (look ps) (at0 L) r y))], ?_, ?_⟩
          · refine ⟨_, rfl, _, rfl, b, _, rfl, get_S rb rfl, _, rfl, ?_⟩
            cases hp : look ps r with
            | none =>
              refine goF rfl ?_
              refine ⟨ex5, hL5, ?_⟩
              have : gainC (wT T) (look ps) (at0 L) r y = y := by unfold gainC; rw [hp]; simp
              rw [this]
              rfl
            | some d =>
              refine goT rfl ?_
              have hm := mem_of_look hp
              obtain ⟨z, hz⟩ := im.en r d hm
              have hd : d ∈ keys L := (mL d).mpr ⟨r, key_of_look hz⟩
              refine ⟨_, rfl, .ref D, rfl, .ref b, rfl, .str r, rfl, b, .int d, rfl, get_S rb (by rw [hp]; rfl), D, .int (at0 L d), rfl, get_I (.inl hL5) (by rw [look_key hd]; rfl), ?_⟩
              refine ⟨.ref a, rfl, .str r, rfl, .ref b, rfl, .str r, rfl, b, .int d, rfl, get_S rb (by rw [hp]; rfl), le2, fun t2 ht2 => ?_⟩
              have t2D : t2 ≠ D := (ne_of_none hL5 ht2).symm
              have ra2 : Rd (upd H5 t2 (.tup [.str r, .int d])) a (dT T) := .inr ⟨od, by
                rw [upd_ne (ne_of_none (ex5 a _ upd_same (by simpa using hDa.symm)) ht2)]
                exact ex5 a _ upd_same (by simpa using hDa.symm)⟩
              refine ⟨a, .int z, rfl, get_T (p := (r, d)) ra2 upd_same (by rw [show look T (r, d) = some z from hz]; rfl), _, _, rfl, rfl, _, _, rfl, rfl, ?_⟩
              refine ⟨ex5.trans (.upd_new ht2), by rw [upd_ne t2D.symm]; exact hL5, ?_⟩
              have : gainC (wT T) (look ps) (at0 L) r y = y + (at0 L d - z) := by unfold gainC; rw [hp]; simp only [wt_of hz]
              rw [this]
              rfl
          · rintro σ' H6 ⟨ex6, hL6, rfl⟩
            have hc : c ∈ keys L := (mL c).mpr ⟨r, key_of_look wy⟩
            refine ⟨_, rfl, .ref D, rfl, _, rfl, D, .int (at0 L c), rfl, get_I (.inl hL6) (by rw [look_key hc]; rfl), _, _, rfl, rfl, _, rfl, ite2 (fun z => ?_) (fun z => ?_)⟩
            · have z := of_decide_eq_true z
              have cp' := cp.relax S im wy z
              rw [← at0_put] at cp'
              refine ⟨_, rfl, .ref D, rfl, _, rfl, D, _, rfl, put_I (v := gainC (wT T) (look ps) (at0 L) r y) hL6 nL (size1000 (by have := ta.len; omega)) rfl, ?_⟩
              refine ⟨_, true, _, _, _, _, _, rfl, ex6.trans (.upd_in (by simp)), upd_same, nodup_put nL, ?_, ?_, cp', ?_⟩
              · have := congrArg List.length (keys_put_in (gainC (wT T) (look ps) (at0 L) r y) hc)
                simp [keys] at this
                omega
              · intro c'
                rw [keys_put_in _ hc]
                exact mL c'
              · rw [if_pos rfl]
                have lt : leftC C pr (at0 (put L c (gainC (wT T) (look ps) (at0 L) r y))) < leftC C pr (at0 L) := by
                  refine leftC_lt (c := c) (fun d => ?_) (S r c y wy).2 ?_ (cp'.le u pr du ti)
                  · rw [at0_put]
                    show at0 L d ≤ if d = c then _ else _
                    split
                    · rename_i e; rw [e]; omega
                    · exact Int.le_refl _
                  · rw [at0_put]
                    show at0 L c < if c = c then _ else _
                    rw [if_pos rfl]
                    exact z
                cases fl with
                | true => rw [if_pos rfl] at hf; omega
                | false => rw [if_neg Bool.false_ne_true] at hf; rw [hf.1] at lt ⊢; exact lt
            · have z := of_decide_eq_false (Bool.eq_false_iff.mpr z)
              refine ⟨L, fl, _, _, _, _, _, rfl, ex6, hL6, nL, lL, mL, cp, ?_⟩
              cases fl with
              | true => rw [if_pos rfl] at hf ⊢; exact hf
              | false =>
                rw [if_neg Bool.false_ne_true] at hf ⊢
                obtain ⟨rfl, hf⟩ := hf
                refine ⟨rfl, fun e he => ?_⟩
                rcases (mem_take_succ hT).mp he with h | h
                · exact hf e h
                · subst h
                  show gainC (wT T) (look ps) (at0 L) r y ≤ at0 L c
                  omega
        · rintro σ H4 ⟨L, fl, v4, v5, v6, v7, v8, rfl, ex4, hL, nL, lL, mL, cp, hf⟩
          refine ⟨ex4 a _ upd_same (by simpa using hDa.symm), ?_⟩
          have ex5 : Ex [] H (upd H4 a (dT T)) := Ex.drop (Ex.trans (ex3.mono (by simp)) (Ex.unlock ta3.at_ ex4)) hDH
          have hL5 : upd H4 a (dT T) D = some (dII L) := by rw [upd_ne hDa]; exact hL
          cases fl with
          | true =>
            rw [if_pos rfl] at hf
            exact ⟨_, by rw [if_pos rfl]; omega, L, true, _, _, _, _, _, rfl, ex5, hL5, nL, lL, mL, cp, rfl, fun z => nomatch z⟩
          | false =>
            rw [if_neg Bool.false_ne_true] at hf
            obtain ⟨rfl, hf⟩ := hf
            refine ⟨_, by rw [if_pos rfl]; exact Nat.lt_succ_self _, L, false, _, _, _, _, _, rfl, ex5, hL5, nL, lL, mL, cp, rfl, fun _ r c x h => ?_⟩
            refine hf ((r, c), x) ?_
            rw [emb_length, List.take_of_length_le (Nat.le_refl _)]
            exact mem_of_look h
end
end KN

namespace KN
open PySem L2 PySem.Spec
open PyProof.Rows hiding St
/-- a turn of items of a dict -/
theorem itemsK {α β : Type} {ke : α → Key} {ve : β → V} {L : List (α × β)} {i : Nat} {x y : V} (hx : ((emb ke ve L)[i]?.map fun kv => kV kv.1) = some x) (hy : ((emb ke ve L)[i]?.map Prod.snd) = some y) : ∃ (p : α) (b : β), L[i]? = some (p, b) ∧ x = kV (ke p) ∧ y = ve b := by
  unfold emb at hx hy
  rw [List.getElem?_map] at hx hy
  cases e : L[i]? with
  | none => rw [e] at hx; cases hx
  | some q =>
    rw [e] at hx hy
    exact ⟨q.1, q.2, rfl, (Option.some.inj hx).symm, (Option.some.inj hy).symm⟩
section
variable {P : Program} {w : World} {K : PySem.W.Frag} {mg : Str → Option Value} {base : Heap}
def spRW : Sp := fun vs H Q _ => ∃ (a b : Addr) (T : List ((Str × Int) × Int)) (ps : List (Str × Int)) (R : List Str) (C : List Int), vs = [.ref a, .ref b] ∧ TabAt H a T ∧ PairsAt H b ps ∧ Supp (wT T) R C ∧ Cert (wT T) R C ps ∧
  ∀ (p : Addr) (H' : Hp) (fs : List (Str × Int)) (qv : Int → Int), Ex [] H H' → H p = none → H' p = some (dSI fs) → (keys fs).Nodup → (∀ r, r ∈ keys fs ↔ ∃ c, (r, c) ∈ keys T) → fs.length ≤ T.length →
    CP (wT T) R C ps qv → CFix (wT T) (look ps) qv → (∀ r, at0 fs r = worthC (wT T) (look ps) qv r) → Q (.ref p) H'
theorem scRW : FnScope ["entries", "pairs", "prices", "found", "row", "column"] ["entries", "pairs"] (defScope sRW) := ⟨rfl, rfl, rfl, by decide +kernel, rfl, by decide +kernel, by decide +kernel⟩
theorem ok_RW {f fC : Addr} {fd fdC : FuncData} (F : Fun K "row_worths" "row_worths" sRW f fd) (FC : Fun K "column_prices" "column_prices" sCP fC fdC) (bC : Binds K fdC ["entries", "pairs"] []) (gC : mg "column_prices" = some (.ref fC)) : FnOk P w K mg base CX0 2 f fd ["entries", "pairs"] spRW := by
  have GC : FnOk P w K mg base CX0 1 fC fdC ["entries", "pairs"] spCP := ok_CP FC
  refine F.ok scRW (fun vs H Q E h => ?_) (fun cdv A outer s H vs Q E hr h => ?_)
  · obtain ⟨a, b, T, ps, R, C, rfl, _⟩ := h
    rfl
  · obtain ⟨a, b, T, ps, R, C, rfl, ta, pa, S, ce, q⟩ := h
    have hu := hu_of hr
    have nd := scRW.nd
    refine ⟨_, pss_cons (ps_set (i := 2) nd rfl (.inl rfl) (pe_call GC hr (by rfl) gC FC.kp bC .nil pass0 (pa_cons (pv 0) (pa_cons (pv 1) pa_nil))))
      (pss_cons (ps_lock (ps_setDg (i := 3) (own := [("row", 4), ("column", 5)]) (g := gTup K 2 (gCons (gName 4) (gCons (gName 5) gNil))) (tt := tYes) hu (.inl rfl) rfl nd rfl rfl
        (swap_dict rfl rfl rfl (by decide +kernel)) (pi_keys (pv 0)) (blkOk_by (N := ["entries", "pairs", "prices", "found", "row", "column"]) (sc := defScope sRW) (by decide +kernel))
        (fun _ _ _ _ _ => pg_tup rfl (pgs_cons (pg_name (i := 4) nd rfl (.inl rfl) (.inr rfl)) (pgs_cons (pg_name (i := 5) nd rfl (.inl rfl) (.inr rfl)) pgs_nil)))
        (fun _ _ _ _ _ => pts_nil) (fun _ _ _ _ _ => pv 4) (fun _ _ _ _ _ => pe_int)))
      (pss_cons (ps_lock (ps_for PassesOwn.never rfl (pi_items (pv 1)) (pg_tup rfl (pgs_cons (pg_name (i := 4) nd rfl (.inl rfl)) (pgs_cons (pg_name (i := 5) nd rfl (.inl rfl)) pgs_nil)))
          (pss_one (ps_dput hu (pv 3) (pv 4) (pe_op op_sub (pe_dget hu (pv 0) (pe_tup (pa_cons (pv 4) (pa_cons (pv 5) pa_nil))) (fun _ _ => rfl)) (pe_dget hu (pv 2) (pv 5) (fun _ _ => rfl))) rfl))))
      (pss_one (ps_ret (pv 3))))), ?_⟩
    have hba : b ≠ a := ne_of pa.at_ ta.at_ (by intro z; cases z)
    refine ⟨.ref a, rfl, .ref b, rfl, a, b, T, ps, R, C, rfl, ta, pa, S, ce, fun D H1 qs ex1 hDH hD1 nq mq lq cp cf => ?_⟩
    have hDa : D ≠ a := (ne_of_none ta.at_ hDH).symm
    have hDb : D ≠ b := (ne_of_none pa.at_ hDH).symm
    have ta1 := ta.ex ex1 (by simp)
    refine ⟨a, _, ta1.at_, mutT, fun od => ?_⟩
    refine ⟨.ref a, rfl, a, _, rfl, .inr ⟨_, upd_same, fun N hN => ?_⟩⟩
    have hNa : N ≠ a := fun e => by rw [e, upd_same] at hN; cases hN
    have hNH1 : H1 N = none := by rw [upd_ne hNa] at hN; exact hN
    have hNH : H N = none := ex1.free hNH1 (by simp)
    refine dg_it (walk_keysT) (fun i H' => Ex [N] (upd H1 a (.frz od (dT T))) H' ∧ ∃ L : List (Str × Int), H' N = some (dSI L) ∧ (keys L).Nodup ∧ L.length ≤ i ∧ (∀ r, r ∈ keys L ↔ ∃ c, (r, c) ∈ (keys T).take i) ∧ ∀ c x, look L c = some x → x = 0) ?_ ?_ ?_ ?_
    · exact ⟨.upd_in (by simp), [], upd_same, by simp, by simp, by simp, by simp [look]⟩
    · rintro i H' hi ⟨x, _⟩
      exact x a _ upd_same (by simpa using hNa.symm)
    · rintro i x H1 H2 hi ⟨ex, L, hL, nL, lL, mL, zL⟩ ⟨rfl, k, v, b, hk, rfl, hb⟩
      obtain ⟨p, y, hT, rfl, rfl⟩ := keyT hk
      rw [pairK_tup] at hb
      refine ⟨b, _, rfl, SqT.of hb, rfl, _, _, rfl, _, _, rfl, rfl, ?_⟩
      refine ⟨rfl, .str p.1, rfl, _, put_S (v := (0 : Int)) hL nL (size1000 (by have := ta.len; rw [emb_length] at hi; omega)) rfl, ?_⟩
      have hTk : (keys T)[i]? = some p := by simp [keys, hT]
      refine ⟨ex.trans (.upd_in (by simp)), _, upd_same, nodup_put nL, Nat.le_trans put_length (by omega), fun r => ?_, fun c x h => ?_⟩
      · rw [mem_keys_put, mL]
        constructor
        · rintro (rfl | ⟨c, hc⟩)
          · exact ⟨p.2, (mem_take_succ hTk).mpr (.inr rfl)⟩
          · exact ⟨c, (mem_take_succ hTk).mpr (.inl hc)⟩
        · rintro ⟨c, hc⟩
          rcases (mem_take_succ hTk).mp hc with h | h
          · exact .inr ⟨c, h⟩
          · exact .inl (by rw [← h])
      · rw [look_put] at h
        by_cases e : c = p.1
        · rw [if_pos e] at h; cases h; rfl
        · rw [if_neg e] at h; exact zL c x h
    · rintro H2 ⟨ex, L0, hL0, nL0, lL0, mL0, zL0⟩
      rw [emb_length] at mL0 lL0
      rw [keys_take] at mL0
      refine ⟨ex a _ upd_same (by simpa using hNa.symm), ?_⟩
      have ex2 : Ex [] H1 (upd H2 a (dT T)) := Ex.unlock ta1.at_ (ex.drop hN)
      have hL2 : upd H2 a (dT T) N = some (dSI L0) := by rw [upd_ne hNa]; exact hL0
      generalize upd H2 a (dT T) = H3 at ex2 hL2
      have ex3 : Ex [] H H3 := ex1.trans ex2
      have hb3 : H3 b = some (dSI ps) := ex3 b _ pa.at_ (by simp)
      have hNb : N ≠ b := (ne_of_none pa.at_ hNH).symm
      refine ⟨b, _, hb3, mutK, fun od => ?_⟩
      refine ⟨.ref b, rfl, b, _, _, rfl, upd_same, for_it walk_items (fun i σ H' => ∃ (L : List (Str × Int)) (v4 v5 : Option V), σ = [some (.ref a), some (.ref b), some (.ref D), some (.ref N), v4, v5] ∧ Ex [N] (upd H3 b (.frz od (dSI ps))) H' ∧ H' N = some (dSI L) ∧ (keys L).Nodup ∧ L.length ≤ T.length ∧
          (∀ r, r ∈ keys L ↔ ∃ c, (r, c) ∈ keys T) ∧ ∀ r, at0 L r = if r ∈ (keys ps).take i then worthC (wT T) (look ps) (at0 qs) r else 0) ?_ ?_ ?_ ?_⟩
      · refine ⟨L0, _, _, rfl, .refl _ _, by rw [upd_ne hNb]; exact hL2, nL0, lL0, mL0, fun r => ?_⟩
        rw [if_neg (by simp)]
        cases e : look L0 r with
        | none => simp [at0, e]
        | some x => rw [at0_of e, zL0 r x e]
      · rintro i σ H' hi ⟨L, v4, v5, rfl, ex4, _⟩
        exact ex4 b _ upd_same (by simpa using hNb.symm)
      · rintro i x σ H4 H5 hi ⟨L, v4, v5, rfl, ex4, hL, nL, lL, mL, hw⟩ ⟨t, kx, vx, rfl, ht, rfl, hk, hv⟩
        obtain ⟨r, c, hT, rfl, rfl⟩ := itemsK hk hv
        have tN : t ≠ N := (ne_of_none hL ht).symm
        refine ⟨t, _, rfl, SqT.of upd_same, rfl, _, _, rfl, _, _, rfl, rfl, ?_⟩
        have ex5 : Ex [N] (upd H3 b (.frz od (dSI ps))) (upd H4 t (.tup [.str r, .int c])) := ex4.trans (.upd_new ht)
        have hL5 : upd H4 t (.tup [.str r, .int c]) N = some (dSI L) := by rw [upd_ne tN.symm]; exact hL
        have hm : (r, c) ∈ ps := List.mem_of_getElem? hT
        have hlk : look ps r = some c := look_of_mem pa.nk hm
        obtain ⟨z, hz⟩ := ce.1.en r c hm
        have hrk : r ∈ keys L := (mL r).mpr ⟨c, key_of_look hz⟩
        have hcq : c ∈ keys qs := (mq c).mpr ⟨r, key_of_look hz⟩
        refine ⟨.ref a, rfl, .str r, rfl, .int c, rfl, le2, fun t2 ht2 => ?_⟩
        have t2N : t2 ≠ N := (ne_of_none hL5 ht2).symm
        have ex6 := ex5.trans (Ex.upd_new (l := [N]) (o := .tup [.str r, .int c]) ht2)
        have hL6 : upd (upd H4 t (.tup [.str r, .int c])) t2 (.tup [.str r, .int c]) N = some (dSI L) := by rw [upd_ne t2N.symm]; exact hL5
        have ha6 : upd (upd H4 t (.tup [.str r, .int c])) t2 (.tup [.str r, .int c]) a = some (dT T) := ex6 a _ (by rw [upd_ne hba.symm]; exact ex3 a _ ta.at_ (by simp)) (by simpa using hNa.symm)
        have hD6 : upd (upd H4 t (.tup [.str r, .int c])) t2 (.tup [.str r, .int c]) D = some (dII qs) := ex6 D _ (by rw [upd_ne hDb]; exact ex2 D _ hD1 (by simp)) (by simp; exact ne_of_none hD1 hNH1)
        refine ⟨a, .int z, rfl, get_T (p := (r, c)) (.inl ha6) upd_same (by rw [show look T (r, c) = some z from hz]; rfl), ?_⟩
        refine ⟨.ref D, rfl, .int c, rfl, D, .int (at0 qs c), rfl, get_I (.inl hD6) (by rw [look_key hcq]; rfl), _, _, rfl, rfl, ?_⟩
        refine ⟨.ref N, rfl, .str r, rfl, N, _, rfl, put_S (v := z - at0 qs c) hL6 nL (size1000 (by have := ta.len; omega)) rfl, ?_⟩
        refine ⟨_, _, _, rfl, ex6.trans (.upd_in (by simp)), upd_same, nodup_put nL, ?_, fun r' => by rw [keys_put_in _ hrk]; exact mL r', fun r' => ?_⟩
        · have := congrArg List.length (keys_put_in (z - at0 qs c) hrk)
          simp [keys] at this
          omega
        · have hTk : (keys ps)[i]? = some r := by simp [keys, hT]
          rw [at0_put]
          show (if r' = r then _ else _) = _
          by_cases e : r' = r
          · subst e
            rw [if_pos rfl, if_pos ((mem_take_succ hTk).mpr (.inr rfl))]
            unfold worthC
            rw [hlk]
            simp only [wt_of hz]
          · rw [if_neg e, hw r']
            have : (r' ∈ (keys ps).take (i + 1)) ↔ r' ∈ (keys ps).take i := by
              rw [mem_take_succ hTk]
              exact ⟨fun h => h.elim id (fun z => absurd z e), .inl⟩
            simp only [this]
      · rintro σ H4 ⟨L, v4, v5, rfl, ex4, hL, nL, lL, mL, hw⟩
        refine ⟨ex4 b _ upd_same (by simpa using hNb.symm), ?_⟩
        refine ⟨_, rfl, ?_⟩
        refine q N _ L (at0 qs) (Ex.drop (Ex.trans (ex3.mono (by simp)) (Ex.unlock hb3 ex4)) hNH) hNH (by rw [upd_ne hNb]; exact hL) nL mL lL cp cf fun r => ?_
        rw [hw r, emb_length, keys_take]
        by_cases e : r ∈ keys ps
        · rw [if_pos e]
        · rw [if_neg e]
          unfold worthC
          rw [look_none.mpr e]
end
end KN

namespace KN
open PySem L2 PySem.Spec
open PyProof.Rows hiding St
/-- what is new since H may change -/
theorem Ex.put_new {l : List Addr} {H H' : Hp} {a : Addr} {o : HO} (x : Ex l H H') (h : H a = none) : Ex l H (upd H' a o) := fun c u e n => by
  rw [upd_ne (ne_of_none e h)]
  exact x c u e n
structure RowsAt (H : Hp) (rs : List (Str × Addr)) (w : Str → Int → Option Int) : Prop where
  row : ∀ r d, (r, d) ∈ rs → ∃ L : List (Int × Int), H d = some (dII L) ∧ (keys L).Nodup ∧ L.length < 60 ∧ ∀ c, look L c = w r c
  nk : (keys rs).Nodup
  len : rs.length < 60
theorem RowsAt.ex {H H' : Hp} {rs : List (Str × Addr)} {w : Str → Int → Option Int} (t : RowsAt H rs w) (x : Ex [] H H') : RowsAt H' rs w :=
  ⟨fun r d h => let ⟨L, h1, h2⟩ := t.row r d h; ⟨L, x d _ h1 (by simp), h2⟩, t.nk, t.len⟩
section
variable {P : Program} {w : World} {K : PySem.W.Frag} {mg : Str → Option Value} {base : Heap}
def spRE : Sp := fun vs H Q _ => ∃ (a : Addr) (T : List ((Str × Int) × Int)), vs = [.ref a] ∧ TabAt H a T ∧
  ∀ (p : Addr) (H' : Hp) (rs : List (Str × Addr)), Ex [] H H' → H p = none → H' p = some (dSR rs) → RowsAt H' rs (wT T) → (∀ r c, (r, c) ∈ keys T → r ∈ keys rs) → Q (.ref p) H'
theorem scRE : FnScope ["entries", "found", "key"] ["entries"] (defScope sRE) := ⟨rfl, rfl, rfl, by decide +kernel, rfl, by decide +kernel, by decide +kernel⟩
/-- the rows made of the first keys -/
structure Made (H0 H : Hp) (T : List ((Str × Int) × Int)) (ks : List (Str × Int)) (n : Nat) (rs : List (Str × Addr)) : Prop where
  row : ∀ r d, (r, d) ∈ rs → H0 d = none ∧ ∃ L : List (Int × Int), H d = some (dII L) ∧ (keys L).Nodup ∧ L.length ≤ n ∧ ∀ c, look L c = if (r, c) ∈ ks then look T (r, c) else none
  nk : (keys rs).Nodup
  len : rs.length ≤ n
  inj : ∀ r r' d, (r, d) ∈ rs → (r', d) ∈ rs → r = r'
  cov : ∀ r c, (r, c) ∈ ks → r ∈ keys rs
theorem ok_RE {f : Addr} {fd : FuncData} (F : Fun K "row_entries" "row_entries" sRE f fd) (ms : mg "sorted" = none) : FnOk P w K mg base CX0 1 f fd ["entries"] spRE := by
  refine F.ok scRE (fun vs H Q E h => ?_) (fun cdv A outer s H vs Q E hr h => ?_)
  · obtain ⟨a, T, rfl, _⟩ := h
    rfl
  · obtain ⟨a, T, rfl, ta, q⟩ := h
    have hu := hu_of hr
    have nd := scRE.nd
    refine ⟨_, pss_cons (ps_set (i := 1) nd rfl (.inl rfl) pe_dnewK)
      (pss_cons (ps_for PassesOwn.never rfl (pi_list (pe_callB (sorted_pairs rfl hr.units) (by rfl) ms PyProof.Rows.boot_sorted (pa_cons (pv 0) pa_nil))) (pg_name (i := 2) nd rfl (.inl rfl))
        (pss_cons (ps_cut (ps_expr (pe_dsetd (pv 1) (pe_ix ix_tup (pv 2) pe_int (fun _ _ => rfl)) pe_dnewK ⟨rfl, rfl, rfl, rfl⟩)))
        (pss_one (ps_dput hu (pe_dget hu (pv 1) (pe_ix ix_tup (pv 2) pe_int (fun _ _ => rfl)) (fun _ _ => rfl)) (pe_ix ix_tup (pv 2) pe_int (fun _ _ => rfl)) (pe_dget hu (pv 0) (pv 2) (fun _ _ => rfl)) rfl))))
      (pss_one (ps_ret (pv 1)))), ?_⟩
    intro N hN
    have hNa : N ≠ a := (ne_of_none ta.at_ hN).symm
    have ha1 : upd H N (.dK []) a = some (dT T) := by rw [upd_ne hNa.symm]; exact ta.at_
    refine ⟨.ref a, rfl, a, _, keys T, rfl, .inl ha1, emb_keys, fun bs l hp hb hl => ?_⟩
    have hlN : l ≠ N := fun e => by rw [e, upd_same] at hl; cases hl
    have hla : l ≠ a := fun e => by rw [e, ha1] at hl; cases hl
    have hlH : H l = none := by rw [upd_ne hlN] at hl; exact hl
    have ex0 : Ex [N] H (upd (upd H N (.dK [])) l (.lst (bs.map fun b => V.ref b.1))) := (Ex.upd_in (by simp)).trans (Ex.upd_new hl)
    have hN0 : upd (upd H N (.dK [])) l (.lst (bs.map fun b => V.ref b.1)) N = some (dSR []) := by rw [upd_ne hlN.symm, upd_same]; rfl
    have hl0 : upd (upd H N (.dK [])) l (.lst (bs.map fun b => V.ref b.1)) l = some (.lst (bs.map fun b => V.ref b.1)) := upd_same
    have hb0 : ∀ b ∈ bs, upd (upd H N (.dK [])) l (.lst (bs.map fun b => V.ref b.1)) b.1 = some (tupP b.2) := fun b h => by
      rw [upd_ne (ne_of_none (hb b h) hl)]; exact hb b h
    generalize upd (upd H N (.dK [])) l (.lst (bs.map fun b => V.ref b.1)) = H0 at ex0 hN0 hl0 hb0
    have ha0 : H0 a = some (dT T) := ex0 a _ ta.at_ (by simpa using hNa.symm)
    refine ⟨l, rfl, ⟨_, SqL.of hl0⟩, for_list (K := K) (a := l) (xs := bs.map fun b => V.ref b.1) (fun i σ H' => ∃ (rs : List (Str × Addr)) (v2 : Option V), σ = [some (.ref a), some (.ref N), v2] ∧ Ex [N] H0 H' ∧ H' N = some (dSR rs) ∧ Made H0 H' T ((bs.map (·.2)).take i) i rs)
      ⟨[], none, rfl, .refl _ _, hN0, ⟨by simp, by simp, by simp, by simp, by simp⟩⟩ ?_ ?_ ?_⟩
    · rintro i σ H' hi ⟨rs, v2, rfl, ex, _⟩
      exact SqL.of (ex l _ hl0 (by simpa using hlN))
    · rintro i y σ H1 hi ⟨rs, v2, rfl, ex, hN1, mk⟩
      obtain ⟨⟨kq, r, c⟩, hbi, rfl⟩ : ∃ b, bs[i]? = some b ∧ y = V.ref b.1 := by
        rw [List.getElem?_map] at hi
        obtain ⟨n, h1, h2⟩ := Option.map_eq_some_iff.mp hi
        exact ⟨n, h1, h2.symm⟩
      have hbm := List.mem_of_getElem? hbi
      have hk0 : H0 kq = some (tupP (r, c)) := hb0 _ hbm
      have hkN : kq ≠ N := ne_of hk0 hN0 (by intro z; cases z)
      have hk1 : H1 kq = some (tupP (r, c)) := ex kq _ hk0 (by simpa using hkN)
      have hks : (bs.map (·.2))[i]? = some (r, c) := by simp [hbi]
      have hrcT : (r, c) ∈ keys T := hp.mem_iff.mp (List.mem_map.mpr ⟨_, hbm, rfl⟩)
      have hi60 : i < 60 := by
        have h1 := (List.getElem?_eq_some_iff.mp hks).1
        have h2 := hp.length_eq
        have h3 := ta.len
        simp [keys] at h2
        simp at h1
        omega
      refine ⟨fun σ' H' => σ' = [some (.ref a), some (.ref N), some (.ref kq)] ∧ Ex [N] H0 H' ∧ ∃ rs1, H' N = some (dSR rs1) ∧ r ∈ keys rs1 ∧ ((∀ r d, (r, d) ∈ rs1 → H0 d = none ∧ ∃ L : List (Int × Int), H' d = some (dII L) ∧ (keys L).Nodup ∧ L.length ≤ i ∧ ∀ c, look L c = if (r, c) ∈ (bs.map (·.2)).take i then look T (r, c) else none) ∧
        (keys rs1).Nodup ∧ rs1.length ≤ i + 1 ∧ (∀ r r' d, (r, d) ∈ rs1 → (r', d) ∈ rs1 → r = r') ∧ ∀ r c, (r, c) ∈ (bs.map (·.2)).take i → r ∈ keys rs1), ?_, ?_⟩
      · refine ⟨.ref N, rfl, N, rfl, .inl ⟨_, .inl hN1⟩, .ref kq, rfl, kq, _, 0, .str r, rfl, rfl, SqT.of hk1, rfl, fun e he => ?_⟩
        have heN : e ≠ N := fun z => by rw [z, hN1] at he; cases he
        have he0 : H0 e = none := ex.free he (by simpa using heN)
        have exE : Ex [N] H0 (upd H1 e (.dK [])) := ex.put_new he0
        have hNE : upd H1 e (.dK []) N = some (dSR rs) := by rw [upd_ne heN.symm]; exact hN1
        have hd_ne : ∀ r d, (r, d) ∈ rs → d ≠ e := fun r d h z => by
          obtain ⟨_, L, hL, _⟩ := mk.row r d h
          rw [z, he] at hL; cases hL
        refine ⟨_, .inr r, hNE, rfl, size1000 (by rw [emb_length]; have := mk.len; omega), fun v hv => ?_, fun hv => ?_⟩
        · have hk : r ∈ keys rs := by
            rw [show (Sum.inr r : Key) = kS r from rfl, emb_val kS_inj] at hv
            cases z : look rs r with
            | none => rw [z] at hv; cases hv
            | some d => exact key_of_look z
          refine ⟨rfl, exE, rs, hNE, hk, fun r d h => ?_, mk.nk, Nat.le_succ_of_le mk.len, mk.inj, mk.cov⟩
          obtain ⟨h0, L, hL, rest⟩ := mk.row r d h
          exact ⟨h0, L, by rw [upd_ne (hd_ne r d h)]; exact hL, rest⟩
        · have hk : r ∉ keys rs := by
            rw [show (Sum.inr r : Key) = kS r from rfl, emb_val kS_inj] at hv
            refine look_none.mp ?_
            cases z : look rs r with
            | none => rfl
            | some d => rw [z] at hv; cases hv
          rw [show (Sum.inr r : Key) = kS r from rfl, emb_put kS_inj mk.nk]
          have hmem : ∀ r' d, (r', d) ∈ put rs r e → (r' = r ∧ d = e) ∨ (r', d) ∈ rs := fun r' d h => by
            rw [keys_put_new e hk] at h
            rcases List.mem_append.mp h with h | h
            · exact .inr h
            · have := List.mem_singleton.mp h
              cases this
              exact .inl ⟨rfl, rfl⟩
          refine ⟨rfl, exE.trans (.upd_in (by simp)), put rs r e, upd_same, mem_keys_put.mpr (.inl rfl), fun r' d h => ?_, nodup_put mk.nk, Nat.le_trans put_length (by have := mk.len; omega), fun r1 r2 d h1 h2 => ?_, fun r' c' h => mem_keys_put.mpr (.inr (mk.cov r' c' h))⟩
          · rcases hmem r' d h with ⟨rfl, rfl⟩ | h
            · refine ⟨he0, [], by rw [upd_ne heN, upd_same]; rfl, by simp, by simp, fun c' => ?_⟩
              rw [if_neg fun z => hk (mk.cov _ _ z)]
              rfl
            · obtain ⟨h0, L, hL, rest⟩ := mk.row r' d h
              refine ⟨h0, L, ?_, rest⟩
              rw [upd_ne (fun z => by rw [z, hN0] at h0; cases h0), upd_ne (hd_ne r' d h)]
              exact hL
          · rcases hmem r1 d h1 with ⟨e1, e2⟩ | g1
            · rcases hmem r2 d h2 with ⟨e3, _⟩ | g2
              · rw [e1, e3]
              · exact absurd e2 (hd_ne r2 d g2)
            · rcases hmem r2 d h2 with ⟨_, e2⟩ | g2
              · exact absurd e2 (hd_ne r1 d g1)
              · exact mk.inj r1 r2 d g1 g2
      · rintro σ' H2 ⟨rfl, ex2, rs1, hN2, hr1, row1, nk1, len1, inj1, cov1⟩
        have ha2 : H2 a = some (dT T) := ex2 a _ ha0 (by simpa using hNa.symm)
        have hk2 : H2 kq = some (tupP (r, c)) := ex2 kq _ hk0 (by simpa using hkN)
        obtain ⟨d, hd⟩ := look_some_of_key hr1
        have hdm := mem_of_look hd
        obtain ⟨hd0, L, hL, nL, lL, kL⟩ := row1 r d hdm
        obtain ⟨x, hx⟩ := look_some_of_key hrcT
        refine ⟨.ref a, rfl, .ref kq, rfl, a, .int x, rfl, get_T (p := (r, c)) (.inl ha2) hk2 (by rw [hx]; rfl), ?_⟩
        refine ⟨.ref N, rfl, .ref kq, rfl, kq, _, 0, .str r, rfl, rfl, SqT.of hk2, rfl, N, .ref d, rfl, get_S (.inl hN2) (by rw [hd]; rfl), ?_⟩
        refine ⟨.ref kq, rfl, kq, _, 1, .int c, rfl, rfl, SqT.of hk2, rfl, d, _, rfl, put_I (v := x) hL nL (size1000 (by omega)) rfl, ?_⟩
        have hdN : d ≠ N := fun z => by rw [z, hN0] at hd0; cases hd0
        refine ⟨rs1, _, rfl, ex2.put_new hd0, by rw [upd_ne hdN.symm]; exact hN2, ⟨fun r' d' h => ?_, nk1, len1, inj1, fun r' c' h => ?_⟩⟩
        · by_cases e : d' = d
          · subst e
            obtain rfl := inj1 _ _ _ h hdm
            refine ⟨hd0, put L c x, upd_same, nodup_put nL, Nat.le_trans put_length (by omega), fun c' => ?_⟩
            rw [look_put]
            by_cases ec : c' = c
            · rw [if_pos ec, ec, if_pos ((mem_take_succ hks).mpr (.inr rfl)), hx]
            · rw [if_neg ec, kL]
              have : ((r', c') ∈ (bs.map (·.2)).take (i + 1)) ↔ (r', c') ∈ (bs.map (·.2)).take i := by
                rw [mem_take_succ hks]
                exact ⟨fun h => h.elim id (fun z => absurd (Prod.mk.inj z).2 ec), .inl⟩
              simp only [this]
          · obtain ⟨h0, L', hL', nL', lL', kL'⟩ := row1 r' d' h
            refine ⟨h0, L', by rw [upd_ne e]; exact hL', nL', by omega, fun c' => ?_⟩
            rw [kL']
            have hrr : r' ≠ r := fun z => by
              subst z
              rw [look_of_mem nk1 h] at hd
              exact e (Option.some.inj hd)
            have : ((r', c') ∈ (bs.map (·.2)).take (i + 1)) ↔ (r', c') ∈ (bs.map (·.2)).take i := by
              rw [mem_take_succ hks]
              exact ⟨fun h => h.elim id (fun z => absurd (Prod.mk.inj z).1 hrr), .inl⟩
            simp only [this]
        · rcases (mem_take_succ hks).mp h with h | h
          · exact cov1 r' c' h
          · cases h; exact hr1
    · rintro σ H1 ⟨rs, v2, rfl, ex, hN1, mk⟩
      have e1 : (bs.map (·.2)).take (bs.map fun b => V.ref b.1).length = bs.map (·.2) := List.take_of_length_le (by simp)
      rw [e1] at mk
      have elen : (bs.map fun b => V.ref b.1).length = T.length := by
        have := hp.length_eq
        simp [keys] at this
        simp [this]
      rw [elen] at mk
      have exH : Ex [] H H1 := (ex0.trans ex).drop hN
      refine ⟨_, rfl, q N H1 rs exH hN hN1 ⟨fun r d h => ?_, mk.nk, by have := mk.len; have := ta.len; omega⟩ fun r c h => mk.cov r c (hp.mem_iff.mpr h)⟩
      obtain ⟨_, L, hL, nL, lL, kL⟩ := mk.row r d h
      refine ⟨L, hL, nL, by have := ta.len; omega, fun c => ?_⟩
      rw [kL]
      by_cases e : (r, c) ∈ bs.map (·.2)
      · rw [if_pos e]
      · rw [if_neg e]
        exact (look_none.mpr fun z => e (hp.mem_iff.mpr z)).symm
end
end KN

namespace KN
open PySem L2 PySem.Spec
open PyProof.Rows hiding St
theorem rd_lock {H : Hp} {b d : Addr} {u v : HO} {od : Obj} (h : Rd H b u) (hd : H d = some v) (mu : Mut (some v)) : Rd (upd H d (.frz od v)) b u := by
  by_cases e : b = d
  · subst e
    rcases h with h | ⟨o, h⟩
    · rw [hd] at h
      cases h
      exact .inr ⟨od, upd_same⟩
    · rw [hd] at h
      cases h
      exact mu.elim
  · rcases h with h | ⟨o, h⟩
    · exact .inl (by rw [upd_ne e]; exact h)
    · exact .inr ⟨o, by rw [upd_ne e]; exact h⟩
theorem dII_ne {L : List (Int × Int)} {rs : List (Str × Addr)} {r : Str} {d : Addr} (h : (r, d) ∈ rs) : dII L ≠ dSR rs := fun e => by
  have e2 : emb kI V.int L = emb kS V.ref rs := by injection e
  have : (kS r, V.ref d) ∈ emb kI V.int L := by
    rw [e2]
    exact List.mem_map.mpr ⟨_, h, rfl⟩
  obtain ⟨x, _, hx⟩ := List.mem_map.mp this
  cases (Prod.mk.inj hx).1
theorem nodup_len {α : Type} [DecidableEq α] {l L : List α} (hn : l.Nodup) (h : ∀ x ∈ l, x ∈ L) : l.length ≤ L.length := by
  have h1 := sumf_sub (f := fun _ : α => 1) hn h (fun _ _ => by decide)
  have h2 : ∀ m : List α, sumf (fun _ => 1) m = m.length := fun m => by
    induction m with
    | nil => rfl
    | cons a r ih => rw [sumf_cons, ih, List.length_cons]; omega
  rw [h2, h2] at h1
  omega
theorem look_put' {α β : Type} [DecidableEq α] {L : List (α × β)} {a : α} {b : β} : look (put L a b) = fun z => if z = a then some b else look L z := funext fun z => look_put L a z b
section
variable {P : Program} {w : World} {K : PySem.W.Frag} {mg : Str → Option Value} {base : Heap}
def spBM : Sp := fun vs H Q _ => ∃ (a b o : Addr) (rs : List (Str × Addr)) (ps : List (Str × Int)) (os : List (Int × Str)) (wf : Str → Int → Option Int) (C : List Int) (f : Str) (u : Str → Int) (pr : Int → Int), vs = [.ref a, .ref b, .ref o] ∧
  H a = some (dSR rs) ∧ RowsAt H rs wf ∧ PairsAt H b ps ∧ H o = some (dIS os) ∧ Pre wf (keys rs) C ps (look os) f u pr ∧ Supp wf (keys rs) C ∧
  ∀ (p : Addr) (H' : Hp) (ms : List (Str × Int)) (g : Str → Int), Ex [] H H' → H p = none → H' p = some (dSI ms) → (keys ms).Nodup → BF wf (look os) u g (look ms) → Fix wf (look os) g → Q (.ref p) H'
theorem scBM : FnScope ["rows", "pairs", "owners", "gains", "moves", "is_changed", "row", "entries", "column", "weight", "gain", "other"] ["rows", "pairs", "owners"] (defScope sBM) := ⟨rfl, rfl, rfl, by decide +kernel, rfl, by decide +kernel, by decide +kernel⟩
/-- what the loops carry: gains gs at G, moves ms at M -/
structure BSt (H : Hp) (G M : Addr) (rs : List (Str × Addr)) (wf : Str → Int → Option Int) (O : Int → Option Str) (u : Str → Int) (gs ms : List (Str × Int)) : Prop where
  gat : H G = some (dSI gs)
  mat : H M = some (dSI ms)
  gn : (keys gs).Nodup
  mn : (keys ms).Nodup
  gk : ∀ r, r ∈ keys gs ↔ r ∈ keys rs
  mkr : ∀ r, r ∈ keys ms → r ∈ keys rs
  bf : BF wf O u (at0 gs) (look ms)
theorem BSt.new {H : Hp} {G M t : Addr} {rs : List (Str × Addr)} {wf : Str → Int → Option Int} {O : Int → Option Str} {u : Str → Int} {gs ms : List (Str × Int)} {o : HO} (b : BSt H G M rs wf O u gs ms) (ht : t ≠ G) (hm : t ≠ M) : BSt (upd H t o) G M rs wf O u gs ms :=
  ⟨by rw [upd_ne ht.symm]; exact b.gat, by rw [upd_ne hm.symm]; exact b.mat, b.gn, b.mn, b.gk, b.mkr, b.bf⟩
theorem ok_BM {f : Addr} {fd : FuncData} (F : Fun K "best_moves" "best_moves" sBM f fd) : FnOk P w K mg base CX0 1 f fd ["rows", "pairs", "owners"] spBM := by
  refine F.ok scBM (fun vs H Q E h => ?_) (fun cdv A outer s H vs Q E hr h => ?_)
  · obtain ⟨a, b, o, rs, ps, os, wf, C, f, u, pr, rfl, _⟩ := h
    rfl
  · obtain ⟨a, b, o, rs, ps, os, wf, C, fr, u, pr, rfl, ha, ra, pa, ho, pre, S, q⟩ := h
    have hu := hu_of hr
    have nd := scBM.nd
    refine ⟨_, pss_cons (ps_lock (ps_setDg (i := 3) (own := [("row", 6)]) (g := gName 6) (tt := tYes) hu (.inl rfl) rfl nd rfl rfl
        (swap_dict rfl rfl rfl (by decide +kernel)) (pi_keys (pv 0)) (blkOk_by (N := ["rows", "pairs", "owners", "gains", "moves", "is_changed", "row", "entries", "column", "weight", "gain", "other"]) (sc := defScope sBM) (by decide +kernel))
        (fun _ _ _ _ _ => pg_name (i := 6) nd rfl (.inl rfl) (.inr rfl))
        (fun _ _ _ _ _ => pts_nil) (fun _ _ _ _ _ => pv 6) (fun _ _ _ _ _ => pe_int)))
      (pss_cons (ps_set (i := 4) nd rfl (.inl rfl) pe_dnewK)
      (pss_cons (ps_set (i := 5) nd rfl (.inl rfl) pe_bl)
      (pss_cons (ps_while PassesOwn.never (pt_val (pv 5))
        (pss_cons (ps_set (i := 5) nd rfl (.inl rfl) pe_bl)
        (pss_one (ps_lock (ps_for PassesOwn.never rfl (pi_items (pv 0)) (pg_tup rfl (pgs_cons (pg_name (i := 6) nd rfl (.inl rfl)) (pgs_cons (pg_name (i := 7) nd rfl (.inl rfl)) pgs_nil)))
          (pss_one (ps_lock (ps_for PassesOwn.never rfl (pi_items (pv 7)) (pg_tup rfl (pgs_cons (pg_name (i := 8) nd rfl (.inl rfl)) (pgs_cons (pg_name (i := 9) nd rfl (.inl rfl)) pgs_nil)))
            (pss_cons (ps_set (i := 10) nd rfl (.inl rfl) (pv 9))
            (pss_cons (ps_cut (ps_if (pt_cmp (pc_din hu (pv 8) (pv 2)))
              (pss_cons (ps_set (i := 11) nd rfl (.inl rfl) (pe_dget hu (pv 2) (pv 8) (fun _ _ => rfl)))
              (pss_one (ps_aug (i := 10) nd rfl (.inl rfl) (pe_op op_sub (pe_dget hu (pv 3) (pv 11) (fun _ _ => rfl)) (pe_dget hu (pe_dget hu (pv 0) (pv 11) (fun _ _ => rfl)) (pv 8) (fun _ _ => rfl))) ip_add))) pss_nil))
            (pss_one (ps_if (PW.pt (pw_and (pt_cmpR op_gt (pv 10) (pe_dget hu (pv 3) (pv 6) (fun _ _ => rfl)) (nomark _)) (pw_and1 (pt_cmpR op_ne (pe_dget1 hu (pv 1) (pv 6) ⟨rfl, rfl, rfl, rfl⟩) (pv 8) (nomark _)))))
              (pss_cons (ps_asg (pe_tup (pa_cons (pv 10) (pa_cons (pv 8) pa_nil))) (pg_tup rfl (pgs_cons (pg_sub (pv 3) (pv 6) (set_dict hu)) (pgs_cons (pg_sub (pv 4) (pv 6) (set_dict hu)) pgs_nil))))
              (pss_one (ps_set (i := 5) nd rfl (.inl rfl) pe_bl))) pss_nil))))))))))))
      (pss_one (ps_ret (pv 4)))))), ?_⟩
    refine ⟨a, _, ha, mutK, fun od => ?_⟩
    refine ⟨.ref a, rfl, a, _, rfl, .inl ⟨_, upd_same, fun G hG => ?_⟩⟩
    have hGa : G ≠ a := fun e => by rw [e, upd_same] at hG; cases hG
    have hGH : H G = none := by rw [upd_ne hGa] at hG; exact hG
    have rl : rs.length < 60 := ra.len
    refine dg_it walk_keys (fun i H' => Ex [G] (upd H a (.frz od (dSR rs))) H' ∧ ∃ L : List (Str × Int), H' G = some (dSI L) ∧ (keys L).Nodup ∧ L.length ≤ i ∧ (∀ r, r ∈ keys L ↔ r ∈ (keys rs).take i) ∧ ∀ c x, look L c = some x → x = 0) ?_ ?_ ?_ ?_
    · exact ⟨.upd_in (by simp), [], upd_same, by simp, by simp, by simp, by simp [look]⟩
    · rintro i H' hi ⟨x, _⟩
      exact x a _ upd_same (by simpa using hGa.symm)
    · rintro i x H1 H2 hi ⟨ex, L, hL, nL, lL, mL, zL⟩ ⟨rfl, k, v, hk, rfl⟩
      obtain ⟨p, y, hT, rfl, rfl⟩ := keyK hk
      refine ⟨rfl, .str p, rfl, _, put_S (v := (0 : Int)) hL nL (size1000 (by rw [emb_length] at hi; omega)) rfl, ?_⟩
      have hTk : (keys rs)[i]? = some p := by simp [keys, hT]
      refine ⟨ex.trans (.upd_in (by simp)), _, upd_same, nodup_put nL, Nat.le_trans put_length (by omega), fun r => ?_, fun c x h => ?_⟩
      · rw [mem_keys_put, mL, mem_take_succ hTk, or_comm]
      · rw [look_put] at h
        by_cases e : c = p
        · rw [if_pos e] at h; cases h; rfl
        · rw [if_neg e] at h; exact zL c x h
    · rintro H1 ⟨ex, L0, hL0, nL0, lL0, mL0, zL0⟩
      rw [emb_length] at mL0 lL0
      rw [keys_take] at mL0
      refine ⟨ex a _ upd_same (by simpa using hGa.symm), ?_⟩
      have ex0 : Ex [] H (upd H1 a (dSR rs)) := Ex.unlock ha (ex.drop hG)
      have hL0 : upd H1 a (dSR rs) G = some (dSI L0) := by rw [upd_ne hGa]; exact hL0
      generalize upd H1 a (dSR rs) = H2 at ex0 hL0
      intro M hM
      have hMH : H M = none := ex0.free hM (by simp)
      have hMG : M ≠ G := (ne_of_none hL0 hM).symm
      have hMa : M ≠ a := (ne_of_none ha hMH).symm
      have st0 : BSt (upd H2 M (.dK [])) G M rs wf (look os) u L0 [] := by
        refine ⟨by rw [upd_ne hMG.symm]; exact hL0, upd_same, nL0, by simp, mL0, by simp, ?_⟩
        have e : at0 L0 = fun _ => 0 := by
          funext c
          cases e : look L0 c with
          | none => simp [at0, e]
          | some x => rw [at0_of e, zL0 c x e]
        rw [e]
        exact BF.start pre
      refine ⟨fun m σ H' => ∃ (gs ms : List (Str × Int)) (fl : Bool) (v6 v7 v8 v9 v10 v11 : Option V), σ = [some (.ref a), some (.ref b), some (.ref o), some (.ref G), some (.ref M), some (.bl fl), v6, v7, v8, v9, v10, v11] ∧ Ex [] H H' ∧ BSt H' G M rs wf (look os) u gs ms ∧
        m = 2 * left (keys rs) u (at0 gs) + (if fl = true then 1 else 0) ∧ (fl = false → Fix wf (look os) (at0 gs)),
        ⟨_, L0, [], true, _, _, _, _, _, _, rfl, ex0.trans (.upd_new hM), st0, rfl, fun z => nomatch z⟩, ?_⟩
      rintro m σ H3 ⟨gs1, ms1, fl, v6, v7, v8, v9, v10, v11, rfl, ex3, st1, rfl, fx1⟩
      refine ⟨_, rfl, fl, rfl, ?_⟩
      cases fl with
      | false =>
        rw [if_neg Bool.false_ne_true]
        exact ⟨_, rfl, q M H3 ms1 _ ex3 hMH st1.mat st1.mn st1.bf (fx1 rfl)⟩
      | true =>
        rw [if_pos rfl]
        refine ⟨_, fun σ' H' h => h, ?_⟩
        have ha3 : H3 a = some (dSR rs) := ex3 a _ ha (by simp)
        have notin : ∀ x u, H x = some u → x ∉ [G, M] := fun x u hx z => by
          rcases List.mem_cons.mp z with z | z
          · rw [z, hGH] at hx; cases hx
          · rw [List.mem_singleton.mp z, hMH] at hx; cases hx
        refine ⟨a, _, ha3, mutK, fun od => ?_⟩
        refine ⟨.ref a, rfl, a, _, _, rfl, upd_same, for_it walk_items (fun i σ H' => ∃ (gs ms : List (Str × Int)) (fl : Bool) (v6 v7 v8 v9 v10 v11 : Option V), σ = [some (.ref a), some (.ref b), some (.ref o), some (.ref G), some (.ref M), some (.bl fl), v6, v7, v8, v9, v10, v11] ∧
          Ex [G, M] (upd H3 a (.frz od (dSR rs))) H' ∧ BSt H' G M rs wf (look os) u gs ms ∧ (if fl = true then left (keys rs) u (at0 gs) < left (keys rs) u (at0 gs1) else gs = gs1 ∧ ms = ms1 ∧ ∀ r ∈ (keys rs).take i, ∀ c x, wf r c = some x → x + back wf (look os) (at0 gs1) c ≤ at0 gs1 r)) ?_ ?_ ?_ ?_⟩
        · refine ⟨gs1, ms1, false, _, _, _, _, _, _, rfl, .refl _ _, ⟨by rw [upd_ne hGa]; exact st1.gat, by rw [upd_ne hMa]; exact st1.mat, st1.gn, st1.mn, st1.gk, st1.mkr, st1.bf⟩, ?_⟩
          rw [if_neg Bool.false_ne_true]
          exact ⟨rfl, rfl, by simp⟩
        · rintro i σ H' hi ⟨gs, ms, fl, v6, v7, v8, v9, v10, v11, rfl, ex4, _⟩
          exact ex4 a _ upd_same (notin a _ ha)
        · rintro i x σ H4 H5 hi ⟨gs, ms, fl, v6, v7, v8, v9, v10, v11, rfl, ex4, st4, hf⟩ ⟨t, kx, vx, rfl, ht, rfl, hk, hv⟩
          obtain ⟨r, d, hT, rfl, rfl⟩ := itemsK hk hv
          have hrd : (r, d) ∈ rs := List.mem_of_getElem? hT
          have hTk : (keys rs)[i]? = some r := by simp [keys, hT]
          have hrk : r ∈ keys rs := List.mem_of_getElem? hTk
          obtain ⟨L, hdL, nL, lL, kL⟩ := ra.row r d hrd
          have tG : t ≠ G := (ne_of_none st4.gat ht).symm
          have tM : t ≠ M := (ne_of_none st4.mat ht).symm
          refine ⟨t, _, rfl, SqT.of upd_same, rfl, _, _, rfl, _, _, rfl, rfl, ?_⟩
          have ex5 : Ex [G, M] (upd H3 a (.frz od (dSR rs))) (upd H4 t (.tup [.str r, .ref d])) := ex4.trans (.upd_new ht)
          have st5 : BSt (upd H4 t (.tup [.str r, .ref d])) G M rs wf (look os) u gs ms := st4.new tG tM
          have ex5 : Ex [G, M] (upd H3 a (.frz od (dSR rs))) (upd H4 t (.tup [kV (kS r), .ref d])) := ex5
          have st5 : BSt (upd H4 t (.tup [kV (kS r), .ref d])) G M rs wf (look os) u gs ms := st5
          generalize upd H4 t (.tup [kV (kS r), .ref d]) = H5 at ex5 st5
          have hda : d ≠ a := ne_of hdL ha (dII_ne hrd)
          have hd3 : H3 d = some (dII L) := ex3 d _ hdL (by simp)
          have hd5 : H5 d = some (dII L) := ex5 d _ (by rw [upd_ne hda]; exact hd3) (notin d _ hdL)
          have hdG : d ≠ G := ne_of_none hdL hGH
          have hdM : d ≠ M := ne_of_none hdL hMH
          refine ⟨d, _, hd5, mutK, fun odd => ?_⟩
          have rdx : ∀ x v, H x = some v → Rd (upd H5 d (.frz odd (dII L))) x v := fun x v hx =>
            rd_lock (Ex.rd ex5 (rd_lock (.inl (ex3 x _ hx (by simp))) ha3 mutK) (notin x _ hx)) hd5 mutK
          have st5' : BSt (upd H5 d (.frz odd (dII L))) G M rs wf (look os) u gs ms := ⟨by rw [upd_ne hdG.symm]; exact st5.gat, by rw [upd_ne hdM.symm]; exact st5.mat, st5.gn, st5.mn, st5.gk, st5.mkr, st5.bf⟩
          refine ⟨_, rfl, d, _, _, rfl, upd_same, for_it walk_items (fun j σ H' => ∃ (gs ms : List (Str × Int)) (fl : Bool) (v8 v9 v10 v11 : Option V), σ = [some (.ref a), some (.ref b), some (.ref o), some (.ref G), some (.ref M), some (.bl fl), some (.str r), some (.ref d), v8, v9, v10, v11] ∧
            Ex [G, M] (upd H5 d (.frz odd (dII L))) H' ∧ BSt H' G M rs wf (look os) u gs ms ∧ (if fl = true then left (keys rs) u (at0 gs) < left (keys rs) u (at0 gs1) else gs = gs1 ∧ ms = ms1 ∧ (∀ r ∈ (keys rs).take i, ∀ c x, wf r c = some x → x + back wf (look os) (at0 gs1) c ≤ at0 gs1 r) ∧
              ∀ e ∈ L.take j, e.2 + back wf (look os) (at0 gs1) e.1 ≤ at0 gs1 r)) ?_ ?_ ?_ ?_⟩
          · refine ⟨gs, ms, fl, _, _, _, _, rfl, .refl _ _, st5', ?_⟩
            cases fl with
            | true => rw [if_pos rfl] at hf ⊢; exact hf
            | false =>
              rw [if_neg Bool.false_ne_true] at hf ⊢
              exact ⟨hf.1, hf.2.1, hf.2.2, by simp⟩
          · rintro j σ H' hj ⟨gs, ms, fl, v8, v9, v10, v11, rfl, ex6, _⟩
            exact ex6 d _ upd_same (notin d _ hdL)
          · rintro j x σ H6 H7 hj ⟨gs, ms, fl, v8, v9, v10, v11, rfl, ex6, st6, hf⟩ ⟨t2, kx, vx, rfl, ht2, rfl, hk2, hv2⟩
            obtain ⟨c, y, hTc, rfl, rfl⟩ := itemsK hk2 hv2
            have hcy : (c, y) ∈ L := List.mem_of_getElem? hTc
            have wy : wf r c = some y := by rw [← kL]; exact look_of_mem nL hcy
            have t2G : t2 ≠ G := (ne_of_none st6.gat ht2).symm
            have t2M : t2 ≠ M := (ne_of_none st6.mat ht2).symm
            refine ⟨t2, _, rfl, SqT.of upd_same, rfl, _, _, rfl, _, _, rfl, rfl, ?_⟩
            have ex7 : Ex [G, M] (upd H5 d (.frz odd (dII L))) (upd H6 t2 (.tup [kV (kI c), .int y])) := ex6.trans (.upd_new ht2)
            have st7 : BSt (upd H6 t2 (.tup [kV (kI c), .int y])) G M rs wf (look os) u gs ms := st6.new t2G t2M
            generalize upd H6 t2 (.tup [kV (kI c), .int y]) = H7 at ex7 st7
            have rd7 : ∀ x v, H x = some v → Rd H7 x v := fun x v hx => Ex.rd ex7 (rdx x v hx) (notin x _ hx)
            refine ⟨_, rfl, ?_⟩
            refine ⟨fun σ' H' => H' = H7 ∧ ∃ v11, σ' = [some (.ref a), some (.ref b), some (.ref o), some (.ref G), some (.ref M), some (.bl fl), some (.str r), some (.ref d), some (.int c), some (.int y), some (.int (y + back wf (look os) (at0 gs) c)), v11], ?_, ?_⟩
            · refine ⟨_, rfl, .ref o, rfl, o, _, rfl, get_I (rd7 o _ ho) rfl, _, rfl, ?_⟩
              cases hp : look os c with
              | none =>
                refine goF rfl ⟨rfl, v11, ?_⟩
                have : y + back wf (look os) (at0 gs) c = y := by unfold back; rw [hp]; simp
                rw [this]
                rfl
              | some ot =>
                refine goT rfl ?_
                obtain ⟨z, hz⟩ := pre.im.en ot c ((pre.own ot c).mp hp)
                have hok : ot ∈ keys rs := (S ot c z hz).1
                obtain ⟨dd, hdd⟩ := look_some_of_key hok
                obtain ⟨LL, hLL, nLL, lLL, kLL⟩ := ra.row ot dd (mem_of_look hdd)
                refine ⟨.ref o, rfl, _, rfl, o, .str ot, rfl, get_I (rd7 o _ ho) (by rw [hp]; rfl), ?_⟩
                refine ⟨_, rfl, .ref G, rfl, .str ot, rfl, G, .int (at0 gs ot), rfl, get_S (.inl st7.gat) (by rw [look_key ((st7.gk ot).mpr hok)]; rfl), ?_⟩
                refine ⟨.ref a, rfl, .str ot, rfl, a, .ref dd, rfl, get_S (rd7 a _ ha) (by rw [hdd]; rfl), _, rfl, dd, .int z, rfl, get_I (rd7 dd _ hLL) (by rw [kLL, hz]; rfl), _, _, rfl, rfl, _, _, rfl, rfl, ?_⟩
                refine ⟨rfl, some (.str ot), ?_⟩
                have : y + back wf (look os) (at0 gs) c = y + (at0 gs ot - z) := by unfold back; rw [hp]; simp only [wt_of hz]
                rw [this]
                rfl
            · rintro σ' H' ⟨rfl, v11, rfl⟩
              have hgk : r ∈ keys gs := (st7.gk r).mpr hrk
              have done : (y + back wf (look os) (at0 gs) c ≤ at0 gs r) → (if fl = true then left (keys rs) u (at0 gs) < left (keys rs) u (at0 gs1) else gs = gs1 ∧ ms = ms1 ∧ (∀ r ∈ (keys rs).take i, ∀ c x, wf r c = some x → x + back wf (look os) (at0 gs1) c ≤ at0 gs1 r) ∧
                  ∀ e ∈ L.take (j + 1), e.2 + back wf (look os) (at0 gs1) e.1 ≤ at0 gs1 r) := fun hle => by
                cases fl with
                | true => rw [if_pos rfl] at hf ⊢; exact hf
                | false =>
                  rw [if_neg Bool.false_ne_true] at hf ⊢
                  obtain ⟨rfl, rfl, h1, h2⟩ := hf
                  refine ⟨rfl, rfl, h1, fun e he => ?_⟩
                  rcases (mem_take_succ hTc).mp he with h | h
                  · exact h2 e h
                  · subst h
                    exact hle
              refine ⟨_, rfl, .ref G, rfl, _, rfl, G, .int (at0 gs r), rfl, get_S (.inl st7.gat) (by rw [look_key hgk]; rfl), _, _, rfl, rfl, _, rfl, ite2 (fun z => ?_) (fun z => ?_)⟩
              · have z := of_decide_eq_true z
                refine ⟨.ref b, rfl, b, rfl, .inl ⟨_, rd7 b _ pa.at_⟩, _, rfl, _, get_S (rd7 b _ pa.at_) rfl, _, rfl, ?_⟩
                refine ⟨by cases look ps r <;> rfl, _, rfl, ?_⟩
                by_cases ec : look ps r = some c
                · have hO : look os c = some r := (pre.own r c).mpr (mem_of_look ec)
                  refine goF (by rw [ec]; simp) ⟨gs, ms, fl, _, _, _, _, rfl, ex7, st7, done ?_⟩
                  unfold back
                  rw [hO]
                  simp only [wt_of wy]
                  omega
                · refine goT (by
                    cases e : look ps r with
                    | none => simp
                    | some c2 =>
                      rw [e] at ec
                      have : c2 ≠ c := fun q => ec (by rw [q])
                      simpa using this) ?_
                  have bf' := st7.bf.relax pre S wy z
                  rw [← at0_put, ← look_put'] at bf'
                  refine ⟨_, rfl, _, rfl, le2, fun t3 ht3 => ?_⟩
                  have t3G : t3 ≠ G := (ne_of_none st7.gat ht3).symm
                  have t3M : t3 ≠ M := (ne_of_none st7.mat ht3).symm
                  have ex8 := ex7.trans (Ex.upd_new (l := [G, M]) (o := .tup [.int (y + back wf (look os) (at0 gs) c), .int c]) ht3)
                  have st8 := st7.new (o := .tup [.int (y + back wf (look os) (at0 gs) c), .int c]) t3G t3M
                  have h8 : upd H' t3 (.tup [.int (y + back wf (look os) (at0 gs) c), .int c]) t3 = some (.tup [.int (y + back wf (look os) (at0 gs) c), .int c]) := upd_same
                  generalize upd H' t3 (.tup [.int (y + back wf (look os) (at0 gs) c), .int c]) = H8 at ex8 st8 h8
                  have lg : gs.length < 60 := by
                    have := nodup_len st7.gn (fun r h => (st7.gk r).mp h)
                    simp [keys] at this
                    omega
                  have lm : ms.length < 60 := by
                    have := nodup_len st7.mn (fun r h => st7.mkr r h)
                    simp [keys] at this
                    omega
                  refine ⟨t3, _, rfl, SqT.of h8, rfl, _, _, rfl, .ref G, rfl, _, rfl, G, _, rfl, put_S (v := y + back wf (look os) (at0 gs) c) st8.gat st8.gn (size1000 (by omega)) rfl, ?_⟩
                  refine ⟨_, _, rfl, .ref M, rfl, _, rfl, M, _, rfl, put_S (v := c) (by rw [upd_ne hMG]; exact st8.mat) st8.mn (size1000 (by omega)) rfl, rfl, ?_⟩
                  refine ⟨put gs r (y + back wf (look os) (at0 gs) c), put ms r c, true, _, _, _, _, rfl, ?_, ⟨by rw [upd_ne hMG.symm, upd_same], upd_same, nodup_put st8.gn, nodup_put st8.mn, fun r' => ?_, fun r' h => ?_, bf'⟩, ?_⟩
                  · exact (ex8.trans (.upd_in (by simp))).trans (.upd_in (by simp))
                  · rw [keys_put_in _ hgk]; exact st8.gk r'
                  · rcases mem_keys_put.mp h with e | e
                    · rw [e]; exact hrk
                    · exact st8.mkr r' e
                  · rw [if_pos rfl]
                    have lt : left (keys rs) u (at0 (put gs r (y + back wf (look os) (at0 gs) c))) < left (keys rs) u (at0 gs) := by
                      refine left_lt st7.bf bf' (fun d => ?_) hrk ?_
                      · rw [at0_put]
                        show at0 gs d ≤ if d = r then _ else _
                        split
                        · rename_i e; rw [e]; omega
                        · exact Int.le_refl _
                      · rw [at0_put]
                        show at0 gs r < if r = r then _ else _
                        rw [if_pos rfl]
                        exact z
                    cases fl with
                    | true => rw [if_pos rfl] at hf; omega
                    | false => rw [if_neg Bool.false_ne_true] at hf; rw [hf.1] at lt ⊢; exact lt
              · have z := of_decide_eq_false (Bool.eq_false_iff.mpr z)
                exact ⟨gs, ms, fl, _, _, _, _, rfl, ex7, st7, done (by omega)⟩
          · rintro σ H6 ⟨gs, ms, fl, v8, v9, v10, v11, rfl, ex6, st6, hf⟩
            refine ⟨ex6 d _ upd_same (notin d _ hdL), gs, ms, fl, _, _, _, _, _, _, rfl, ex5.trans (Ex.unlock hd5 ex6), ⟨by rw [upd_ne hdG.symm]; exact st6.gat, by rw [upd_ne hdM.symm]; exact st6.mat, st6.gn, st6.mn, st6.gk, st6.mkr, st6.bf⟩, ?_⟩
            cases fl with
            | true => rw [if_pos rfl] at hf ⊢; exact hf
            | false =>
              rw [if_neg Bool.false_ne_true] at hf ⊢
              obtain ⟨h1, h2, h3, h4⟩ := hf
              refine ⟨h1, h2, fun r' hr' c x hx => ?_⟩
              rcases (mem_take_succ hTk).mp hr' with h | h
              · exact h3 r' h c x hx
              · subst h
                refine h4 (c, x) ?_
                rw [emb_length, List.take_of_length_le (Nat.le_refl _)]
                exact mem_of_look (by rw [kL]; exact hx)
        · rintro σ H4 ⟨gs, ms, fl, v6, v7, v8, v9, v10, v11, rfl, ex4, st4, hf⟩
          refine ⟨ex4 a _ upd_same (notin a _ ha), ?_⟩
          have ex5 : Ex [] H (upd H4 a (dSR rs)) := Ex.drop (Ex.drop (Ex.trans (ex3.mono (by simp)) (Ex.unlock ha3 ex4)) hGH) hMH
          have st5 : BSt (upd H4 a (dSR rs)) G M rs wf (look os) u gs ms := st4.new hGa.symm hMa.symm
          cases fl with
          | true =>
            rw [if_pos rfl] at hf
            exact ⟨_, by rw [if_pos rfl]; omega, gs, ms, true, _, _, _, _, _, _, rfl, ex5, st5, rfl, fun z => nomatch z⟩
          | false =>
            rw [if_neg Bool.false_ne_true] at hf
            obtain ⟨rfl, rfl, hf⟩ := hf
            refine ⟨_, by rw [if_pos rfl]; exact Nat.lt_succ_self _, gs, ms, false, _, _, _, _, _, _, rfl, ex5, st5, rfl, fun _ r c x h => ?_⟩
            refine hf r ?_ c x h
            rw [emb_length, keys_take]
            exact (S r c x h).1
end
end KN

namespace KN
open PySem L2 PySem.Spec
open PyProof.Rows hiding St
def vO : Option Str → V
  | none => .non
  | some r => .str r
/-- the entries of some rows -/
def onR (w : Str → Int → Option Int) (R : List Str) : Str → Int → Option Int := fun r c => if r ∈ R then w r c else none
theorem onR_some {w : Str → Int → Option Int} {R : List Str} {r : Str} {c x : Int} (h : onR w R r c = some x) : r ∈ R ∧ w r c = some x := by
  unfold onR at h
  by_cases e : r ∈ R
  · rw [if_pos e] at h; exact ⟨e, h⟩
  · rw [if_neg e] at h; cases h
structure GSt (H : Hp) (Rw Pa Ow : Addr) (rs : List (Str × Addr)) (ps : List (Str × Int)) (os : List (Int × Str)) (C : List Int) : Prop where
  rat : H Rw = some (dSR rs)
  pat : H Pa = some (dSI ps)
  oat : H Ow = some (dIS os)
  pn : (keys ps).Nodup
  on : (keys os).Nodup
  pk : ∀ r ∈ keys ps, r ∈ keys rs
  ok : ∀ c ∈ keys os, c ∈ C
theorem GSt.new {H : Hp} {Rw Pa Ow t : Addr} {rs : List (Str × Addr)} {ps : List (Str × Int)} {os : List (Int × Str)} {C : List Int} {o : HO} (g : GSt H Rw Pa Ow rs ps os C) (h : H t = none) : GSt (upd H t o) Rw Pa Ow rs ps os C :=
  ⟨by rw [upd_ne (ne_of_none g.rat h)]; exact g.rat, by rw [upd_ne (ne_of_none g.pat h)]; exact g.pat, by rw [upd_ne (ne_of_none g.oat h)]; exact g.oat, g.pn, g.on, g.pk, g.ok⟩
theorem GSt.ex {H H' : Hp} {Rw Pa Ow : Addr} {rs : List (Str × Addr)} {ps : List (Str × Int)} {os : List (Int × Str)} {C : List Int} (g : GSt H Rw Pa Ow rs ps os C) (x : Ex [] H H') : GSt H' Rw Pa Ow rs ps os C :=
  ⟨x _ _ g.rat (by simp), x _ _ g.pat (by simp), x _ _ g.oat (by simp), g.pn, g.on, g.pk, g.ok⟩
section
variable {P : Program} {w : World} {K : PySem.W.Frag} {mg : Str → Option Value} {base : Heap}
def spGP : Sp := fun vs H Q _ => ∃ (a : Addr) (T : List ((Str × Int) × Int)) (R : List Str) (C : List Int), vs = [.ref a] ∧ TabAt H a T ∧ Supp (wT T) R C ∧ C.length < 60 ∧ (∀ r ∈ R, ∃ c, (r, c) ∈ keys T) ∧
  ∀ (p : Addr) (H' : Hp) (ps : List (Str × Int)), Ex [] H H' → H p = none → PairsAt H' p ps → Cert (wT T) R C ps → Q (.ref p) H'
theorem scGP : FnScope ["entries", "every", "rows", "pairs", "owners", "first", "own", "moves", "row", "column", "other"] ["entries"] (defScope sGP) := ⟨rfl, rfl, rfl, by decide +kernel, rfl, by decide +kernel, by decide +kernel⟩
theorem ok_GP {f fR fB : Addr} {fd fdR fdB : FuncData} (F : Fun K "greatest_pairs" "greatest_pairs" sGP f fd) (FR : Fun K "row_entries" "row_entries" sRE fR fdR) (bR : Binds K fdR ["entries"] []) (gR : mg "row_entries" = some (.ref fR))
    (FB : Fun K "best_moves" "best_moves" sBM fB fdB) (bB : Binds K fdB ["rows", "pairs", "owners"] []) (gB : mg "best_moves" = some (.ref fB)) (ms : mg "sorted" = none) : FnOk P w K mg base CX0 2 f fd ["entries"] spGP := by
  have GR : FnOk P w K mg base CX0 1 fR fdR ["entries"] spRE := ok_RE FR ms
  have GB : FnOk P w K mg base CX0 1 fB fdB ["rows", "pairs", "owners"] spBM := ok_BM FB
  refine F.ok scGP (fun vs H Q E h => ?_) (fun cdv A outer s H vs Q E hr h => ?_)
  · obtain ⟨a, T, R, C, rfl, _⟩ := h
    rfl
  · obtain ⟨a, T, R, C, rfl, ta, S, hC, hRT, q⟩ := h
    have hu := hu_of hr
    have nd := scGP.nd
    refine ⟨_, pss_cons (ps_set (i := 1) nd rfl (.inl rfl) (pe_call GR hr (by rfl) gR FR.kp bR .nil pass0 (pa_cons (pv 0) pa_nil)))
      (pss_cons (ps_par3 (i := 2) (j := 3) (l := 4) rfl nd rfl rfl rfl (by decide) (by decide) (by decide) rfl rfl rfl (pa_cons pe_dnewK (pa_cons pe_dnewK (pa_cons pe_dnewK pa_nil))) rfl)
      (pss_cons (ps_lock (ps_for PassesOwn.never rfl (pi_items (pv 1)) (pg_tup rfl (pgs_cons (pg_name (i := 5) nd rfl (.inl rfl)) (pgs_cons (pg_name (i := 6) nd rfl (.inl rfl)) pgs_nil)))
        (pss_cons (ps_dput hu (pv 2) (pv 5) (pv 6) rfl)
        (pss_cons (ps_set (i := 7) nd rfl (.inl rfl) (pe_call GB hr (by rfl) gB FB.kp bB .nil pass0 (pa_cons (pv 2) (pa_cons (pv 3) (pa_cons (pv 4) pa_nil)))))
        (pss_cons (ps_set (i := 8) nd rfl (.inl rfl) (pv 5))
        (pss_cons (ps_while PassesOwn.never (pt_cmp (pc_dinN hu (pv 8) (pv 7)))
          (pss_cons (ps_set (i := 9) nd rfl (.inl rfl) (pe_dget hu (pv 7) (pv 8) (fun _ _ => rfl)))
          (pss_cons (ps_set (i := 10) nd rfl (.inl rfl) (pe_dget1 hu (pv 4) (pv 9) ⟨rfl, rfl, rfl, rfl⟩))
          (pss_cons (ps_asg (pe_tup (pa_cons (pv 9) (pa_cons (pv 8) pa_nil))) (pg_tup rfl (pgs_cons (pg_sub (pv 3) (pv 8) (set_dict hu)) (pgs_cons (pg_sub (pv 4) (pv 9) (set_dict hu)) pgs_nil))))
          (pss_one (ps_set (i := 8) nd rfl (.inl rfl) (pv 10)))))))
        (pss_one (ps_expr (pe_bm PySem.F.plainAttrs_dict PySem.F.slot_dict_pop PySem.F.type_dict_pop mt_popN (pv 3) (pa_cons (pv 8) (pa_cons pe_non pa_nil)))))))))))
      (pss_one (ps_ret (pv 3))))), ?_⟩
    refine ⟨.ref a, rfl, a, T, rfl, ta, fun E0 H1 rs ex1 hEH hE1 ra cov => ?_⟩
    intro Rw hRw Pa hPa Ow hOw
    have nR : H1 Rw = none := hRw
    have nPR : Pa ≠ Rw := fun e => by rw [e, upd_same] at hPa; cases hPa
    have nP : H1 Pa = none := by rw [upd_ne nPR] at hPa; exact hPa
    have nOP : Ow ≠ Pa := fun e => by rw [e, upd_same] at hOw; cases hOw
    have nOR : Ow ≠ Rw := fun e => by rw [upd_ne nOP, e, upd_same] at hOw; cases hOw
    have nO : H1 Ow = none := by rw [upd_ne nOP, upd_ne nOR] at hOw; exact hOw
    refine ⟨_, _, _, rfl, ?_⟩
    have ex2 : Ex [] H1 (upd (upd (upd H1 Rw (.dK [])) Pa (.dK [])) Ow (.dK [])) := (((Ex.refl [] H1).put_new nR).put_new nP).put_new nO
    have st2 : GSt (upd (upd (upd H1 Rw (.dK [])) Pa (.dK [])) Ow (.dK [])) Rw Pa Ow [] [] [] C := ⟨by rw [upd_ne nOR.symm, upd_ne nPR.symm, upd_same]; rfl, by rw [upd_ne nOP.symm, upd_same]; rfl, upd_same, by simp, by simp, by simp, by simp⟩
    generalize upd (upd (upd H1 Rw (.dK [])) Pa (.dK [])) Ow (.dK []) = H2 at ex2 st2
    have hE2 : H2 E0 = some (dSR rs) := ex2 E0 _ hE1 (by simp)
    have notin : ∀ x u, H1 x = some u → x ∉ [Rw, Pa, Ow] := fun x u hx z => by
      rcases List.mem_cons.mp z with z | z
      · rw [z, nR] at hx; cases hx
      · rcases List.mem_cons.mp z with z | z
        · rw [z, nP] at hx; cases hx
        · rw [List.mem_singleton.mp z, nO] at hx; cases hx
    have hER : E0 ≠ Rw := ne_of_none hE1 nR
    have hEP : E0 ≠ Pa := ne_of_none hE1 nP
    have hEO : E0 ≠ Ow := ne_of_none hE1 nO
    refine ⟨E0, _, hE2, mutK, fun od => ?_⟩
    refine ⟨.ref E0, rfl, E0, _, _, rfl, upd_same, for_it walk_items (fun i σ H' => ∃ (ps : List (Str × Int)) (os : List (Int × Str)) (v5 v6 v7 v8 v9 v10 : Option V), σ = [some (.ref a), some (.ref E0), some (.ref Rw), some (.ref Pa), some (.ref Ow), v5, v6, v7, v8, v9, v10] ∧
      Ex [Rw, Pa, Ow] (upd H2 E0 (.frz od (dSR rs))) H' ∧ GSt H' Rw Pa Ow (rs.take i) ps os C ∧ Cert (onR (wT T) ((keys rs).take i)) ((keys rs).take i) C ps ∧ ∀ r c, look os c = some r ↔ (r, c) ∈ ps) ?_ ?_ ?_ ?_⟩
    · refine ⟨[], [], _, _, _, _, _, _, rfl, .refl _ _, ⟨by rw [upd_ne hER.symm]; exact st2.rat, by rw [upd_ne hEP.symm]; exact st2.pat, by rw [upd_ne hEO.symm]; exact st2.oat, st2.pn, st2.on, st2.pk, st2.ok⟩, ?_, by simp [look]⟩
      refine ⟨⟨by simp, by simp, fun r c h => by simp at h⟩, fun _ => 0, fun _ => 0, ⟨fun _ => Int.le_refl _, fun _ => Int.le_refl _, fun r c x h => ?_⟩, fun r c h => by simp at h, fun _ _ _ => rfl, fun _ _ _ => rfl⟩
      have := (onR_some h).1
      simp at this
    · rintro i σ H' hi ⟨ps, os, v5, v6, v7, v8, v9, v10, rfl, ex3, _⟩
      exact ex3 E0 _ upd_same (notin E0 _ hE1)
    · rintro i x σ H3 H4 hi ⟨ps, os, v5, v6, v7, v8, v9, v10, rfl, ex3, st3, ce, own⟩ ⟨t, kx, vx, rfl, ht, rfl, hk, hv⟩
      obtain ⟨r, d, hT, rfl, rfl⟩ := itemsK hk hv
      have hrd : (r, d) ∈ rs := List.mem_of_getElem? hT
      have hTk : (keys rs)[i]? = some r := by simp [keys, hT]
      have hrk : r ∈ keys rs := List.mem_of_getElem? hTk
      refine ⟨t, _, rfl, SqT.of upd_same, rfl, _, _, rfl, _, _, rfl, rfl, ?_⟩
      have ex4 : Ex [Rw, Pa, Ow] (upd H2 E0 (.frz od (dSR rs))) (upd H3 t (.tup [kV (kS r), .ref d])) := ex3.trans (.upd_new ht)
      have st4 : GSt (upd H3 t (.tup [kV (kS r), .ref d])) Rw Pa Ow (rs.take i) ps os C := st3.new ht
      generalize upd H3 t (.tup [kV (kS r), .ref d]) = H4 at ex4 st4
      have ktake : keys (rs.take i) = (keys rs).take i := by simp [keys, List.map_take]
      have hfresh : r ∉ (keys rs).take i := fun h => by
        have n2 : ((keys rs).take (i + 1)).Nodup := ra.nk.sublist (List.take_sublist _ _)
        rw [List.take_add_one, hTk] at n2
        exact (List.nodup_append.mp n2).2.2 r h r (by simp) rfl
      have e1 : put (rs.take i) r d = rs.take (i + 1) := by
        rw [keys_put_new d (by rw [ktake]; exact hfresh), List.take_add_one, hT]
        rfl
      have e2 : (keys rs).take (i + 1) = (keys rs).take i ++ [r] := by
        rw [List.take_add_one, hTk]
        rfl
      have hlen : i < rs.length := (List.getElem?_eq_some_iff.mp hT).1
      refine ⟨.ref d, rfl, .ref Rw, rfl, .str r, rfl, Rw, _, rfl, put_S (v := d) st4.rat (by rw [ktake]; exact ra.nk.sublist (List.take_sublist _ _)) (size1000 (by have := ra.len; simp; omega)) rfl, ?_⟩
      rw [e1]
      have ne1 : Pa ≠ Rw := nPR
      have ex5 : Ex [Rw, Pa, Ow] (upd H2 E0 (.frz od (dSR rs))) (upd H4 Rw (dSR (rs.take (i + 1)))) := ex4.trans (.upd_in (by simp))
      have ktake' : keys (rs.take (i + 1)) = (keys rs).take (i + 1) := by simp [keys, List.map_take]
      have st5 : GSt (upd H4 Rw (dSR (rs.take (i + 1)))) Rw Pa Ow (rs.take (i + 1)) ps os C := ⟨upd_same, by rw [upd_ne nPR]; exact st4.pat, by rw [upd_ne nOR]; exact st4.oat, st4.pn, st4.on, fun r' h => by
        have := st4.pk r' h
        rw [ktake] at this
        rw [ktake', e2]
        exact List.mem_append_left _ this, st4.ok⟩
      generalize upd H4 Rw (dSR (rs.take (i + 1))) = H5 at ex5 st5
      -- the table of the rows so far
      have SS : Supp (onR (wT T) ((keys rs).take i ++ [r])) ((keys rs).take i ++ [r]) C := fun r' c x h => ⟨(onR_some h).1, (S r' c x (onR_some h).2).2⟩
      have el : less (onR (wT T) ((keys rs).take i ++ [r])) r = onR (wT T) ((keys rs).take i) := by
        funext r' c
        unfold less onR
        by_cases z : r' = r
        · subst z
          rw [if_pos rfl, if_neg hfresh]
        · rw [if_neg z]
          have : r' ∈ (keys rs).take i ++ [r] ↔ r' ∈ (keys rs).take i := by simp [z]
          simp only [this]
      rw [← el] at ce
      obtain ⟨u, pr, pre⟩ := pre_of SS hfresh ce own
      rw [← e2] at pre SS
      have e3 : keys (rs.take (i + 1)) = (keys rs).take (i + 1) := ktake'
      have hRA : RowsAt H5 (rs.take (i + 1)) (onR (wT T) ((keys rs).take (i + 1))) := by
        refine ⟨fun r' d' h => ?_, by rw [e3]; exact ra.nk.sublist (List.take_sublist _ _), by have := ra.len; simp; omega⟩
        have hm : (r', d') ∈ rs := List.mem_of_mem_take h
        obtain ⟨L, hL, nL, lL, kL⟩ := ra.row r' d' hm
        have hdE : d' ≠ E0 := ne_of hL hE1 (dII_ne hm)
        refine ⟨L, ex5 d' _ (by rw [upd_ne hdE]; exact ex2 d' _ hL (by simp)) (notin d' _ hL), nL, lL, fun c => ?_⟩
        rw [kL]
        have : r' ∈ (keys rs).take (i + 1) := by
          rw [← e3]
          exact List.mem_map.mpr ⟨_, h, rfl⟩
        unfold onR
        rw [if_pos this]
      have plen : ∀ {H : Hp} {ps os}, GSt H Rw Pa Ow (rs.take (i + 1)) ps os C → ps.length < 60 ∧ os.length < 60 := fun {H ps os} g => by
        have h1 := nodup_len g.pn g.pk
        have h2 := nodup_len g.on g.ok
        simp [keys] at h1 h2
        have := ra.len
        omega
      refine ⟨.ref Rw, rfl, .ref Pa, rfl, .ref Ow, rfl, Rw, Pa, Ow, rs.take (i + 1), ps, os, onR (wT T) ((keys rs).take (i + 1)), C, r, u, pr, rfl, st5.rat, hRA, ⟨st5.pat, st5.pn, (plen st5).1⟩, st5.oat, by rw [e3]; exact pre, by rw [e3]; exact SS, fun M H6 mvs g ex6 hM5 hM6 nM B Fx => ?_⟩
      have st6 := st5.ex ex6
      have ex6' : Ex [Rw, Pa, Ow] (upd H2 E0 (.frz od (dSR rs))) H6 := ex5.trans (ex6.mono (by simp))
      have hMR : M ≠ Rw := (ne_of_none st5.rat hM5).symm
      have hMP : M ≠ Pa := (ne_of_none st5.pat hM5).symm
      have hMO : M ≠ Ow := (ne_of_none st5.oat hM5).symm
      refine ⟨_, rfl, ?_⟩
      obtain ⟨n0, ch0⟩ := B.ends r
      refine ⟨fun m σ H' => ∃ (ps' : List (Str × Int)) (os' : List (Int × Str)) (cur : Option Str) (v9 v10 : Option V), σ = [some (.ref a), some (.ref E0), some (.ref Rw), some (.ref Pa), some (.ref Ow), some (.str r), some (.ref d), some (.ref M), some (vO cur), v9, v10] ∧
        Ex [Rw, Pa, Ow] (upd H2 E0 (.frz od (dSR rs))) H' ∧ H' M = some (dSI mvs) ∧ GSt H' Rw Pa Ow (rs.take (i + 1)) ps' os' C ∧ AInv (onR (wT T) ((keys rs).take (i + 1))) ((keys rs).take (i + 1)) C (look os) g (look mvs) m cur ps' (look os'),
        ⟨n0, ps, os, some r, _, _, rfl, ex6', hM6, st6, AInv.start pre B ch0⟩, ?_⟩
      rintro m σ H7 ⟨ps', os', cur, v9, v10, rfl, ex7, hM7, st7, ai⟩
      have fin : (∀ r', cur = some r' → look mvs r' = none) → Cert (onR (wT T) ((keys rs).take (i + 1))) ((keys rs).take (i + 1)) C (minus ps' cur) ∧ ∀ r c, look os' c = some r ↔ (r, c) ∈ minus ps' cur := fun hh => ai.done pre B Fx hh
      cases cur with
      | none =>
        refine ⟨_, rfl, .ref M, rfl, .inr ⟨M, _, rfl, rfl, .inl hM7, false, rfl, goF rfl ?_⟩⟩
        refine ⟨.ref Pa, rfl, .inr (.inr (.inl ⟨rfl, .inl ⟨_, st7.pat⟩⟩)), _, rfl, Pa, _, rfl, st7.pat, .inr ⟨_, rfl, ?_⟩⟩
        obtain ⟨ce', own'⟩ := fin (fun _ h => nomatch h)
        exact ⟨ps', os', _, _, _, _, _, _, rfl, ex7, st7, ce', own'⟩
      | some rc =>
        refine ⟨_, rfl, .ref M, rfl, .inl ⟨M, _, rfl, get_S (.inl hM7) rfl, _, rfl, ?_⟩⟩
        cases hmv : look mvs rc with
        | none =>
          refine goF rfl ?_
          obtain ⟨ce', own'⟩ := fin (fun _ h => by cases h; exact hmv)
          refine ⟨.ref Pa, rfl, .inr (.inr (.inl ⟨rfl, .inl ⟨_, st7.pat⟩⟩)), _, rfl, Pa, _, rfl, st7.pat, .inl ⟨kS rc, _, rfl, fun v hv => ?_, fun hv => ?_⟩⟩
          · rw [emb_del kS_inj]
            refine ⟨del ps' rc, os', _, _, _, _, _, _, rfl, ex7.trans (.upd_in (by simp)), ⟨by rw [upd_ne nPR.symm]; exact st7.rat, upd_same, by rw [upd_ne nOP]; exact st7.oat, nodup_del st7.pn, st7.on, fun r' h => ?_, st7.ok⟩, ce', own'⟩
            obtain ⟨y, hy, rfl⟩ := List.mem_map.mp h
            exact st7.pk _ (List.mem_map.mpr ⟨y, (del_mem.mp hy).1, rfl⟩)
          · have : rc ∉ keys ps' := by
              rw [emb_val kS_inj] at hv
              refine look_none.mp ?_
              cases z : look ps' rc with
              | none => rfl
              | some d => rw [z] at hv; cases hv
            rw [show minus ps' (some rc) = del ps' rc from rfl, del_none this] at ce' own'
            exact ⟨ps', os', _, _, _, _, _, _, rfl, ex7, st7, ce', own'⟩
        | some c =>
          refine goT rfl ?_
          obtain ⟨same, k, rfl, ai'⟩ := ai.step B Fx hmv
          obtain ⟨x, hx, _⟩ := B.mvr rc c hmv
          obtain ⟨hrR, hcC⟩ := SS rc c x hx
          refine ⟨_, fun σ' H' h => h, ?_⟩
          refine ⟨.ref M, rfl, .str rc, rfl, M, .int c, rfl, get_S (.inl hM7) (by rw [hmv]; rfl), ?_⟩
          refine ⟨.ref Ow, rfl, Ow, rfl, .inl ⟨_, .inl st7.oat⟩, .int c, rfl, _, get_I (.inl st7.oat) rfl, ?_⟩
          have ev : ((look os' c).map V.str).getD .non = vO (look os' c) := by cases look os' c <;> rfl
          rw [ev]
          refine ⟨_, rfl, _, rfl, le2, fun t ht => ?_⟩
          have ex8 := ex7.trans (Ex.upd_new (l := [Rw, Pa, Ow]) (o := .tup [.int c, vO (some rc)]) ht)
          have st8 := st7.new (o := .tup [.int c, vO (some rc)]) ht
          have hM8 : upd H7 t (.tup [.int c, vO (some rc)]) M = some (dSI mvs) := by rw [upd_ne (ne_of_none hM7 ht)]; exact hM7
          have ht8 : upd H7 t (.tup [.int c, vO (some rc)]) t = some (.tup [.int c, .str rc]) := upd_same
          generalize upd H7 t (.tup [.int c, vO (some rc)]) = H8 at ex8 st8 hM8 ht8
          obtain ⟨lp, lo⟩ := plen st7
          refine ⟨t, _, rfl, SqT.of ht8, rfl, _, _, rfl, .ref Pa, rfl, .str rc, rfl, Pa, _, rfl, put_S (v := c) st8.pat st8.pn (size1000 (by omega)) rfl, ?_⟩
          refine ⟨_, _, rfl, .ref Ow, rfl, _, rfl, Ow, _, rfl, put_I (v := rc) (by rw [upd_ne nOP]; exact st8.oat) st8.on (size1000 (by omega)) rfl, rfl, ?_⟩
          refine ⟨_, rfl, k, Nat.lt_succ_self _, put ps' rc c, put os' c rc, look os' c, _, _, rfl, (ex8.trans (.upd_in (by simp))).trans (.upd_in (by simp)), by rw [upd_ne hMO, upd_ne hMP]; exact hM8, ⟨by rw [upd_ne nOR.symm, upd_ne nPR.symm]; exact st8.rat, by rw [upd_ne nOP.symm, upd_same], upd_same, nodup_put st8.pn, nodup_put st8.on, fun r' h => ?_, fun c' h => ?_⟩, ?_⟩
          · rcases mem_keys_put.mp h with e | e
            · rw [e, e3]; exact hrR
            · exact st8.pk r' e
          · rcases mem_keys_put.mp h with e | e
            · rw [e]; exact hcC
            · exact st8.ok c' e
          · rw [look_put']
            exact ai'
    · rintro σ H3 ⟨ps, os, v5, v6, v7, v8, v9, v10, rfl, ex3, st3, ce, own⟩
      refine ⟨ex3 E0 _ upd_same (notin E0 _ hE1), _, rfl, ?_⟩
      have exF : Ex [] H (upd H3 E0 (dSR rs)) := by
        refine ex1.trans ?_
        refine Ex.drop (Ex.drop (Ex.drop (Ex.trans (ex2.mono (by simp)) (Ex.unlock hE2 ex3)) nR) nP) nO
      rw [emb_length, keys_take] at ce
      rw [emb_length, List.take_of_length_le (Nat.le_refl _)] at st3
      have ew : onR (wT T) (keys rs) = wT T := by
        funext r c
        unfold onR
        by_cases z : r ∈ keys rs
        · rw [if_pos z]
        · rw [if_neg z]
          exact (look_none.mpr fun h => z (cov r c h)).symm
      rw [ew] at ce
      refine q Pa _ ps exF (ex1.free nP (by simp)) ⟨by rw [upd_ne hEP.symm]; exact st3.pat, st3.pn, ?_⟩ ?_
      · have h1 := nodup_len st3.pn st3.pk
        simp [keys] at h1
        have := ra.len
        omega
      · obtain ⟨im, u, pr, du, ti⟩ := ce
        refine ⟨im, u, pr, du, ti.eq, fun r hr => ti.ur r ?_, ti.pc⟩
        obtain ⟨c, hc⟩ := hRT r hr
        exact cov r c hc
end
end KN

namespace KN
open PySem L2 PySem.Spec
open PyProof.Rows hiding St
/-- an expression that is not reached -/
def tNevE : TE := fun _ _ _ => False
theorem pe_nev {X : Cx} {e : Expr} : PE X e tNevE := ⟨fun _ _ _ _ _ _ h => h.elim⟩
theorem atI_last {xs : List V} {k : Nat} {v : V} (hl : xs.length = k + 1) (h : xs[k]? = some v) : atI xs (-1) = some v := by
  unfold atI ixN
  rw [if_neg (by decide), if_pos (by omega)]
  have : ((-1 : Int) + (xs.length : Int)).toNat = k := by omega
  show (some ((-1 : Int) + (xs.length : Int)).toNat).bind _ = _
  rw [this]
  exact h
theorem exact_bounds (x a X dg : Int) (hX : 1 ≤ X) (h0 : 0 ≤ dg) (h1 : dg ≤ X) (ha : 1 ≤ a) : (a * a * X) * x ≤ ((x * a + 1) * a + 0) * X + dg ∧ ((x * a + 1) * a + 0) * X + dg ≤ (a * a * X) * x + (a + 1) * X := by
  have e : ((x * a + 1) * a + 0) * X = (a * a * X) * x + a * X := by grind
  have e2 : (a + 1) * X = a * X + X := by grind
  have : 0 ≤ a * X := Int.mul_nonneg (by omega) (by omega)
  rw [e, e2]
  omega
theorem pow_step (b : Nat) (k : Nat) : (b : Int) ^ k * (b : Int) = (b : Int) ^ (k + 1) := (Int.pow_succ ..).symm
theorem pow_le10 {b k : Nat} (hb : b ≤ 10) (hk : k ≤ 9) : (b : Int) ^ k ≤ 1000000000 ∧ 0 ≤ (b : Int) ^ k := by
  have h1 : b ^ k ≤ 10 ^ 9 := Nat.le_trans (Nat.pow_le_pow_left hb k) (Nat.pow_le_pow_right (by decide) hk)
  have e : ((b ^ k : Nat) : Int) = (b : Int) ^ k := Int.natCast_pow b k
  have h2 : (10 : Nat) ^ 9 = 1000000000 := by decide
  omega
theorem digit_le {m pi ni n : Nat} (hp : pi < m) (hn : ni < n) : 0 ≤ ((m : Int) - (pi : Int)) * ((m : Int) + 1) ^ (n - 1 - ni) ∧ ((m : Int) - (pi : Int)) * ((m : Int) + 1) ^ (n - 1 - ni) ≤ ((m : Int) + 1) ^ n := by
  have e : ((m : Int) - (pi : Int)) = ((m - pi : Nat) : Int) := by omega
  have e2 : (m : Int) + 1 = ((m + 1 : Nat) : Int) := by omega
  have h : (m - pi) * (m + 1) ^ (n - 1 - ni) ≤ (m + 1) ^ n := by
    have h1 : (m - pi) * (m + 1) ^ (n - 1 - ni) ≤ (m + 1) * (m + 1) ^ (n - 1 - ni) := Nat.mul_le_mul_right _ (by omega)
    have h2 : (m + 1) * (m + 1) ^ (n - 1 - ni) = (m + 1) ^ (n - 1 - ni + 1) := by rw [Nat.pow_succ, Nat.mul_comm]
    have h3 : (m + 1) ^ (n - 1 - ni + 1) ≤ (m + 1) ^ n := Nat.pow_le_pow_right (by omega) (by omega)
    omega
  rw [e, e2, ← Int.natCast_pow, ← Int.natCast_pow, ← Int.natCast_mul]
  omega
section
variable {P : Program} {w : World} {K : PySem.W.Frag} {mg : Str → Option Value} {base : Heap}
def spET : Sp := fun vs H Q _ => ∃ (a : Addr) (T : List ((Str × Int) × Int)), vs = [.ref a, .non] ∧ TabAt H a T ∧ T.length ≤ 9 ∧
  ∀ (p : Addr) (H' : Hp) (Tx : List ((Str × Int) × Int)) (R : List Str) (C : List Int) (A σ : Int), Ex [] H H' → H p = none → TabAt H' p Tx → R.Nodup → C.Nodup → Supp (wT T) R C → (∀ r ∈ R, ∃ c, (r, c) ∈ keys T) → C.length < 60 →
    (∀ k, k ∈ keys Tx ↔ k ∈ keys T) → 0 ≤ σ → (R.length : Int) * σ < A → (∀ r c x y, wT T r c = some x → wT Tx r c = some y → A * x ≤ y ∧ y ≤ A * x + σ) → Q (.ref p) H'
theorem scET : FnScope ["table", "homes", "names", "places", "powers", "name", "found", "key", "weight", "place", "is_home", "digit", "rank"] ["table", "homes"] (defScope sET) := ⟨rfl, rfl, rfl, by decide +kernel, rfl, by decide +kernel, by decide +kernel⟩
theorem ok_ET {f fN fP : Addr} {fd fdN fdP : FuncData} (F : FunD K "exact_table" "exact_table" (defArgs sET) (defBody sET) (defScope sET) [] [("homes", .non)] f fd) (FN : Fun K "table_names" "table_names" sTN fN fdN) (bN : Binds K fdN ["table"] []) (gN : mg "table_names" = some (.ref fN))
    (FP : Fun K "table_places" "table_places" sTP fP fdP) (bP : Binds K fdP ["table"] []) (gP : mg "table_places" = some (.ref fP)) (ms : mg "sorted" = none) (ml : mg "len" = none) (mi : mg "int" = none) : FnOk P w K mg base CX0 2 f fd ["table", "homes"] spET := by
  have GN : FnOk P w K mg base CX0 1 fN fdN ["table"] spTN := ok_TN FN ms
  have GP : FnOk P w K mg base CX0 1 fP fdP ["table"] spTP := ok_TP FP ms
  refine F.ok scET (fun vs H Q E h => ?_) (fun cdv A outer s H vs Q E hr h => ?_)
  · obtain ⟨a, T, rfl, _⟩ := h
    rfl
  · obtain ⟨a, T, rfl, ta, t9, q⟩ := h
    have hu := hu_of hr
    have nd := scET.nd
    refine ⟨_, PSs.nox (pss_cons (ps_par (i := 2) (j := 3) rfl nd rfl rfl (by decide) rfl rfl (pa_cons (pe_call GN hr (by rfl) gN FN.kp bN .nil pass0 (pa_cons (pv 0) pa_nil)) (pa_cons (pe_call GP hr (by rfl) gP FP.kp bP .nil pass0 (pa_cons (pv 0) pa_nil)) pa_nil)) rfl)
      (pss_cons (ps_set (i := 4) nd rfl (.inl rfl) (pe_lst (pa_cons pe_int pa_nil)))
      (pss_cons (ps_for PassesOwn.never rfl (pi_list (pv 2)) (pg_name (i := 5) nd rfl (.inl rfl))
        (pss_one (ps_expr (pe_bm PySem.F.plainAttrs_list PySem.F.slot_list_append PySem.F.type_list_append mt_append (pv 4) (pa_cons (pe_op op_mul (pe_ix ix_list (pv 4) (pe_un un_neg pe_int) (fun _ _ => rfl)) (pe_op op_add (pe_callB call_len_seq (by rfl) ml PySem.boot_len (pa_cons (pv 3) pa_nil)) pe_int)) pa_nil)))))
      (pss_cons (ps_set (i := 6) nd rfl (.inl rfl) pe_dnewT)
      (pss_cons (ps_lock (ps_for PassesOwn.never rfl (pi_pairs (pv 0)) (pg_tup rfl (pgs_cons (pg_name (i := 7) nd rfl (.inl rfl)) (pgs_cons (pg_name (i := 8) nd rfl (.inl rfl)) pgs_nil)))
        (pss_cons (ps_asg (pv 7) (pg_tup rfl (pgs_cons (pg_name (i := 5) nd rfl (.inl rfl)) (pgs_cons (pg_name (i := 9) nd rfl (.inl rfl)) pgs_nil))))
        (pss_cons (ps_set (i := 10) nd rfl (.inl rfl) (pe_andT (pe_cmp (pc_notN (pv 1))) pe_nev))
        (pss_cons (ps_set (i := 11) nd rfl (.inl rfl) (pe_op op_mul (pe_op op_sub (pe_callB call_len_seq (by rfl) ml PySem.boot_len (pa_cons (pv 3) pa_nil)) (pe_bm PySem.F.plainAttrs_list PySem.F.slot_list_index PySem.F.type_list_index mt_index (pv 3) (pa_cons (pv 9) pa_nil)))
            (pe_ix ix_list (pv 4) (pe_op op_sub (pe_op op_sub (pe_callB call_len_seq (by rfl) ml PySem.boot_len (pa_cons (pv 2) pa_nil)) pe_int) (pe_bm PySem.F.plainAttrs_list PySem.F.slot_list_index PySem.F.type_list_index mt_index (pv 2) (pa_cons (pv 5) pa_nil))) (fun _ _ => rfl))))
        (pss_cons (ps_set (i := 12) nd rfl (.inl rfl) (pe_op op_add (pe_op op_mul (pe_op op_add (pe_op op_mul (pv 8) (pe_op op_add (pe_callB call_len_seq (by rfl) ml PySem.boot_len (pa_cons (pv 2) pa_nil)) pe_int)) pe_int) (pe_op op_add (pe_callB call_len_seq (by rfl) ml PySem.boot_len (pa_cons (pv 2) pa_nil)) pe_int)) (pe_callTy call_int1 (by rfl) mi PyProof.Rows.boot_int (pa_cons (pv 10) pa_nil))))
        (pss_one (ps_dput hu (pv 6) (pv 7) (pe_op op_add (pe_op op_mul (pv 12) (pe_ix ix_list (pv 4) (pe_callB call_len_seq (by rfl) ml PySem.boot_len (pa_cons (pv 2) pa_nil)) (fun _ _ => rfl))) (pv 11)) rfl))))))))
      (pss_one (ps_ret (pv 6)))))))), ?_⟩
    refine ⟨.ref a, rfl, a, T, rfl, ta, fun Na H1 R ex1 hNa hN1 nR mR => ?_⟩
    have ta1 := ta.ex ex1 (by simp)
    refine ⟨.ref a, rfl, a, T, rfl, ta1, fun Pa H2 C ex2 hPa1 hP2 nC mC => ?_⟩
    refine ⟨_, _, rfl, ?_⟩
    have ta2 := ta1.ex ex2 (by simp)
    have hN2 : H2 Na = some (.lst (R.map V.str)) := ex2 Na _ hN1 (by simp)
    have lenk : (keys T).length = T.length := by simp [keys]
    have lR : R.length ≤ T.length := by
      have h1 := nodup_len (l := R) (L := (keys T).map Prod.fst) nR (fun r h => let ⟨c, hc⟩ := (mR r).mp h; List.mem_map.mpr ⟨_, hc, rfl⟩)
      simpa [keys] using h1
    have lC : C.length ≤ T.length := by
      have h1 := nodup_len (l := C) (L := (keys T).map Prod.snd) nC (fun r h => let ⟨c, hc⟩ := (mC r).mp h; List.mem_map.mpr ⟨_, hc, rfl⟩)
      simpa [keys] using h1
    refine ⟨by show 1 ≤ sizeLine; decide, fun W hW => ?_⟩
    have hWa : W ≠ a := (ne_of_none ta2.at_ hW).symm
    have hWN : W ≠ Na := (ne_of_none hN2 hW).symm
    have hWP : W ≠ Pa := (ne_of_none hP2 hW).symm
    have hW2 : H2 W = none := hW
    have hWH : H W = none := (ex1.trans ex2).free hW (by simp)
    refine ⟨_, rfl, Na, rfl, ⟨_, SqL.of (by rw [upd_ne hWN.symm]; exact hN2)⟩, for_list (K := K) (a := Na) (xs := R.map V.str) (fun i σ H' => ∃ (pw : List Int) (v5 : Option V), σ = [some (.ref a), some .non, some (.ref Na), some (.ref Pa), some (.ref W), v5, none, none, none, none, none, none, none] ∧
      Ex [W] H2 H' ∧ H' W = some (.lst (pw.map V.int)) ∧ pw.length = i + 1 ∧ ∀ j, j ≤ i → pw[j]? = some (((C.length : Int) + 1) ^ j)) ⟨[1], none, rfl, .upd_in (by simp), upd_same, rfl, fun j hj => by
        obtain rfl : j = 0 := by omega
        rfl⟩ ?_ ?_ ?_⟩
    · rintro i σ H' hi ⟨pw, v5, rfl, ex3, _⟩
      exact SqL.of (ex3 Na _ hN2 (by simpa using hWN.symm))
    · rintro i y σ H3 hi ⟨pw, v5, rfl, ex3, hW3, lpw, hpw⟩
      have hi' : i < R.length := by
        have := (List.getElem?_eq_some_iff.mp hi).1
        simpa using this
      have hP3 : H3 Pa = some (.lst (C.map V.int)) := ex3 Pa _ hP2 (by simpa using hWP.symm)
      have gl : (pw.map V.int)[i]? = some (.int (((C.length : Int) + 1) ^ i)) := by rw [List.getElem?_map, hpw i (Nat.le_refl _)]; rfl
      refine ⟨_, rfl, .inl ⟨rfl, _, SqL.of hW3⟩, ?_⟩
      refine ⟨.ref W, rfl, 1, rfl, W, _, -1, _, rfl, rfl, SqL.of hW3, atI_last (k := i) (by simpa using lpw) gl, ?_⟩
      refine ⟨.ref Pa, rfl, Pa, _, rfl, .inl (SqL.of hP3), _, _, rfl, rfl, _, _, rfl, rfl, .inr (by rw [List.length_map]; constructor <;> omega), ?_⟩
      rw [List.length_map]
      refine ⟨W, _, _, rfl, rfl, hW3, size1000 (by simp; omega), ?_⟩
      refine ⟨pw ++ [((C.length : Int) + 1) ^ i * ((C.length : Int) + 1)], _, rfl, ex3.trans (.upd_in (by simp)), by rw [upd_same]; simp, by simp; omega, fun j hj => ?_⟩
      by_cases e : j = i + 1
      · subst e
        rw [List.getElem?_append_right (by omega), lpw]
        simp [Int.pow_succ]
      · rw [List.getElem?_append_left (by omega)]
        exact hpw j (by omega)
    · rintro σ H3 ⟨pw, v5, rfl, ex3, hW3, lpw, hpw⟩
      rw [List.length_map] at lpw hpw
      have exH3 : Ex [] H H3 := (ex1.trans ex2).trans (ex3.drop hW2)
      have ta3 := ta.ex exH3 (by simp)
      have hN3 : H3 Na = some (.lst (R.map V.str)) := ex3 Na _ hN2 (by simpa using hWN.symm)
      have hP3 : H3 Pa = some (.lst (C.map V.int)) := ex3 Pa _ hP2 (by simpa using hWP.symm)
      intro D hD
      have hDa : D ≠ a := (ne_of_none ta3.at_ hD).symm
      have hDH : H D = none := exH3.free hD (by simp)
      have ha4 : upd H3 D (.dT []) a = some (dT T) := by rw [upd_ne hDa.symm]; exact ta3.at_
      refine ⟨a, _, ha4, mutT, fun od => ?_⟩
      refine ⟨.ref a, rfl, a, _, _, rfl, upd_same, for_it walk_pairs (fun i σ H' => ∃ (Tx : List ((Str × Int) × Int)) (v5 v7 v8 v9 v10 v11 v12 : Option V), σ = [some (.ref a), some .non, some (.ref Na), some (.ref Pa), some (.ref W), v5, some (.ref D), v7, v8, v9, v10, v11, v12] ∧
        Ex [D] (upd (upd H3 D (.dT [])) a (.frz od (dT T))) H' ∧ H' D = some (dT Tx) ∧ keys Tx = (keys T).take i ∧ ∀ r c x y, look T (r, c) = some x → look Tx (r, c) = some y → ∃ dg : Int, 0 ≤ dg ∧ dg ≤ ((C.length : Int) + 1) ^ R.length ∧
          y = ((x * ((R.length : Int) + 1) + 1) * ((R.length : Int) + 1) + 0) * ((C.length : Int) + 1) ^ R.length + dg) ?_ ?_ ?_ ?_⟩
      · refine ⟨[], _, _, _, _, _, _, _, rfl, .refl _ _, by rw [upd_ne hDa, upd_same]; rfl, by simp, by simp [look]⟩
      · rintro i σ H' hi ⟨Tx, v5, v7, v8, v9, v10, v11, v12, rfl, ex4, _⟩
        exact ex4 a _ upd_same (by simpa using hDa.symm)
      · rintro i x σ H4 H5 hi ⟨Tx, v5, v7, v8, v9, v10, v11, v12, rfl, ex4, hD4, kTx, bTx⟩ ⟨t, k, v, kq, hk, rfl, ht, hkq, rfl⟩
        obtain ⟨⟨r, c⟩, y, hT, rfl, rfl⟩ := keyT hk
        rw [pairK_tup] at hkq
        have hTk : (keys T)[i]? = some (r, c) := by simp [keys, hT]
        have hTm : ((r, c), y) ∈ T := List.mem_of_getElem? hT
        have wy : look T (r, c) = some y := look_of_mem ta.nk hTm
        have rR : r ∈ R := (mR r).mpr ⟨c, key_of_look wy⟩
        have cC : c ∈ C := (mC c).mpr ⟨r, key_of_look wy⟩
        have tD : t ≠ D := (ne_of_none hD4 ht).symm
        have ex5 : Ex [D] (upd (upd H3 D (.dT [])) a (.frz od (dT T))) (upd H4 t (.tup [.ref kq, .int y])) := ex4.trans (.upd_new ht)
        have hD5 : upd H4 t (.tup [.ref kq, .int y]) D = some (dT Tx) := by rw [upd_ne tD.symm]; exact hD4
        have hkq5 : upd H4 t (.tup [.ref kq, .int y]) kq = some (tupP (r, c)) := by rw [upd_ne (ne_of_none hkq ht)]; exact hkq
        refine ⟨t, _, rfl, SqT.of upd_same, rfl, _, _, rfl, _, _, rfl, rfl, ?_⟩
        generalize upd H4 t (.tup [.ref kq, .int y]) = H5 at ex5 hD5 hkq5
        have keepD : ∀ x u, H3 x = some u → x ≠ a → H5 x = some u := fun x u hx ne => by
          have nD : x ≠ D := ne_of_none hx hD
          exact ex5 x _ (by rw [upd_ne ne, upd_ne nD]; exact hx) (by simpa using nD)
        have hN5 := keepD Na _ hN3 (ne_of hN3 ta3.at_ (by intro z; cases z))
        have hP5 := keepD Pa _ hP3 (ne_of hP3 ta3.at_ (by intro z; cases z))
        have hW5 := keepD W _ hW3 (ne_of hW3 ta3.at_ (by intro z; cases z))
        -- the places of r and c
        obtain ⟨ni, hni, eni⟩ := List.mem_iff_getElem.mp rR
        obtain ⟨pi, hpi, epi⟩ := List.mem_iff_getElem.mp cC
        have gni : (R.map V.str)[ni]? = some (.str r) := by rw [List.getElem?_map, List.getElem?_eq_getElem hni, eni]; rfl
        have gpi : (C.map V.int)[pi]? = some (.int c) := by rw [List.getElem?_map, List.getElem?_eq_getElem hpi, epi]; rfl
        have flS : (R.map V.str).all flatV = true := by rw [List.all_map]; exact List.all_eq_true.mpr fun _ _ => rfl
        have flI : (C.map V.int).all flatV = true := by rw [List.all_map]; exact List.all_eq_true.mpr fun _ _ => rfl
        have befI : ∀ (m : Nat) (z' : V), m < pi → (C.map V.int)[m]? = some z' → eqV z' (.int c) = false := fun m z' hm hz => by
          rw [List.getElem?_map] at hz
          obtain ⟨n, h1, rfl⟩ := Option.map_eq_some_iff.mp hz
          obtain ⟨hm', h2⟩ := List.getElem?_eq_some_iff.mp h1
          show (n == c) = false
          refine beq_eq_false_iff_ne.mpr fun e => ?_
          have := (List.getElem_inj nC (h₀ := hm') (h₁ := hpi)).mp (by rw [h2, epi, e])
          omega
        have befS : ∀ (m : Nat) (z' : V), m < ni → (R.map V.str)[m]? = some z' → eqV z' (.str r) = false := fun m z' hm hz => by
          rw [List.getElem?_map] at hz
          obtain ⟨n, h1, rfl⟩ := Option.map_eq_some_iff.mp hz
          obtain ⟨hm', h2⟩ := List.getElem?_eq_some_iff.mp h1
          show (n == r) = false
          refine beq_eq_false_iff_ne.mpr fun e => ?_
          have := (List.getElem_inj nR (h₀ := hm') (h₁ := hni)).mp (by rw [h2, eni, e])
          omega
        have gW : ∀ j, j ≤ R.length → (pw.map V.int)[j]? = some (.int (((C.length : Int) + 1) ^ j)) := fun j hj => by rw [List.getElem?_map, hpw j hj]; rfl
        have pX : ∀ j, j ≤ R.length → ((C.length : Int) + 1) ^ j ≤ 1000000000 ∧ 0 ≤ ((C.length : Int) + 1) ^ j := fun j hj => by
          have := pow_le10 (b := C.length + 1) (k := j) (by omega) (by omega)
          rw [Int.natCast_add] at this
          exact this
        have hdg := digit_le (m := C.length) (pi := pi) (ni := ni) (n := R.length) hpi hni
        refine ⟨_, rfl, kq, _, rfl, SqT.of hkq5, rfl, _, _, rfl, _, _, rfl, rfl, ?_⟩
        refine ⟨_, rfl, false, rfl, ?_⟩
        rw [if_neg Bool.false_ne_true]
        refine ⟨.ref Pa, rfl, Pa, _, rfl, .inl (SqL.of hP5), ?_⟩
        refine ⟨.ref Pa, rfl, .inl ⟨rfl, _, SqL.of hP5⟩, .int c, rfl, Pa, _, _, pi, _, rfl, rfl, SqL.of hP5, rfl, flI, gpi, by show (c == c) = true; simp, befI, _, _, rfl, rfl, ?_⟩
        refine ⟨.ref W, rfl, .ref Na, rfl, Na, _, rfl, .inl (SqL.of hN5), _, _, rfl, rfl, ?_⟩
        refine ⟨.ref Na, rfl, .inl ⟨rfl, _, SqL.of hN5⟩, .str r, rfl, Na, _, _, ni, _, rfl, rfl, SqL.of hN5, rfl, flS, gni, by show (r == r) = true; simp, befS, _, _, rfl, rfl, ?_⟩
        rw [List.length_map, List.length_map]
        have enat : ((R.length : Int) - 1 - (ni : Int)) = ((R.length - 1 - ni : Nat) : Int) := by omega
        refine ⟨W, _, _, _, rfl, rfl, SqL.of hW5, by rw [enat]; exact atI_nat (gW _ (by omega)), _, _, rfl, rfl, .inl (by constructor <;> omega), ?_⟩
        refine ⟨_, rfl, .ref Na, rfl, Na, _, rfl, .inl (SqL.of hN5), _, _, rfl, rfl, _, _, rfl, rfl, .inr (by rw [List.length_map]; constructor <;> omega), _, _, rfl, rfl, ?_⟩
        refine ⟨.ref Na, rfl, Na, _, rfl, .inl (SqL.of hN5), _, _, rfl, rfl, _, _, rfl, rfl, .inr (by rw [List.length_map]; constructor <;> omega), ?_⟩
        refine ⟨.bl false, rfl, .inr ⟨false, rfl, _, _, rfl, rfl, ?_⟩⟩
        rw [List.length_map]
        refine ⟨_, rfl, .ref W, rfl, .ref Na, rfl, Na, _, rfl, .inl (SqL.of hN5), W, _, _, _, rfl, rfl, SqL.of hW5, by rw [List.length_map]; exact atI_nat (gW _ (Nat.le_refl _)), _, _, rfl, rfl, .inr (by have := pX R.length (Nat.le_refl _); constructor <;> omega), ?_⟩
        have nTx : (keys Tx).Nodup := by rw [kTx]; exact ta.nk.sublist (List.take_sublist _ _)
        have lTx : Tx.length ≤ 60 := by
          have := congrArg List.length kTx
          simp [keys] at this
          omega
        refine ⟨_, rfl, _, _, rfl, rfl, .ref D, rfl, .ref kq, rfl, D, _, rfl, put_T (p := (r, c)) hD5 hkq5 nTx (size1000 (by omega)) rfl, ?_⟩
        have hfresh : (r, c) ∉ keys Tx := fun h => by
          rw [kTx] at h
          have n2 : ((keys T).take (i + 1)).Nodup := ta.nk.sublist (List.take_sublist _ _)
          rw [List.take_add_one, hTk] at n2
          exact (List.nodup_append.mp n2).2.2 _ h _ (by simp) rfl
        refine ⟨_, _, _, _, _, _, _, _, rfl, ex5.trans (.upd_in (by simp)), upd_same, ?_, fun r' c' x' y' hx hy => ?_⟩
        · rw [keys_put_new _ hfresh, List.take_add_one, hTk, ← kTx]
          simp [keys]
        · rw [look_put] at hy
          by_cases e : (r', c') = (r, c)
          · cases e
            rw [if_pos rfl] at hy
            rw [wy] at hx
            cases hx
            exact ⟨_, hdg.1, hdg.2, (Option.some.inj hy).symm⟩
          · rw [if_neg e] at hy
            exact bTx r' c' x' y' hx hy
      · rintro σ H4 ⟨Tx, v5, v7, v8, v9, v10, v11, v12, rfl, ex4, hD4, kTx, bTx⟩
        refine ⟨ex4 a _ upd_same (by simpa using hDa.symm), _, rfl, ?_⟩
        rw [emb_length, keys_take] at kTx
        have exF : Ex [] H (upd H4 a (dT T)) := exH3.trans (Ex.drop (Ex.trans (Ex.upd_new hD) (Ex.unlock ha4 ex4)) hD)
        have pX1 : 1 ≤ ((C.length : Int) + 1) ^ R.length := by
          have h1 : 1 ≤ (C.length + 1) ^ R.length := Nat.one_le_pow _ _ (by omega)
          have e : (((C.length + 1) ^ R.length : Nat) : Int) = ((C.length + 1 : Nat) : Int) ^ R.length := Int.natCast_pow _ _
          rw [Int.natCast_add] at e
          have e2 : ((C.length : Int) + ((1 : Nat) : Int)) = (C.length : Int) + 1 := rfl
          rw [e2] at e
          omega
        refine q D _ Tx R C (((R.length : Int) + 1) * ((R.length : Int) + 1) * ((C.length : Int) + 1) ^ R.length) (((R.length : Int) + 1 + 1) * ((C.length : Int) + 1) ^ R.length) exF hDH ⟨by rw [upd_ne hDa]; exact hD4, by rw [kTx]; exact ta.nk, ?_⟩ nR nC
          (fun r c x h => ⟨(mR r).mpr ⟨c, key_of_look h⟩, (mC c).mpr ⟨r, key_of_look h⟩⟩) (fun r h => (mR r).mp h) (by omega) (fun k => by rw [kTx]) ?_ ?_ fun r c x y hx hy => ?_
        · have := congrArg List.length kTx
          simp [keys] at this
          omega
        · exact Int.mul_nonneg (by omega) (by omega)
        · have e : (R.length : Int) * (((R.length : Int) + 1 + 1) * ((C.length : Int) + 1) ^ R.length) + ((C.length : Int) + 1) ^ R.length = ((R.length : Int) + 1) * ((R.length : Int) + 1) * ((C.length : Int) + 1) ^ R.length := by grind
          omega
        · obtain ⟨dg, d0, d1, rfl⟩ := bTx r c x y hx hy
          exact exact_bounds x _ _ dg pX1 d0 d1 (by omega)
end
end KN

namespace KN
open PySem L2 PySem.Spec
open PyProof.Rows hiding St
/-- f(a, k=b): one positional parameter, one keyword -/
theorem kb1 {K : PySem.W.Frag} {x qual p k : Str} {params : Arguments} {body : List Stmt} {scope : Scope} {kws : List (Str × V)} {f : Addr} {fd : FuncData} (F : FunD K x qual params body scope [] kws f fd)
    (h : ∀ (kV doc pm : Value) (an : Option Addr) (cdv ct u w : Value), bindArgs (PySem.W.fnOf x qual params body scope .none kV doc pm an cdv ct) ⟨[u], [(k, w)]⟩ = pure [(p, u), (k, w)]) : KBn K fd [p, k] 1 [k] (fun us ws => us ++ ws) (fun vs zs => vs ++ zs) := by
  obtain ⟨oc, od, dV, kV, doc, pm, an, cdv, ct, osl, rfl, lk, hcd, hD, hK⟩ := F.ex
  rcases hD with ⟨_, rfl⟩ | ⟨e, _⟩
  · refine ⟨fun s us ws _ l1 l2 => ?_, fun r1 r2 => r1.append r2⟩
    match us, ws, l1, l2 with
    | [u], [w], _, _ => exact .of_eq (h kV doc pm an cdv ct u w)
  · exact absurd rfl e
theorem nodup_of {α : Type} [DecidableEq α] (l : List α) : ∃ R : List α, R.Nodup ∧ ∀ x, x ∈ R ↔ x ∈ l := by
  induction l with
  | nil => exact ⟨[], by simp, by simp⟩
  | cons a l ih =>
    obtain ⟨R, h1, h2⟩ := ih
    by_cases e : a ∈ l
    · exact ⟨R, h1, fun x => by rw [h2]; simp; intro q; rw [q]; exact e⟩
    · exact ⟨a :: R, List.nodup_cons.mpr ⟨fun q => e ((h2 a).mp q), h1⟩, fun x => by simp [h2]⟩
/-- the rows and columns of a table -/
theorem sides (T : List ((Str × Int) × Int)) : ∃ (R : List Str) (C : List Int), R.Nodup ∧ C.Nodup ∧ Supp (wT T) R C ∧ (∀ r ∈ R, ∃ c, (r, c) ∈ keys T) ∧ C.length ≤ T.length := by
  obtain ⟨R, r1, r2⟩ := nodup_of ((keys T).map Prod.fst)
  obtain ⟨C, c1, c2⟩ := nodup_of ((keys T).map Prod.snd)
  refine ⟨R, C, r1, c1, fun r c x h => ⟨(r2 r).mpr (List.mem_map.mpr ⟨_, key_of_look h, rfl⟩), (c2 c).mpr (List.mem_map.mpr ⟨_, key_of_look h, rfl⟩)⟩, fun r h => ?_, ?_⟩
  · obtain ⟨⟨a, b⟩, h1, rfl⟩ := List.mem_map.mp ((r2 r).mp h)
    exact ⟨b, h1⟩
  · have := nodup_len c1 (fun x h => (c2 x).mp h)
    simpa [keys] using this
section
variable {P : Program} {w : World} {K : PySem.W.Frag} {mg : Str → Option Value} {base : Heap}
def spCV : Sp := fun vs H Q _ => ∃ (a b : Addr) (T : List ((Str × Int) × Int)) (ps : List (Str × Int)), vs = [.ref a, .ref b] ∧ TabAt H a T ∧ PairsAt H b ps ∧ (∀ r c, (r, c) ∈ ps → ∃ x, wT T r c = some x) ∧
  ∀ H', Ex [] H H' → Q (.int (val (wT T) ps)) H'
theorem scCV : FnScope ["table", "carrying", "name", "place"] ["table", "carrying"] (defScope sCV) := ⟨rfl, rfl, rfl, by decide +kernel, rfl, by decide +kernel, by decide +kernel⟩
theorem ok_CV {f : Addr} {fd : FuncData} (F : Fun K "carrying_value" "carrying_value" sCV f fd) (mu : mg "sum" = none) : FnOk P w K mg base CX0 1 f fd ["table", "carrying"] spCV := by
  refine F.ok scCV (fun vs H Q E h => ?_) (fun cdv A outer s H vs Q E hr h => ?_)
  · obtain ⟨a, b, T, ps, rfl, _⟩ := h
    rfl
  · obtain ⟨a, b, T, ps, rfl, ta, pa, hw, q⟩ := h
    have hu := hu_of hr
    have nd := scCV.nd
    refine ⟨_, pss_one (ps_ret (pe_lock (pe_callB (cr_sum rfl) (by rfl) mu PyProof.Rows.boot_sum (pa_cons
      (pe_lc (own := [("name", 2), ("place", 3)]) (g := gTup K 2 (gCons (gName 2) (gCons (gName 3) gNil))) (tt := tYes) rfl nd (pi_items (pv 1)) (blkOk_by (N := ["table", "carrying", "name", "place"]) (sc := defScope sCV) (by decide +kernel))
        (fun _ _ _ _ _ => pg_tup rfl (pgs_cons (pg_name (i := 2) nd rfl (.inl rfl) (.inr rfl)) (pgs_cons (pg_name (i := 3) nd rfl (.inl rfl) (.inr rfl)) pgs_nil)))
        (fun _ _ _ _ _ => pts_nil) (fun _ _ _ _ _ => pe_dget hu (pv 0) (pe_tup (pa_cons (pv 2) (pa_cons (pv 3) pa_nil))) (fun _ _ => rfl))) pa_nil)))), ?_⟩
    refine ⟨b, _, pa.at_, mutK, fun od => ?_⟩
    refine ⟨.ref b, rfl, b, _, _, rfl, upd_same, fun D hD => ?_⟩
    have hDb : D ≠ b := fun e => by rw [e, upd_same] at hD; cases hD
    have hDH : H D = none := by rw [upd_ne hDb] at hD; exact hD
    have hab : a ≠ b := ne_of ta.at_ pa.at_ (by intro z; cases z)
    have hDa : D ≠ a := (ne_of_none ta.at_ hDH).symm
    refine lc_it walk_items (fun i H' => Ex [D] (upd H b (.frz od (dSI ps))) H' ∧ H' D = some (.lst (((ps.take i).map fun e => wt (wT T) e.1 e.2).map V.int))) ⟨.upd_in (by simp), upd_same⟩ ?_ ?_ ?_
    · rintro i H' hi ⟨x, _⟩
      exact x b _ upd_same (by simpa using hDb.symm)
    · rintro i x H1 H2 hi ⟨ex, hD1⟩ ⟨t, kx, vx, rfl, ht, rfl, hk, hv⟩
      obtain ⟨r, c, hT, rfl, rfl⟩ := itemsK hk hv
      obtain ⟨z, hz⟩ := hw r c (List.mem_of_getElem? hT)
      have tD : t ≠ D := (ne_of_none hD1 ht).symm
      have ex2 : Ex [D] (upd H b (.frz od (dSI ps))) (upd H1 t (.tup [.str r, .int c])) := ex.trans (.upd_new ht)
      have hD2 : upd H1 t (.tup [.str r, .int c]) D = some (.lst (((ps.take i).map fun e => wt (wT T) e.1 e.2).map V.int)) := by rw [upd_ne tD.symm]; exact hD1
      refine ⟨t, _, rfl, SqT.of upd_same, rfl, _, _, rfl, _, _, rfl, rfl, ?_⟩
      refine ⟨rfl, .ref a, rfl, .str r, rfl, .int c, rfl, le2, fun t2 ht2 => ?_⟩
      have t2D : t2 ≠ D := (ne_of_none hD2 ht2).symm
      have ex3 := ex2.trans (Ex.upd_new (l := [D]) (o := .tup [.str r, .int c]) ht2)
      have hD3 : upd (upd H1 t (.tup [.str r, .int c])) t2 (.tup [.str r, .int c]) D = some (.lst (((ps.take i).map fun e => wt (wT T) e.1 e.2).map V.int)) := by rw [upd_ne t2D.symm]; exact hD2
      have ha3 := ex3 a _ (by rw [upd_ne hab]; exact ta.at_) (by simpa using hDa.symm)
      refine ⟨a, .int z, rfl, get_T (p := (r, c)) (.inl ha3) upd_same (by rw [show look T (r, c) = some z from hz]; rfl), ?_⟩
      have hi' : i < ps.length := (List.getElem?_eq_some_iff.mp hT).1
      refine ⟨_, hD3, small1000 (by have := pa.len; simp; omega), ex3.trans (.upd_in (by simp)), ?_⟩
      rw [upd_same, List.take_add_one, hT]
      simp [wt_of hz]
    · rintro H1 ⟨ex, hD1⟩
      rw [emb_length, List.take_of_length_le (Nat.le_refl _)] at hD1
      refine ⟨D, _, rfl, SqL.of hD1, ex b _ upd_same (by simpa using hDb.symm), ?_⟩
      have exF : Ex [] H (upd H1 b (dSI ps)) := Ex.drop (Ex.unlock pa.at_ ex) hDH
      exact q _ exF
def spBC : Sp := fun vs H Q _ => ∃ (a : Addr) (T : List ((Str × Int) × Int)), vs = [.ref a, .non] ∧ TabAt H a T ∧ T.length ≤ 9 ∧
  ∀ (p : Addr) (H' : Hp) (ps : List (Str × Int)) (R : List Str) (C : List Int), Ex [] H H' → H p = none → PairsAt H' p ps → R.Nodup → C.Nodup → Supp (wT T) R C → Cert (wT T) R C ps → Q (.ref p) H'
theorem scBC : FnScope ["table", "homes"] ["table", "homes"] (defScope sBC) := ⟨rfl, rfl, rfl, by decide +kernel, rfl, by decide +kernel, by decide +kernel⟩
theorem same_some {T Tx : List ((Str × Int) × Int)} (h : ∀ k, k ∈ keys Tx ↔ k ∈ keys T) (r : Str) (c : Int) : (∃ x, wT Tx r c = some x) ↔ ∃ x, wT T r c = some x :=
  ⟨fun ⟨x, hx⟩ => look_some_of_key ((h _).mp (key_of_look hx)), fun ⟨x, hx⟩ => look_some_of_key ((h _).mpr (key_of_look hx))⟩
theorem ok_BC {f fX fG : Addr} {fd fdX fdG : FuncData} (F : FunD K "best_carrying" "best_carrying" (defArgs sBC) (defBody sBC) (defScope sBC) [] [("homes", .non)] f fd)
    (GX : FnOk P w K mg base CX0 2 fX fdX ["table", "homes"] spET) (FX : FunD K "exact_table" "exact_table" (defArgs sET) (defBody sET) (defScope sET) [] [("homes", .non)] fX fdX) (gX : mg "exact_table" = some (.ref fX))
    (GG : FnOk P w K mg base CX0 2 fG fdG ["entries"] spGP) (kG : PySem.W.keepIn K (.ref fG) = true) (bG : Binds K fdG ["entries"] []) (gG : mg "greatest_pairs" = some (.ref fG)) : FnOk P w K mg base CX0 3 f fd ["table", "homes"] spBC := by
  refine F.ok scBC (fun vs H Q E h => ?_) (fun cdv A outer s H vs Q E hr h => ?_)
  · obtain ⟨a, T, rfl, _⟩ := h
    rfl
  · obtain ⟨a, T, rfl, ta, t9, q⟩ := h
    refine ⟨_, PSs.nox (pss_one (ps_ret (pe_call GG hr (by rfl) gG kG bG .nil pass0 (pa_cons (pe_callN GX hr (by rfl) gX FX.kp (kb1 FX (fun _ _ _ _ _ _ _ _ => rfl)) pass0 (pa_cons (pv 0) pa_nil) (pk_cons (pv 1) pk_nil)) pa_nil)))), ?_⟩
    refine ⟨.ref a, rfl, .non, rfl, rfl, rfl, a, T, rfl, ta, t9, fun p1 H1 Tx R C A σ ex1 hp1 tx nR nC S hRT lC kk s0 hA hw => ?_⟩
    have Sx : Supp (wT Tx) R C := fun r c x h => let ⟨y, hy⟩ := (same_some kk r c).mp ⟨x, h⟩; S r c y hy
    refine ⟨p1, Tx, R, C, rfl, tx, Sx, lC, fun r hr => let ⟨c, hc⟩ := hRT r hr; ⟨c, (kk _).mpr hc⟩, fun p H' ps ex2 hp pa ce => ?_⟩
    exact q p H' ps R C (ex1.trans ex2) (ex1.free hp (by simp)) pa nR nC S (exact_cert S nR nC (same_some kk) hw s0 hA ce)
def spGV : Sp := fun vs H Q _ => ∃ (a : Addr) (T : List ((Str × Int) × Int)), vs = [.ref a] ∧ TabAt H a T ∧ ∀ (H' : Hp) (v : Int), Ex [] H H' → IsMax (wT T) v → Q (.int v) H'
theorem scGV : FnScope ["table"] ["table"] (defScope sGV) := ⟨rfl, rfl, rfl, by decide +kernel, rfl, by decide +kernel, by decide +kernel⟩
theorem ok_GV {f fC fG : Addr} {fd fdC fdG : FuncData} (F : Fun K "greatest_value" "greatest_value" sGV f fd) (FC : Fun K "carrying_value" "carrying_value" sCV fC fdC) (bC : Binds K fdC ["table", "carrying"] []) (gC : mg "carrying_value" = some (.ref fC)) (mu : mg "sum" = none)
    (GG : FnOk P w K mg base CX0 2 fG fdG ["entries"] spGP) (kG : PySem.W.keepIn K (.ref fG) = true) (bG : Binds K fdG ["entries"] []) (gG : mg "greatest_pairs" = some (.ref fG)) : FnOk P w K mg base CX0 3 f fd ["table"] spGV := by
  have GC : FnOk P w K mg base CX0 1 fC fdC ["table", "carrying"] spCV := ok_CV FC mu
  refine F.ok scGV (fun vs H Q E h => ?_) (fun cdv A outer s H vs Q E hr h => ?_)
  · obtain ⟨a, T, rfl, _⟩ := h
    rfl
  · obtain ⟨a, T, rfl, ta, q⟩ := h
    refine ⟨_, pss_one (ps_ret (pe_call GC (hr.mono (by decide)) (by rfl) gC FC.kp bC .nil pass0 (pa_cons (pv 0) (pa_cons (pe_call GG hr (by rfl) gG kG bG .nil pass0 (pa_cons (pv 0) pa_nil)) pa_nil)))), ?_⟩
    obtain ⟨R, C, nR, nC, S, hRT, lC⟩ := sides T
    refine ⟨.ref a, rfl, .ref a, rfl, a, T, R, C, rfl, ta, S, by have := ta.len; omega, hRT, fun p H1 ps ex1 hp pa ce => ?_⟩
    refine ⟨a, p, T, ps, rfl, ta.ex ex1 (by simp), pa, ce.1.en, fun H2 ex2 => ?_⟩
    exact q H2 _ (ex1.trans ex2) (ce.max S nR nC)
def spNW : Sp := fun vs H Q _ => ∃ (a : Addr) (T : List ((Str × Int) × Int)), vs = [.ref a] ∧ TabAt H a T ∧ T.length ≤ 9 ∧
  ∀ (p : Addr) (H' : Hp) (fs : List (Str × Int)), Ex [] H H' → H p = none → H' p = some (dSI fs) → (keys fs).Nodup → (∀ r, r ∈ keys fs ↔ ∃ c, (r, c) ∈ keys T) → fs.length ≤ T.length →
    (∀ r ∈ keys fs, ∀ v v', IsMax (wT T) v → IsMax (less (wT T) r) v' → at0 fs r = v - v') → Q (.ref p) H'
theorem scNW : FnScope ["table"] ["table"] (defScope sNW) := ⟨rfl, rfl, rfl, by decide +kernel, rfl, by decide +kernel, by decide +kernel⟩
theorem ok_NW {f fR fB : Addr} {fd fdR fdB : FuncData} (F : Fun K "name_worths" "name_worths" sNW f fd)
    (GR : FnOk P w K mg base CX0 2 fR fdR ["entries", "pairs"] spRW) (kR : PySem.W.keepIn K (.ref fR) = true) (bR : Binds K fdR ["entries", "pairs"] []) (gR : mg "row_worths" = some (.ref fR))
    (GB : FnOk P w K mg base CX0 3 fB fdB ["table", "homes"] spBC) (FB : FunD K "best_carrying" "best_carrying" (defArgs sBC) (defBody sBC) (defScope sBC) [] [("homes", .non)] fB fdB) (gB : mg "best_carrying" = some (.ref fB)) : FnOk P w K mg base CX0 4 f fd ["table"] spNW := by
  obtain ⟨ds, rds, bB⟩ := FB.binds0 (ps := ["table", "homes"]) 1 (by simp) rfl (fun D doc pm an cdv ct us ks l1 l2 => by
    match us, ks, l1, l2 with
    | [u], [k], _, _ => exact ⟨_, _, _, _, _, _, rfl, rfl, rfl⟩)
  refine F.ok scNW (fun vs H Q E h => ?_) (fun cdv A outer s H vs Q E hr h => ?_)
  · obtain ⟨a, T, rfl, _⟩ := h
    rfl
  · obtain ⟨a, T, rfl, ta, t9, q⟩ := h
    refine ⟨_, pss_one (ps_ret (pe_call GR (hr.mono (by decide)) (by rfl) gR kR bR .nil pass0 (pa_cons (pv 0) (pa_cons (pe_call GB hr (by rfl) gB FB.kp bB rds pass0 (pa_cons (pv 0) pa_nil)) pa_nil)))), ?_⟩
    refine ⟨.ref a, rfl, .ref a, rfl, a, T, rfl, ta, t9, fun p H1 ps R C ex1 hp pa nR nC S ce => ?_⟩
    refine ⟨a, p, T, ps, R, C, rfl, ta.ex ex1 (by simp), pa, S, ce, fun p2 H2 fs qv ex2 hp2 hf nf kf lf cp cf hwo => ?_⟩
    refine q p2 H2 fs (ex1.trans ex2) (ex1.free hp2 (by simp)) hf nf kf lf fun r hrr v v' hv hv' => ?_
    rw [hwo r]
    obtain ⟨c, hc⟩ := (kf r).mp hrr
    obtain ⟨x, hx⟩ := look_some_of_key hc
    exact worth_is S nR nC ce cp cf (S r c x hx).1 hv hv'
end
end KN

namespace KN
open PySem
/-! ### the table of the labels, plain -/
def flatF : Nat → List (List Int) → List (Int × Int)
  | _, [] => []
  | k, g :: r => g.map (fun i => (i, (k : Int))) ++ flatF (k + 1) r
abbrev flat (Gs : List (List Int)) : List (Int × Int) := flatF 0 Gs
theorem flatF_append : ∀ (k : Nat) (a b : List (List Int)), flatF k (a ++ b) = flatF k a ++ flatF (k + a.length) b
  | k, [], b => by simp [flatF]
  | k, g :: r, b => by
    simp only [List.cons_append, flatF, flatF_append (k + 1) r b, List.append_assoc, List.length_cons]
    congr 3
    omega
theorem flat_succ {Gs : List (List Int)} {i : Nat} {ids : List Int} (h : Gs[i]? = some ids) : flat (Gs.take (i + 1)) = flat (Gs.take i) ++ ids.map fun x => (x, (i : Int)) := by
  have hi : i < Gs.length := (List.getElem?_eq_some_iff.mp h).1
  rw [List.take_add_one, h]
  show flatF 0 (Gs.take i ++ [ids]) = _
  rw [flatF_append]
  have e : 0 + (Gs.take i).length = i := by rw [List.length_take]; omega
  rw [e]
  simp [flatF]
theorem mem_flatF : ∀ {k : Nat} {Gs : List (List Int)} {x p : Int}, (x, p) ∈ flatF k Gs ↔ ∃ (i : Nat) (ids : List Int), Gs[i]? = some ids ∧ x ∈ ids ∧ p = ((k + i : Nat) : Int)
  | k, [], x, p => by simp [flatF]
  | k, g :: r, x, p => by
    simp only [flatF, List.mem_append, mem_flatF (k := k + 1) (Gs := r)]
    constructor
    · rintro (h | ⟨i, ids, h1, h2, h3⟩)
      · obtain ⟨y, hy, e⟩ := List.mem_map.mp h
        cases e
        exact ⟨0, g, rfl, hy, rfl⟩
      · exact ⟨i + 1, ids, h1, h2, by rw [h3]; congr 1; omega⟩
    · rintro ⟨i, ids, h1, h2, h3⟩
      cases i with
      | zero =>
        cases h1
        exact .inl (List.mem_map.mpr ⟨x, h2, by rw [h3]; rfl⟩)
      | succ i => exact .inr ⟨i, ids, h1, h2, by rw [h3]; congr 1; omega⟩
def tabStep (lab : List (Int × Str)) (ws : List (Int × Int)) (T : List ((Str × Int) × Int)) (e : Int × Int) : List ((Str × Int) × Int) := match look lab e.1 with
  | none => T
  | some n => put T (n, e.2) (at0 T (n, e.2) + at0 ws e.1)
abbrev labF (lab : List (Int × Str)) (ws : List (Int × Int)) (F : List (Int × Int)) : List ((Str × Int) × Int) := F.foldl (tabStep lab ws) []
theorem labF_snoc {lab : List (Int × Str)} {ws F : List (Int × Int)} {e : Int × Int} : labF lab ws (F ++ [e]) = tabStep lab ws (labF lab ws F) e := by simp [labF]
theorem step_nodup {lab : List (Int × Str)} {ws : List (Int × Int)} {T : List ((Str × Int) × Int)} {e : Int × Int} (h : (keys T).Nodup) : (keys (tabStep lab ws T e)).Nodup := by
  unfold tabStep
  cases look lab e.1 with
  | none => exact h
  | some n => exact nodup_put h
theorem step_len {lab : List (Int × Str)} {ws : List (Int × Int)} {T : List ((Str × Int) × Int)} {e : Int × Int} : (tabStep lab ws T e).length ≤ T.length + 1 := by
  unfold tabStep
  cases look lab e.1 with
  | none => exact Nat.le_succ _
  | some n => exact put_length
theorem fold_facts (lab : List (Int × Str)) (ws : List (Int × Int)) : ∀ (F : List (Int × Int)) (T : List ((Str × Int) × Int)), (keys T).Nodup → (keys (F.foldl (tabStep lab ws) T)).Nodup ∧ (F.foldl (tabStep lab ws) T).length ≤ T.length + F.length
  | [], T, h => ⟨h, Nat.le_refl _⟩
  | e :: F, T, h => by
    have h1 := fold_facts lab ws F (tabStep lab ws T e) (step_nodup h)
    have h2 := step_len (lab := lab) (ws := ws) (T := T) (e := e)
    refine ⟨h1.1, ?_⟩
    have := h1.2
    simp only [List.foldl_cons, List.length_cons]
    omega
theorem labF_nodup {lab : List (Int × Str)} {ws F : List (Int × Int)} : (keys (labF lab ws F)).Nodup := (fold_facts lab ws F [] (by simp)).1
theorem labF_len {lab : List (Int × Str)} {ws F : List (Int × Int)} : (labF lab ws F).length ≤ F.length := by
  have := (fold_facts lab ws F [] (by simp)).2
  simpa using this
/-- the pairs that count for a name and a place -/
def fits (lab : List (Int × Str)) (k : Str × Int) (e : Int × Int) : Bool := decide (look lab e.1 = some k.1) && decide (e.2 = k.2)
def hits (lab : List (Int × Str)) (F : List (Int × Int)) (k : Str × Int) : List (Int × Int) := F.filter (fits lab k)
theorem fold_look (lab : List (Int × Str)) (ws : List (Int × Int)) (k : Str × Int) : ∀ (F : List (Int × Int)) (T : List ((Str × Int) × Int)),
    look (F.foldl (tabStep lab ws) T) k = if hits lab F k = [] then look T k else some (at0 T k + sumf (fun e => at0 ws e.1) (hits lab F k))
  | [], T => by simp [hits]
  | e :: F, T => by
    rw [List.foldl_cons, fold_look lab ws k F]
    by_cases hf : fits lab k e = true
    · have e1 : hits lab (e :: F) k = e :: hits lab F k := by simp [hits, hf]
      have hf2 : look lab e.1 = some k.1 ∧ e.2 = k.2 := by simpa [fits] using hf
      have e2 : tabStep lab ws T e = put T k (at0 T k + at0 ws e.1) := by
        unfold tabStep
        rw [hf2.1]
        have : ((k.1, e.2) : Str × Int) = k := by rw [hf2.2]
        simp only [this]
      rw [e1, e2, if_neg (List.cons_ne_nil _ _), at0_put, look_put, if_pos rfl, sumf_cons]
      by_cases h0 : hits lab F k = []
      · rw [if_pos h0, h0, sumf_nil]
        simp
      · rw [if_neg h0]
        simp only [if_true]
        congr 1
        omega
    · have e1 : hits lab (e :: F) k = hits lab F k := by simp [hits, hf]
      rw [e1]
      have e2 : look (tabStep lab ws T e) k = look T k := by
        unfold tabStep
        cases hl : look lab e.1 with
        | none => rfl
        | some n =>
          simp only
          rw [look_put, if_neg]
          intro q
          refine hf ?_
          rw [q]
          simp [fits, hl]
      have e3 : at0 (tabStep lab ws T e) k = at0 T k := by simp [at0, e2]
      rw [e2, e3]
theorem labF_look {lab : List (Int × Str)} {ws F : List (Int × Int)} {r : Str} {c : Int} : wT (labF lab ws F) r c = if hits lab F (r, c) = [] then none else some (sumf (fun e => at0 ws e.1) (hits lab F (r, c))) := by
  have := fold_look lab ws (r, c) F []
  show look (labF lab ws F) (r, c) = _
  rw [this]
  simp [look, at0]
theorem mem_hits {lab : List (Int × Str)} {F : List (Int × Int)} {r : Str} {c : Int} {e : Int × Int} : e ∈ hits lab F (r, c) ↔ e ∈ F ∧ look lab e.1 = some r ∧ e.2 = c := by
  simp [hits, fits]
theorem labF_some {lab : List (Int × Str)} {ws F : List (Int × Int)} {r : Str} {c : Int} : (∃ x, wT (labF lab ws F) r c = some x) ↔ ∃ e ∈ F, look lab e.1 = some r ∧ e.2 = c := by
  rw [labF_look]
  constructor
  · rintro ⟨x, hx⟩
    by_cases h : hits lab F (r, c) = []
    · rw [if_pos h] at hx; cases hx
    · obtain ⟨e, l, he⟩ := List.exists_cons_of_ne_nil h
      have : e ∈ hits lab F (r, c) := by rw [he]; exact List.mem_cons_self
      obtain ⟨h1, h2, h3⟩ := mem_hits.mp this
      exact ⟨e, h1, h2, h3⟩
  · rintro ⟨e, h1, h2, h3⟩
    have : e ∈ hits lab F (r, c) := mem_hits.mpr ⟨h1, h2, h3⟩
    have ne : hits lab F (r, c) ≠ [] := fun q => by rw [q] at this; simp at this
    exact ⟨_, if_neg ne⟩
theorem labF_keys {lab : List (Int × Str)} {ws ws' F : List (Int × Int)} (r : Str) (c : Int) : (∃ x, wT (labF lab ws F) r c = some x) ↔ ∃ x, wT (labF lab ws' F) r c = some x := by rw [labF_some, labF_some]
theorem labF_wt {lab : List (Int × Str)} {ws F : List (Int × Int)} {r : Str} {c : Int} : wt (wT (labF lab ws F)) r c = sumf (fun e => at0 ws e.1) (hits lab F (r, c)) := by
  unfold wt
  rw [labF_look]
  by_cases h : hits lab F (r, c) = []
  · rw [if_pos h, h, sumf_nil]; rfl
  · rw [if_neg h]; rfl
end KN

namespace KN
open PySem L2 PySem.Spec
open PyProof.Rows hiding St
structure GrpAt (H : Hp) (g : Addr) (gas : List Addr) (Gs : List (List Int)) : Prop where
  at_ : H g = some (.lst (gas.map V.ref))
  len : gas.length = Gs.length
  each : ∀ (i : Nat) t ids, gas[i]? = some t → Gs[i]? = some ids → H t = some (.tup (ids.map V.int))
theorem GrpAt.ex {H H' : Hp} {g : Addr} {gas : List Addr} {Gs : List (List Int)} {l : List Addr} (a : GrpAt H g gas Gs) (x : Ex l H H') (n : g ∉ l) (nt : ∀ t ∈ gas, t ∉ l) : GrpAt H' g gas Gs :=
  ⟨x g _ a.at_ n, a.len, fun i t ids h1 h2 => x t _ (a.each i t ids h1 h2) (nt t (List.mem_of_getElem? h1))⟩
theorem GrpAt.ex0 {H H' : Hp} {g : Addr} {gas : List Addr} {Gs : List (List Int)} (a : GrpAt H g gas Gs) (x : Ex [] H H') : GrpAt H' g gas Gs := a.ex x (by simp) (fun _ _ => by simp)
theorem GrpAt.get {H : Hp} {g : Addr} {gas : List Addr} {Gs : List (List Int)} (a : GrpAt H g gas Gs) {i : Nat} {t : Addr} (h : gas[i]? = some t) : ∃ ids, Gs[i]? = some ids ∧ H t = some (.tup (ids.map V.int)) := by
  have hi : i < Gs.length := by
    have := (List.getElem?_eq_some_iff.mp h).1
    rw [a.len] at this
    exact this
  exact ⟨_, List.getElem?_eq_getElem hi, a.each i t _ h (List.getElem?_eq_getElem hi)⟩
section
variable {P : Program} {w : World} {K : PySem.W.Frag} {mg : Str → Option Value} {base : Heap}
def spLT : Sp := fun vs H Q _ => ∃ (a g b : Addr) (lab : List (Int × Str)) (gas : List Addr) (Gs : List (List Int)) (ws : List (Int × Int)), vs = [.ref a, .ref g, .ref b] ∧ H a = some (dIS lab) ∧ GrpAt H g gas Gs ∧ H b = some (dII ws) ∧
  (∀ e ∈ flat Gs, e.1 ∈ keys ws) ∧ (flat Gs).length < 60 ∧ ∀ (p : Addr) (H' : Hp), Ex [] H H' → H p = none → TabAt H' p (labF lab ws (flat Gs)) → Q (.ref p) H'
theorem scLT : FnScope ["labels", "groups", "weights", "found", "place", "group", "row_id", "key"] ["labels", "groups", "weights"] (defScope sLT) := ⟨rfl, rfl, rfl, by decide +kernel, rfl, by decide +kernel, by decide +kernel⟩
theorem flat_take_len {Gs : List (List Int)} : ∀ (i : Nat), (flat (Gs.take i)).length ≤ (flat Gs).length := fun i => by
  have e : flat Gs = flat (Gs.take i) ++ flatF (0 + (Gs.take i).length) (Gs.drop i) := by
    rw [← flatF_append, List.take_append_drop]
  rw [e, List.length_append]
  omega
theorem ok_LT {f : Addr} {fd : FuncData} (F : Fun K "label_table" "label_table" sLT f fd) (me : mg "enumerate" = none) : FnOk P w K mg base CX0 1 f fd ["labels", "groups", "weights"] spLT := by
  refine F.ok scLT (fun vs H Q E h => ?_) (fun cdv A outer s H vs Q E hr h => ?_)
  · obtain ⟨a, g, b, lab, gas, Gs, ws, rfl, _⟩ := h
    rfl
  · obtain ⟨a, g, b, lab, gas, Gs, ws, rfl, ha, hg, hb, hws, hlen, q⟩ := h
    have hu := hu_of hr
    have nd := scLT.nd
    refine ⟨_, pss_cons (ps_set (i := 3) nd rfl (.inl rfl) pe_dnewT)
      (pss_cons (ps_for PassesOwn.never rfl (pi_enum (by rfl) me (pa_cons (pv 1) pa_nil)) (pg_tup rfl (pgs_cons (pg_name (i := 4) nd rfl (.inl rfl)) (pgs_cons (pg_name (i := 5) nd rfl (.inl rfl)) pgs_nil)))
        (pss_one (ps_for PassesOwn.never rfl (pi_tup (pv 5)) (pg_name (i := 6) nd rfl (.inl rfl))
          (pss_one (ps_if (pt_cmp (pc_din hu (pv 6) (pv 0)))
            (pss_cons (ps_set (i := 7) nd rfl (.inl rfl) (pe_tup (pa_cons (pe_dget hu (pv 0) (pv 6) (fun _ _ => rfl)) (pa_cons (pv 4) pa_nil))))
            (pss_one (ps_dput hu (pv 3) (pv 7) (pe_op op_add (pe_dget2 hu (pv 3) (pv 7) pe_int ⟨rfl, rfl, rfl, rfl⟩) (pe_dget hu (pv 2) (pv 6) (fun _ _ => rfl))) rfl))) pss_nil)))))
      (pss_one (ps_ret (pv 3)))), ?_⟩
    intro D hD
    have notin : ∀ x u, H x = some u → x ∉ [D] := fun x u hx z => by
      rw [List.mem_singleton.mp z, hD] at hx; cases hx
    refine ⟨_, rfl, g, _, rfl, SqL.of (by rw [upd_ne (ne_of_none hg.at_ hD)]; exact hg.at_), ?_⟩
    refine for_it (walk_enum (K := K) (a := g) (xs := gas.map V.ref)) (fun i σ H' => ∃ (v4 v5 v6 v7 : Option V), σ = [some (.ref a), some (.ref g), some (.ref b), some (.ref D), v4, v5, v6, v7] ∧ Ex [D] H H' ∧ H' D = some (dT (labF lab ws (flat (Gs.take i))))) ⟨_, _, _, _, rfl, .upd_in (by simp), upd_same⟩ ?_ ?_ ?_
    · rintro i σ H' hi ⟨v4, v5, v6, v7, rfl, ex, _⟩
      exact SqL.of (ex g _ hg.at_ (notin g _ hg.at_))
    · rintro i x σ H1 H2 hi ⟨v4, v5, v6, v7, rfl, ex, hD1⟩ ⟨t, kx, vx, rfl, ht, rfl, hk, hv⟩
      cases hk
      obtain ⟨gt, hgt, rfl⟩ : ∃ gt, gas[i]? = some gt ∧ vx = V.ref gt := by
        have hv : (gas.map V.ref)[i]? = some vx := hv
        rw [List.getElem?_map] at hv
        obtain ⟨n, h1, h2⟩ := Option.map_eq_some_iff.mp hv
        exact ⟨n, h1, h2.symm⟩
      obtain ⟨ids, hids, hgtH⟩ := hg.get hgt
      refine ⟨t, _, rfl, SqT.of upd_same, rfl, _, _, rfl, _, _, rfl, rfl, ?_⟩
      have tD : t ≠ D := (ne_of_none hD1 ht).symm
      have ex2 : Ex [D] H (upd H1 t (.tup [.int (i : Nat), .ref gt])) := ex.trans (.upd_new ht)
      have hD2 : upd H1 t (.tup [.int (i : Nat), .ref gt]) D = some (dT (labF lab ws (flat (Gs.take i)))) := by rw [upd_ne tD.symm]; exact hD1
      generalize upd H1 t (.tup [.int (i : Nat), .ref gt]) = H2 at ex2 hD2
      have hgt2 : H2 gt = some (.tup (ids.map V.int)) := ex2 gt _ hgtH (notin gt _ hgtH)
      have hpart : ∀ j, (flat (Gs.take i) ++ (ids.take j).map fun x => (x, (i : Int))).length < 60 := fun j => by
        have h1 := flat_take_len (Gs := Gs) (i + 1)
        rw [flat_succ hids] at h1
        simp at h1 ⊢
        omega
      refine ⟨_, rfl, gt, rfl, ⟨_, SqT.of hgt2⟩, for_tup (K := K) (a := gt) (xs := ids.map V.int) (fun j σ H' => ∃ (v6 v7 : Option V), σ = [some (.ref a), some (.ref g), some (.ref b), some (.ref D), some (.int (i : Nat)), some (.ref gt), v6, v7] ∧ Ex [D] H H' ∧ H' D = some (dT (labF lab ws (flat (Gs.take i) ++ (ids.take j).map fun x => (x, (i : Int))))))
        ⟨_, _, rfl, ex2, by simpa using hD2⟩ ?_ ?_ ?_⟩
      · rintro j σ H' hj ⟨v6, v7, rfl, ex3, _⟩
        exact SqT.of (ex3 gt _ hgtH (notin gt _ hgtH))
      · rintro j y σ H3 hj ⟨v6, v7, rfl, ex3, hD3⟩
        obtain ⟨id, hid, rfl⟩ : ∃ id, ids[j]? = some id ∧ y = V.int id := by
          rw [List.getElem?_map] at hj
          obtain ⟨n, h1, h2⟩ := Option.map_eq_some_iff.mp hj
          exact ⟨n, h1, h2.symm⟩
        have ha3 : H3 a = some (dIS lab) := ex3 a _ ha (notin a _ ha)
        have hb3 : H3 b = some (dII ws) := ex3 b _ hb (notin b _ hb)
        have hsn : flat (Gs.take i) ++ (ids.take (j + 1)).map (fun x => (x, (i : Int))) = (flat (Gs.take i) ++ (ids.take j).map fun x => (x, (i : Int))) ++ [(id, (i : Int))] := by
          rw [List.take_add_one, hid]
          simp
        have hl60 := hpart j
        generalize hF : flat (Gs.take i) ++ (ids.take j).map (fun x => (x, (i : Int))) = Fj at hD3 hsn hl60
        refine ⟨_, rfl, .ref a, rfl, a, _, rfl, get_I (.inl ha3) rfl, _, rfl, ?_⟩
        cases hl : look lab id with
        | none =>
          refine goF rfl ⟨_, _, rfl, ex3, ?_⟩
          rw [hsn, labF_snoc, hD3]
          unfold tabStep
          rw [hl]
        | some n =>
          refine goT rfl ?_
          refine ⟨.ref a, rfl, _, rfl, a, .str n, rfl, get_I (.inl ha3) (by rw [hl]; rfl), _, rfl, le2, fun t2 ht2 => ?_⟩
          have t2D : t2 ≠ D := (ne_of_none hD3 ht2).symm
          have ex4 : Ex [D] H (upd H3 t2 (.tup [.str n, .int (i : Nat)])) := ex3.trans (.upd_new ht2)
          have hD4 : upd H3 t2 (.tup [.str n, .int (i : Nat)]) D = some (dT (labF lab ws Fj)) := by rw [upd_ne t2D.symm]; exact hD3
          have ht4 : upd H3 t2 (.tup [.str n, .int (i : Nat)]) t2 = some (tupP (n, (i : Int))) := upd_same
          generalize upd H3 t2 (.tup [.str n, .int (i : Nat)]) = H4 at ex4 hD4 ht4
          have hidw : id ∈ keys ws := hws (id, (i : Int)) (by
            have e1 : (id, (i : Int)) ∈ flat (Gs.take (i + 1)) := by
              rw [flat_succ hids]
              exact List.mem_append_right _ (List.mem_map.mpr ⟨id, List.mem_of_getElem? hid, rfl⟩)
            have e : flat Gs = flat (Gs.take (i + 1)) ++ flatF (0 + (Gs.take (i + 1)).length) (Gs.drop (i + 1)) := by rw [← flatF_append, List.take_append_drop]
            rw [e]
            exact List.mem_append_left _ e1)
          have lF : (labF lab ws Fj).length < 60 := Nat.lt_of_le_of_lt labF_len hl60
          refine ⟨.ref D, rfl, D, rfl, .inr ⟨_, .inl hD4⟩, _, rfl, _, get_T (p := (n, (i : Int))) (.inl hD4) ht4 rfl, ?_⟩
          have ev : ((look (labF lab ws Fj) (n, (i : Int))).map V.int).getD (.int 0) = .int (at0 (labF lab ws Fj) (n, (i : Int))) := by
            unfold at0
            cases look (labF lab ws Fj) (n, (i : Int)) <;> rfl
          rw [ev]
          refine ⟨.ref b, rfl, _, rfl, b, .int (at0 ws id), rfl, get_I (.inl (ex4 b _ hb (notin b _ hb))) (by rw [look_key hidw]; rfl), _, _, rfl, rfl, ?_⟩
          refine ⟨.ref D, rfl, _, rfl, D, _, rfl, put_T (p := (n, (i : Int))) hD4 ht4 labF_nodup (size1000 (by omega)) rfl, ?_⟩
          refine ⟨_, _, rfl, ex4.trans (.upd_in (by simp)), ?_⟩
          rw [upd_same, hsn, labF_snoc]
          unfold tabStep
          rw [hl]
      · rintro σ H3 ⟨v6, v7, rfl, ex3, hD3⟩
        refine ⟨_, _, _, _, rfl, ex3, ?_⟩
        rw [hD3, flat_succ hids]
        congr 4
        rw [List.length_map, List.take_of_length_le (Nat.le_refl _)]
    · rintro σ H1 ⟨v4, v5, v6, v7, rfl, ex, hD1⟩
      have e1 : Gs.take (gas.map V.ref).length = Gs := List.take_of_length_le (by rw [List.length_map, hg.len]; exact Nat.le_refl _)
      rw [e1] at hD1
      exact ⟨_, rfl, q D H1 (ex.drop hD) hD ⟨hD1, labF_nodup, Nat.lt_of_le_of_lt labF_len hlen⟩⟩
end
end KN

namespace KN
open PySem L2 PySem.Spec
open PyProof.Rows hiding St
/-- f(a, j=b, k=c) -/
theorem kb2 {K : PySem.W.Frag} {x qual p j k : Str} {params : Arguments} {body : List Stmt} {scope : Scope} {kws : List (Str × V)} {f : Addr} {fd : FuncData} (F : FunD K x qual params body scope [] kws f fd)
    (h : ∀ (kV doc pm : Value) (an : Option Addr) (cdv ct u w z : Value), bindArgs (PySem.W.fnOf x qual params body scope .none kV doc pm an cdv ct) ⟨[u], [(j, w), (k, z)]⟩ = pure [(p, u), (j, w), (k, z)]) : KBn K fd [p, j, k] 1 [j, k] (fun us ws => us ++ ws) (fun vs zs => vs ++ zs) := by
  obtain ⟨oc, od, dV, kV, doc, pm, an, cdv, ct, osl, rfl, lk, hcd, hD, hK⟩ := F.ex
  rcases hD with ⟨_, rfl⟩ | ⟨e, _⟩
  · refine ⟨fun s us ws _ l1 l2 => ?_, fun r1 r2 => r1.append r2⟩
    match us, ws, l1, l2 with
    | [u], [w, z], _, _ => exact .of_eq (h kV doc pm an cdv ct u w z)
  · exact absurd rfl e
theorem merge_emb {α β : Type} [DecidableEq α] {ke : α → Key} {ve : β → V} (hk : ∀ x y, ke x = ke y → x = y) : ∀ (B A : List (α × β)), (keys (A ++ B)).Nodup → mergeK (emb ke ve A) (emb ke ve B) = emb ke ve (A ++ B)
  | [], A, _ => by simp [mergeK, emb]
  | x :: B, A, hn => by
    have h1 : x.1 ∉ keys A := fun h => by
      have e : keys (A ++ x :: B) = keys A ++ x.1 :: keys B := by simp [keys]
      rw [e] at hn
      exact (List.nodup_append.mp hn).2.2 _ h _ (by simp) rfl
    have h2 : putK (emb ke ve A) (ke x.1) (ve x.2) = emb ke ve (A ++ [x]) := by
      rw [putK_new (ve x.2) (by rw [emb_val hk, look_none.mpr h1]; rfl)]
      simp [emb]
    show mergeK (putK (emb ke ve A) (ke x.1) (ve x.2)) (emb ke ve B) = _
    rw [h2, merge_emb hk B (A ++ [x]) (by simpa using hn)]
    simp
section
variable {P : Program} {w : World} {K : PySem.W.Frag} {mg : Str → Option Value} {base : Heap}
def spWO : Sp := fun vs H Q _ => ∃ (a n p : Addr) (T : List ((Str × Int) × Int)), vs = [.ref a, .ref n, .ref p] ∧ TabAt H a T ∧ H n = some (.lst []) ∧ H p = some (.lst []) ∧ ∀ (D : Addr) (H' : Hp), Ex [] H H' → H D = none → TabAt H' D T → Q (.ref D) H'
theorem scWO : FnScope ["table", "names", "places", "key"] ["table", "names", "places"] (defScope sWO) := ⟨rfl, rfl, rfl, by decide +kernel, rfl, by decide +kernel, by decide +kernel⟩
theorem ok_WO {f : Addr} {fd : FuncData} (F : FunD K "without" "without" (defArgs sWO) (defBody sWO) (defScope sWO) [] [] f fd) : FnOk P w K mg base CX0 1 f fd ["table", "names", "places"] spWO := by
  refine F.ok scWO (fun vs H Q E h => ?_) (fun cdv A outer s H vs Q E hr h => ?_)
  · obtain ⟨a, n, p, T, rfl, _⟩ := h
    rfl
  · obtain ⟨a, n, p, T, rfl, ta, hn, hp, q⟩ := h
    have hu := hu_of hr
    have nd := scWO.nd
    refine ⟨_, PSs.nox (pss_one (ps_ret (pe_lock
      (pe_dg (own := [("key", 3)]) (g := gName 3) hu (.inr rfl) rfl nd (pi_keys (pv 0)) (blkOk_by (N := ["table", "names", "places", "key"]) (sc := defScope sWO) (by decide +kernel))
        (fun _ _ _ _ _ => pg_name (i := 3) nd rfl (.inl rfl) (.inr rfl))
        (tt := tAnd (tTest (tOp (rIn K true) (tOp (rIxT K) (tVar 3) (tC (.int 0))) (tVar 1))) (tTest (tOp (rIn K true) (tOp (rIxT K) (tVar 3) (tC (.int 1))) (tVar 2))))
        (fun _ _ _ _ _ => pts_one (PW.pt (pw_and (pt_cmpR op_notIn_seq (pe_ix ix_tup (pv 3) pe_int (fun _ _ => rfl)) (pv 1) rfl) (pw_and1 (pt_cmpR op_notIn_seq (pe_ix ix_tup (pv 3) pe_int (fun _ _ => rfl)) (pv 2) rfl)))))
        (fun _ _ _ _ _ => pv 3) (fun _ _ _ _ _ => pe_dget hu (pv 0) (pv 3) (fun _ _ => rfl)))))), ?_⟩
    refine ⟨a, _, ta.at_, mutT, fun od => ?_⟩
    refine ⟨.ref a, rfl, a, _, rfl, .inr ⟨_, upd_same, fun D hD => ?_⟩⟩
    have hDa : D ≠ a := fun e => by rw [e, upd_same] at hD; cases hD
    have hDH : H D = none := by rw [upd_ne hDa] at hD; exact hD
    have hna : n ≠ a := ne_of hn ta.at_ (by intro z; cases z)
    have hpa : p ≠ a := ne_of hp ta.at_ (by intro z; cases z)
    refine dg_it (walk_keysT) (fun i H' => Ex [D] (upd H a (.frz od (dT T))) H' ∧ H' D = some (dT (T.take i))) ⟨.upd_in (by simp), upd_same⟩ ?_ ?_ ?_
    · rintro i H' hi ⟨x, _⟩
      exact x a _ upd_same (by simpa using hDa.symm)
    · rintro i x H1 H2 hi ⟨ex, hD1⟩ ⟨rfl, k, v, b, hk, rfl, hb⟩
      obtain ⟨⟨r, c⟩, y, hT, rfl, rfl⟩ := keyT hk
      rw [pairK_tup] at hb
      have hTk : (keys T)[i]? = some (r, c) := by simp [keys, hT]
      have hn1 := ex n _ (by rw [upd_ne hna]; exact hn) (by simpa using (ne_of_none hn hDH))
      have hp1 := ex p _ (by rw [upd_ne hpa]; exact hp) (by simpa using (ne_of_none hp hDH))
      have ra : Rd H2 a (dT T) := .inr ⟨od, ex a _ upd_same (by simpa using hDa.symm)⟩
      refine ⟨rfl, .ref b, rfl, b, _, 0, .str r, rfl, rfl, SqT.of hb, rfl, .ref n, rfl, n, [], rfl, .inl (SqL.of hn1), rfl, rfl, true, rfl, goT rfl ?_⟩
      refine ⟨.ref b, rfl, b, _, 1, .int c, rfl, rfl, SqT.of hb, rfl, .ref p, rfl, p, [], rfl, .inl (SqL.of hp1), rfl, rfl, true, rfl, goT rfl ?_⟩
      refine ⟨.ref b, rfl, .ref a, rfl, .ref b, rfl, a, .int y, rfl, get_T (p := (r, c)) ra hb (by rw [look_of_mem ta.nk (List.mem_of_getElem? hT)]; rfl), ?_⟩
      have ktake : keys (T.take i) = (keys T).take i := by simp [keys, List.map_take]
      have nT : (keys (T.take i)).Nodup := by rw [ktake]; exact ta.nk.sublist (List.take_sublist _ _)
      have hfresh : (r, c) ∉ keys (T.take i) := fun h => by
        rw [ktake] at h
        have n2 : ((keys T).take (i + 1)).Nodup := ta.nk.sublist (List.take_sublist _ _)
        rw [List.take_add_one, hTk] at n2
        exact (List.nodup_append.mp n2).2.2 _ h _ (by simp) rfl
      refine ⟨_, put_T (p := (r, c)) (v := y) hD1 hb nT (size1000 (by have := ta.len; simp; omega)) rfl, ex.trans (.upd_in (by simp)), ?_⟩
      rw [upd_same, keys_put_new _ hfresh, List.take_add_one, hT]
      rfl
    · rintro H1 ⟨ex, hD1⟩
      rw [emb_length, List.take_of_length_le (Nat.le_refl _)] at hD1
      refine ⟨ex a _ upd_same (by simpa using hDa.symm), ?_⟩
      exact q D _ (Ex.drop (Ex.unlock ta.at_ ex) hDH) hDH ⟨by rw [upd_ne hDa]; exact hD1, ta.nk, ta.len⟩
def spPO : Sp := fun vs H Q _ => ∃ (g : Addr) (gas : List Addr) (Gs : List (List Int)), vs = [.ref g] ∧ GrpAt H g gas Gs ∧ (flat Gs).length < 60 ∧ ∀ (D : Addr) (H' : Hp) (L : List (Int × Int)), Ex [] H H' → H D = none → H' D = some (dII L) → Q (.ref D) H'
theorem scPO : FnScope ["groups", "row_id", "place", "group"] ["groups"] (defScope sPO) := ⟨rfl, rfl, rfl, by decide +kernel, rfl, by decide +kernel, by decide +kernel⟩
theorem ok_PO {f : Addr} {fd : FuncData} (F : Fun K "places_of" "places_of" sPO f fd) (me : mg "enumerate" = none) : FnOk P w K mg base CX0 1 f fd ["groups"] spPO := by
  refine F.ok scPO (fun vs H Q E h => ?_) (fun cdv A outer s H vs Q E hr h => ?_)
  · obtain ⟨g, gas, Gs, rfl, _⟩ := h
    rfl
  · obtain ⟨g, gas, Gs, rfl, hg, hlen, q⟩ := h
    have hu := hu_of hr
    have nd := scPO.nd
    refine ⟨_, pss_one (ps_ret (pe_dg2 (own := [("row_id", 1), ("place", 2), ("group", 3)]) (vs1 := [1]) (g := gTup K 2 (gCons (gName 2) (gCons (gName 3) gNil))) (wi1 := iTup K (tVar 3)) (g1 := gName 1) (tk := tVar 1) (tv := tVar 2) hu rfl nd (pi_enum (by rfl) me (pa_cons (pv 0) pa_nil)) (blkOk_by (N := ["groups", "row_id", "place", "group"]) (sc := defScope sPO) (by decide +kernel)) (by decide)
        (fun _ _ _ _ _ => pg_tup rfl (pgs_cons (pg_name (i := 2) nd rfl (.inl rfl) (.inr rfl)) (pgs_cons (pg_name (i := 3) nd rfl (.inl rfl) (.inr rfl)) pgs_nil)))
        (fun _ _ _ _ _ => pi_tup (pv 3))
        (fun _ _ _ _ _ => pg_name (i := 1) nd rfl (.inl rfl) (.inr rfl))
        (fun _ _ _ _ _ => pv 1) (fun _ _ _ _ _ => pv 2))), ?_⟩
    refine ⟨_, rfl, g, _, rfl, SqL.of hg.at_, fun D hD => ?_⟩
    have notin : ∀ x u, H x = some u → x ∉ [D] := fun x u hx z => by
      rw [List.mem_singleton.mp z, hD] at hx; cases hx
    refine dg2_it (walk_enum (K := K) (a := g) (xs := gas.map V.ref)) (fun i H' => Ex [D] H H' ∧ ∃ L : List (Int × Int), H' D = some (dII L) ∧ (keys L).Nodup ∧ L.length ≤ (flat (Gs.take i)).length) ⟨.upd_in (by simp), [], upd_same, by simp, by simp⟩ ?_ ?_ ?_
    · rintro i H' hi ⟨ex, _⟩
      exact SqL.of (ex g _ hg.at_ (notin g _ hg.at_))
    · rintro i x H1 H2 hi ⟨ex, L, hL, nL, lL⟩ ⟨t, kx, vx, rfl, ht, rfl, hk, hv⟩
      cases hk
      obtain ⟨gt, hgt, rfl⟩ : ∃ gt, gas[i]? = some gt ∧ vx = V.ref gt := by
        have hv : (gas.map V.ref)[i]? = some vx := hv
        rw [List.getElem?_map] at hv
        obtain ⟨n, h1, h2⟩ := Option.map_eq_some_iff.mp hv
        exact ⟨n, h1, h2.symm⟩
      obtain ⟨ids, hids, hgtH⟩ := hg.get hgt
      have tD : t ≠ D := (ne_of_none hL ht).symm
      have ex2 : Ex [D] H (upd H1 t (.tup [.int (i : Nat), .ref gt])) := ex.trans (.upd_new ht)
      have hL2 : upd H1 t (.tup [.int (i : Nat), .ref gt]) D = some (dII L) := by rw [upd_ne tD.symm]; exact hL
      refine ⟨t, _, rfl, SqT.of upd_same, rfl, _, _, rfl, _, _, rfl, rfl, rfl, ?_⟩
      generalize upd H1 t (.tup [.int (i : Nat), .ref gt]) = H2 at ex2 hL2
      have hgt2 : H2 gt = some (.tup (ids.map V.int)) := ex2 gt _ hgtH (notin gt _ hgtH)
      have hl1 : (flat (Gs.take i)).length + ids.length < 60 ∧ (flat (Gs.take (i + 1))).length = (flat (Gs.take i)).length + ids.length := by
        have h1 := flat_take_len (Gs := Gs) (i + 1)
        rw [flat_succ hids] at h1 ⊢
        simp at h1 ⊢
        omega
      refine ⟨_, rfl, gt, rfl, ⟨_, SqT.of hgt2⟩, ?_⟩
      refine in_it (walk_tup (K := K) (a := gt) (xs := ids.map V.int)) (fun j H' => Ex [D] H H' ∧ ∃ L : List (Int × Int), H' D = some (dII L) ∧ (keys L).Nodup ∧ L.length ≤ (flat (Gs.take i)).length + j) ⟨ex2, L, hL2, nL, lL⟩ ?_ ?_ ?_
      · rintro j H' hj ⟨ex3, _⟩
        exact SqT.of (ex3 gt _ hgtH (notin gt _ hgtH))
      · rintro j y H3 H4 hj ⟨ex3, L3, hL3, nL3, lL3⟩ ⟨rfl, hy⟩
        obtain ⟨id, hid, rfl⟩ : ∃ id, ids[j]? = some id ∧ y = V.int id := by
          rw [List.getElem?_map] at hy
          obtain ⟨n, h1, h2⟩ := Option.map_eq_some_iff.mp hy
          exact ⟨n, h1, h2.symm⟩
        have hj' : j < ids.length := by simpa using hj
        refine ⟨rfl, _, rfl, _, rfl, _, put_I (v := (i : Int)) hL3 nL3 (size1000 (by omega)) rfl, ex3.trans (.upd_in (by simp)), _, upd_same, nodup_put nL3, Nat.le_trans put_length (by omega)⟩
      · rintro H3 ⟨ex3, L3, hL3, nL3, lL3⟩
        refine ⟨ex3, L3, hL3, nL3, ?_⟩
        rw [List.length_map] at lL3
        omega
    · rintro H1 ⟨ex, L, hL, nL, lL⟩
      exact q D H1 L (ex.drop hD) hD hL
def spCT : Sp := fun vs H Q _ => ∃ (g p : Addr) (gas : List Addr) (Gs : List (List Int)), vs = [.ref g, .ref p] ∧ GrpAt H g gas Gs ∧ (flat Gs).length < 60 ∧ H p = some (.dK []) ∧ ∀ (D : Addr) (H' : Hp), Ex [] H H' → H D = none → H' D = some (.dK []) → Q (.ref D) H'
theorem scCT : FnScope ["groups", "pins", "places", "found", "taken", "name", "place"] ["groups", "pins"] (defScope sCT) := ⟨rfl, rfl, rfl, by decide +kernel, rfl, by decide +kernel, by decide +kernel⟩
theorem ok_CT {f fP : Addr} {fd fdP : FuncData} (F : Fun K "counting_pins" "counting_pins" sCT f fd) (FP : Fun K "places_of" "places_of" sPO fP fdP) (bP : Binds K fdP ["groups"] []) (gP : mg "places_of" = some (.ref fP)) (me : mg "enumerate" = none) (ms : mg "sorted" = none) : FnOk P w K mg base CX0 2 f fd ["groups", "pins"] spCT := by
  have GP : FnOk P w K mg base CX0 1 fP fdP ["groups"] spPO := ok_PO FP me
  refine F.ok scCT (fun vs H Q E h => ?_) (fun cdv A outer s H vs Q E hr h => ?_)
  · obtain ⟨g, p, gas, Gs, rfl, _⟩ := h
    rfl
  · obtain ⟨g, p, gas, Gs, rfl, hg, hlen, hp, q⟩ := h
    have hu := hu_of hr
    have nd := scCT.nd
    refine ⟨_, pss_cons (ps_set (i := 2) nd rfl (.inl rfl) (pe_call GP hr (by rfl) gP FP.kp bP .nil pass0 (pa_cons (pv 0) pa_nil)))
      (pss_cons (ps_set (i := 3) nd rfl (.inl rfl) pe_dnewK)
      (pss_cons (ps_set (i := 4) nd rfl (.inl rfl) pe_dnewK)
      (pss_cons (ps_for PassesOwn.never rfl (pi_list (pe_callB (call_sortedD rfl) (by rfl) ms PyProof.Rows.boot_sorted (pa_cons (pv 1) pa_nil))) (pg_name (i := 5) nd rfl (.inl rfl)) pss_never)
      (pss_one (ps_ret (pv 3)))))), ?_⟩
    refine ⟨.ref g, rfl, g, gas, Gs, rfl, hg, hlen, fun P1 H1 L ex1 hP1 hL => ?_⟩
    intro D hD E2 hE2
    have hDH : H D = none := ex1.free hD (by simp)
    have hp1 : H1 p = some (.dK []) := ex1 p _ hp (by simp)
    have hE2D : E2 ≠ D := fun e => by rw [e, upd_same] at hE2; cases hE2
    have hE21 : H1 E2 = none := by rw [upd_ne hE2D] at hE2; exact hE2
    have ex2 : Ex [] H (upd (upd H1 D (.dK [])) E2 (.dK [])) := (ex1.put_new hDH).put_new (ex1.free hE21 (by simp))
    have hD2 : upd (upd H1 D (.dK [])) E2 (.dK []) D = some (.dK []) := by rw [upd_ne hE2D.symm, upd_same]
    have hp2 := ex2 p _ hp (by simp)
    generalize upd (upd H1 D (.dK [])) E2 (.dK []) = H2 at ex2 hD2 hp2
    refine ⟨_, rfl, p, [], [], rfl, .inl hp2, rfl, by decide, fun ys l hys _ hl => ?_⟩
    obtain rfl : ys = [] := List.Perm.eq_nil hys
    have hlD : l ≠ D := (ne_of_none hD2 hl).symm
    have ex3 : Ex [] H (upd H2 l (.lst [])) := ex2.put_new (ex2.free hl (by simp))
    refine ⟨l, rfl, ⟨_, SqL.of upd_same⟩, for_list (K := K) (a := l) (xs := []) (fun i σ H' => H' = upd H2 l (.lst []) ∧ ∃ v5 v6, σ = [some (.ref g), some (.ref p), some (.ref P1), some (.ref D), some (.ref E2), v5, v6]) ⟨rfl, _, _, rfl⟩ (fun i σ H' _ ⟨e, _⟩ => by rw [e]; exact SqL.of upd_same) (fun i x σ H' hi => by simp at hi) ?_⟩
    rintro σ H' ⟨rfl, v5, v6, rfl⟩
    exact ⟨_, rfl, q D _ ex3 hDH (by rw [upd_ne hlD.symm]; exact hD2)⟩
end
end KN

namespace KN
open PySem L2 PySem.Spec
open PyProof.Rows hiding St
section
variable {P : Program} {w : World} {K : PySem.W.Frag} {mg : Str → Option Value} {base : Heap}
def spOT : Sp := fun vs H Q _ => ∃ (a g b p : Addr) (lab : List (Int × Str)) (gas : List Addr) (Gs : List (List Int)) (ws : List (Int × Int)), vs = [.ref a, .ref g, .ref b, .ref p] ∧ H a = some (dIS lab) ∧ GrpAt H g gas Gs ∧ H b = some (dII ws) ∧ H p = some (.dK []) ∧
  (∀ e ∈ flat Gs, e.1 ∈ keys ws) ∧ (flat Gs).length < 60 ∧ ∀ (D : Addr) (H' : Hp), Ex [] H H' → H D = none → TabAt H' D (labF lab ws (flat Gs)) → Q (.ref D) H'
theorem scOT : FnScope ["labels", "groups", "weights", "pins", "places", "pinned", "row_id"] ["labels", "groups", "weights", "pins"] (defScope sOT) := ⟨rfl, rfl, rfl, by decide +kernel, rfl, by decide +kernel, by decide +kernel⟩
theorem ok_OT {f fP fL fW : Addr} {fd fdP fdL fdW : FuncData} (F : Fun K "open_table" "open_table" sOT f fd) (FP : Fun K "places_of" "places_of" sPO fP fdP) (bP : Binds K fdP ["groups"] []) (gP : mg "places_of" = some (.ref fP))
    (FL : Fun K "label_table" "label_table" sLT fL fdL) (bL : Binds K fdL ["labels", "groups", "weights"] []) (gL : mg "label_table" = some (.ref fL)) (FW : FunD K "without" "without" (defArgs sWO) (defBody sWO) (defScope sWO) [] [] fW fdW) (gW : mg "without" = some (.ref fW))
    (me : mg "enumerate" = none) (ml : mg "list" = none) : FnOk P w K mg base CX0 2 f fd ["labels", "groups", "weights", "pins"] spOT := by
  have GP : FnOk P w K mg base CX0 1 fP fdP ["groups"] spPO := ok_PO FP me
  have GL : FnOk P w K mg base CX0 1 fL fdL ["labels", "groups", "weights"] spLT := ok_LT FL me
  have GW : FnOk P w K mg base CX0 1 fW fdW ["table", "names", "places"] spWO := ok_WO FW
  refine F.ok scOT (fun vs H Q E h => ?_) (fun cdv A outer s H vs Q E hr h => ?_)
  · obtain ⟨a, g, b, p, lab, gas, Gs, ws, rfl, _⟩ := h
    rfl
  · obtain ⟨a, g, b, p, lab, gas, Gs, ws, rfl, ha, hg, hb, hp, hws, hlen, q⟩ := h
    have hu := hu_of hr
    have nd := scOT.nd
    refine ⟨_, pss_cons (ps_set (i := 4) nd rfl (.inr rfl) (pe_call GP hr (by rfl) gP FP.kp bP .nil pass0 (pa_cons (pv 1) pa_nil)))
      (pss_cons (ps_lock (ps_setLc (i := 5) (own := [("row_id", 6)]) (g := gName 6) (tt := tYes) (te := tNevE) rfl nd rfl rfl (sw_true rfl rfl rfl (by decide +kernel)) (pi_values (pv 3)) (blkOk_by (N := ["labels", "groups", "weights", "pins", "places", "pinned", "row_id"]) (sc := defScope sOT) (by decide +kernel))
        (fun _ _ _ _ _ => pg_name (i := 6) nd rfl (.inl rfl) (.inr rfl)) (fun _ _ _ _ _ => pts_nil) (fun _ _ _ _ _ => pe_nev)))
      (pss_one (ps_ret (pe_callN GW hr (by rfl) gW FW.kp (kb2 FW (fun _ _ _ _ _ _ _ _ _ => rfl)) pass0 (pa_cons (pe_call GL hr (by rfl) gL FL.kp bL .nil pass0 (pa_cons (pv 0) (pa_cons (pv 1) (pa_cons (pv 2) pa_nil)))) pa_nil)
        (pk_cons (pe_callTy (call_listD rfl) (by rfl) ml PyProof.Rows.boot_list (pa_cons (pv 3) pa_nil)) (pk_cons (pv 5) pk_nil)))))), ?_⟩
    refine ⟨.ref g, rfl, g, gas, Gs, rfl, hg, hlen, fun P1 H1 L ex1 hP1 hL => ?_⟩
    have hp1 : H1 p = some (.dK []) := ex1 p _ hp (by simp)
    refine ⟨p, _, hp1, mutK, fun od => ?_⟩
    refine ⟨.ref p, rfl, p, _, [], rfl, upd_same, fun D hD => ?_⟩
    have hDp : D ≠ p := fun e => by rw [e, upd_same] at hD; cases hD
    have hD1 : H1 D = none := by rw [upd_ne hDp] at hD; exact hD
    refine lc_it walk_values (fun i H' => H' = upd (upd H1 p (.frz od (.dK []))) D (.lst [])) rfl (fun i H' _ e => by rw [e, upd_ne hDp.symm, upd_same]) (fun i x H1 H2 hi => by simp at hi) ?_
    rintro H2 rfl
    refine ⟨by rw [upd_ne hDp.symm, upd_same], ?_⟩
    have ex2 : Ex [] H1 (upd (upd (upd H1 p (.frz od (.dK []))) D (.lst [])) p (.dK [])) := Ex.unlock hp1 (Ex.upd_new hD)
    have hD2 : upd (upd (upd H1 p (.frz od (.dK []))) D (.lst [])) p (.dK []) D = some (.lst []) := by rw [upd_ne hDp, upd_same]
    generalize upd (upd (upd H1 p (.frz od (.dK []))) D (.lst [])) p (.dK []) = H2 at ex2 hD2
    have ex02 : Ex [] H H2 := ex1.trans ex2
    refine ⟨.ref a, rfl, .ref g, rfl, .ref b, rfl, a, g, b, lab, gas, Gs, ws, rfl, ex02 a _ ha (by simp), hg.ex0 ex02, ex02 b _ hb (by simp), hws, hlen, fun T H3 ex3 hT tT => ?_⟩
    have ex03 : Ex [] H H3 := ex02.trans ex3
    refine ⟨.ref p, rfl, p, [], rfl, .inl (ex03 p _ hp (by simp)), fun l hl => ?_⟩
    have ex4 : Ex [] H3 (upd H3 l (.lst [])) := .upd_new hl
    refine ⟨.ref D, rfl, rfl, rfl, T, l, D, _, rfl, tT.ex ex4 (by simp), upd_same, (ex3.trans ex4) D _ hD2 (by simp), fun R H5 ex5 hR tR => ?_⟩
    exact q R H5 ((ex03.trans ex4).trans ex5) ((ex03.trans ex4).free hR (by simp)) tR
def spCO : Sp := fun vs H Q _ => ∃ (a g b : Addr) (lab : List (Int × Str)) (gas : List Addr) (Gs : List (List Int)) (ws : List (Int × Int)), vs = [.ref a, .ref g, .ref b, .non, .non] ∧ H a = some (dIS lab) ∧ GrpAt H g gas Gs ∧ H b = some (dII ws) ∧
  (∀ e ∈ flat Gs, e.1 ∈ keys ws) ∧ (flat Gs).length ≤ 9 ∧ ∀ (D : Addr) (H' : Hp) (ps : List (Str × Int)) (R : List Str) (C : List Int), Ex [] H H' → H D = none → PairsAt H' D ps → R.Nodup → C.Nodup → Supp (wT (labF lab ws (flat Gs))) R C → Cert (wT (labF lab ws (flat Gs))) R C ps → Q (.ref D) H'
theorem scCO : FnScope ["labels", "groups", "weights", "pins", "homes", "counting", "places", "found", "name", "row_id"] ["labels", "groups", "weights", "pins", "homes"] (defScope sCO) := ⟨rfl, rfl, rfl, by decide +kernel, rfl, by decide +kernel, by decide +kernel⟩
theorem ok_CO {f fP fC fB fO : Addr} {fd fdP fdC fdB fdO : FuncData} (F : FunD K "carry_over" "carry_over" (defArgs sCO) (defBody sCO) (defScope sCO) [] [("pins", .non), ("homes", .non)] f fd)
    (FP : Fun K "places_of" "places_of" sPO fP fdP) (bP : Binds K fdP ["groups"] []) (gP : mg "places_of" = some (.ref fP)) (me : mg "enumerate" = none)
    (GC : FnOk P w K mg base CX0 2 fC fdC ["groups", "pins"] spCT) (kC : PySem.W.keepIn K (.ref fC) = true) (bC : Binds K fdC ["groups", "pins"] []) (gC : mg "counting_pins" = some (.ref fC))
    (GB : FnOk P w K mg base CX0 3 fB fdB ["table", "homes"] spBC) (FB : FunD K "best_carrying" "best_carrying" (defArgs sBC) (defBody sBC) (defScope sBC) [] [("homes", .non)] fB fdB) (gB : mg "best_carrying" = some (.ref fB))
    (GO : FnOk P w K mg base CX0 2 fO fdO ["labels", "groups", "weights", "pins"] spOT) (kO : PySem.W.keepIn K (.ref fO) = true) (bO : Binds K fdO ["labels", "groups", "weights", "pins"] []) (gO : mg "open_table" = some (.ref fO)) :
    FnOk P w K mg base CX0 4 f fd ["labels", "groups", "weights", "pins", "homes"] spCO := by
  have GP : FnOk P w K mg base CX0 1 fP fdP ["groups"] spPO := ok_PO FP me
  refine F.ok scCO (fun vs H Q E h => ?_) (fun cdv A outer s H vs Q E hr h => ?_)
  · obtain ⟨a, g, b, lab, gas, Gs, ws, rfl, _⟩ := h
    rfl
  · obtain ⟨a, g, b, lab, gas, Gs, ws, rfl, ha, hg, hb, hws, hlen, q⟩ := h
    have hu := hu_of hr
    have nd := scCO.nd
    refine ⟨_, PSs.nox (pss_cons (ps_set (i := 5) nd rfl (.inl rfl) (pe_call GC (hr.mono (by decide)) (by rfl) gC kC bC .nil pass0 (pa_cons (pv 1) (pa_cons (pe_ifExp (pt_cmp (pc_isN (pv 3))) pe_dnewK pe_nev) pa_nil))))
      (pss_cons (ps_set (i := 6) nd rfl (.inr rfl) (pe_call GP (hr.mono (by decide)) (by rfl) gP FP.kp bP .nil pass0 (pa_cons (pv 1) pa_nil)))
      (pss_cons (ps_lock (ps_setDg (i := 7) (own := [("name", 8), ("row_id", 9)]) (g := gTup K 2 (gCons (gName 8) (gCons (gName 9) gNil))) (tt := tYes) (tk := tNevE) (tv := tNevE) hu (.inl rfl) rfl nd rfl rfl
        (swap_dict rfl rfl rfl (by decide +kernel)) (pi_items (pv 5)) (blkOk_by (N := ["labels", "groups", "weights", "pins", "homes", "counting", "places", "found", "name", "row_id"]) (sc := defScope sCO) (by decide +kernel))
        (fun _ _ _ _ _ => pg_tup rfl (pgs_cons (pg_name (i := 8) nd rfl (.inl rfl) (.inr rfl)) (pgs_cons (pg_name (i := 9) nd rfl (.inl rfl) (.inr rfl)) pgs_nil)))
        (fun _ _ _ _ _ => pts_nil) (fun _ _ _ _ _ => pe_nev) (fun _ _ _ _ _ => pe_nev)))
      (pss_one (ps_ret (pe_both (pv 7) (pe_callN GB hr (by rfl) gB FB.kp (kb1 FB (fun _ _ _ _ _ _ _ _ => rfl)) pass0
        (pa_cons (pe_call GO (hr.mono (by decide)) (by rfl) gO kO bO .nil pass0 (pa_cons (pv 0) (pa_cons (pv 1) (pa_cons (pv 2) (pa_cons (pv 5) pa_nil))))) pa_nil) (pk_cons (pv 4) pk_nil)))))))), ?_⟩
    refine ⟨.ref g, rfl, .non, rfl, true, rfl, goT rfl fun E0 hE0 => ?_⟩
    have ex0 : Ex [] H (upd H E0 (.dK [])) := .upd_new hE0
    refine ⟨g, E0, gas, Gs, rfl, hg.ex0 ex0, by omega, upd_same, fun Cn H1 ex1 hCn hC1 => ?_⟩
    have ex01 : Ex [] H H1 := ex0.trans ex1
    refine ⟨.ref g, rfl, g, gas, Gs, rfl, hg.ex0 ex01, by omega, fun P1 H2 L ex2 hP1 hP2 => ?_⟩
    have ex02 : Ex [] H H2 := ex01.trans ex2
    have hC2 : H2 Cn = some (.dK []) := ex2 Cn _ hC1 (by simp)
    refine ⟨Cn, _, hC2, mutK, fun od => ?_⟩
    refine ⟨.ref Cn, rfl, Cn, _, [], rfl, upd_same, fun D hD => ?_⟩
    have hDC : D ≠ Cn := fun e => by rw [e, upd_same] at hD; cases hD
    refine dg_it walk_items (fun i H' => H' = upd (upd H2 Cn (.frz od (.dK []))) D (.dK [])) rfl (fun i H' _ e => by rw [e, upd_ne hDC.symm, upd_same]) (fun i x H1 H2 hi => by simp at hi) ?_
    rintro H3 rfl
    refine ⟨by rw [upd_ne hDC.symm, upd_same], ?_⟩
    have ex3 : Ex [] H2 (upd (upd (upd H2 Cn (.frz od (.dK []))) D (.dK [])) Cn (.dK [])) := Ex.unlock hC2 (Ex.upd_new hD)
    have hD3 : upd (upd (upd H2 Cn (.frz od (.dK []))) D (.dK [])) Cn (.dK []) D = some (.dK []) := by rw [upd_ne hDC, upd_same]
    generalize upd (upd (upd H2 Cn (.frz od (.dK []))) D (.dK [])) Cn (.dK []) = H3 at ex3 hD3
    have ex03 : Ex [] H H3 := ex02.trans ex3
    have hC3 : H3 Cn = some (.dK []) := ex3 Cn _ hC2 (by simp)
    intro R hR
    have hRD : R ≠ D := (ne_of_none hD3 hR).symm
    have hRC : R ≠ Cn := (ne_of_none hC3 hR).symm
    have hRH : H R = none := ex03.free hR (by simp)
    have ex4 : Ex [] H (upd (upd H3 R (.dK [])) R (.dK (mergeK [] []))) := (ex03.put_new hRH).put_new hRH
    refine ⟨_, rfl, D, [], rfl, by rw [upd_ne hRD.symm]; exact hD3, hRD.symm, upd_same, ?_⟩
    have hC4 : upd (upd H3 R (.dK [])) R (.dK (mergeK [] [])) Cn = some (.dK []) := by rw [upd_ne hRC.symm, upd_ne hRC.symm]; exact hC3
    have hR4 : upd (upd H3 R (.dK [])) R (.dK (mergeK [] [])) R = some (.dK []) := upd_same
    generalize upd (upd H3 R (.dK [])) R (.dK (mergeK [] [])) = H4 at ex4 hC4 hR4
    refine ⟨.ref a, rfl, .ref g, rfl, .ref b, rfl, .ref Cn, rfl, a, g, b, Cn, lab, gas, Gs, ws, rfl, ex4 a _ ha (by simp), hg.ex0 ex4, ex4 b _ hb (by simp), hC4, hws, by omega, fun T H5 ex5 hT tT => ?_⟩
    refine ⟨.non, rfl, rfl, rfl, T, _, rfl, tT, Nat.le_trans labF_len hlen, fun p H6 ps Rn Cc ex6 hp pa nR nC S ce => ?_⟩
    have hR6 : H6 R = some (.dK []) := (ex5.trans ex6) R _ hR4 (by simp)
    have ex06 : Ex [] H H6 := ex4.trans (ex5.trans ex6)
    refine ⟨p, _, rfl, pa.at_, (ne_of_none ((ex5) R _ hR4 (by simp)) hp).symm, hR6, ?_, ?_⟩
    · rw [emb_length]
      have := pa.len
      exact size1000 (by simp; omega)
    · have e : mergeK (mergeK [] []) (emb kS V.int ps) = emb kS V.int ps := merge_emb kS_inj ps [] (by simpa using pa.nk)
      rw [e]
      exact q R _ ps Rn Cc (ex06.put_new hRH) hRH ⟨upd_same, pa.nk, pa.len⟩ nR nC S ce
end
end KN

namespace KN
open PySem
/-! ### texts in order -/
theorem le_of_notlt {a b : List Nat} (h : PySem.Spec.ltCps b a = false) : a ≤ b := by
  rw [PyProof.Rows.ltCps_eq] at h
  exact List.not_lt.mp (of_decide_eq_false h)
theorem rising_all : ∀ (l : List Str) (p : Str), PyProof.Rows.risingS p l = true → ∀ y ∈ l, p.cps.toList ≤ y.cps.toList
  | [], _, _, y, hy => by simp at hy
  | x :: r, p, h, y, hy => by
    unfold PyProof.Rows.risingS at h
    rw [Bool.and_eq_true] at h
    have h1 : p.cps.toList ≤ x.cps.toList := le_of_notlt (by simpa using h.1)
    rcases List.mem_cons.mp hy with e | e
    · rw [e]; exact h1
    · exact List.le_trans h1 (rising_all r x h.2 y e)
theorem rising_pw : ∀ (l : List Str) (p : Str), PyProof.Rows.risingS p l = true → (p :: l).Pairwise (fun a b => a.cps.toList ≤ b.cps.toList)
  | [], p, _ => by simp
  | x :: r, p, h => by
    have h0 := rising_all (x :: r) p h
    refine List.pairwise_cons.mpr ⟨h0, ?_⟩
    unfold PyProof.Rows.risingS at h
    rw [Bool.and_eq_true] at h
    exact rising_pw r x h.2
theorem sortedS_pw {l : List Str} (h : PyProof.Rows.sortedS l = true) : l.Pairwise (fun a b => a.cps.toList ≤ b.cps.toList) := by
  cases l with
  | nil => simp
  | cons x r => exact rising_pw r x h
theorem perm_same {l l' : List Str} (h : l.Perm l') (a : l.Pairwise (fun a b => a.cps.toList ≤ b.cps.toList)) (b : l'.Pairwise (fun a b => a.cps.toList ≤ b.cps.toList)) : l = l' := by
  refine List.Perm.eq_of_pairwise (le := fun a b : Str => a.cps.toList ≤ b.cps.toList) (fun x y _ _ h1 h2 => ?_) a b h
  have e := List.le_antisymm h1 h2
  cases x
  cases y
  congr 1
  exact Array.ext' e
/-! ### one weight changes -/
theorem sum_near {ws1 ws2 : List (Int × Int)} {id d : Int} (hd : 0 ≤ d) (ho : ∀ x, x ≠ id → at0 ws2 x = at0 ws1 x) (hi : at0 ws2 id = at0 ws1 id + d) : ∀ l : List (Int × Int), (keys l).Nodup →
    sumf (fun e => at0 ws1 e.1) l ≤ sumf (fun e => at0 ws2 e.1) l ∧ sumf (fun e => at0 ws2 e.1) l ≤ sumf (fun e => at0 ws1 e.1) l + d
  | [], _ => by rw [sumf_nil, sumf_nil]; omega
  | e :: l, hn => by
    have hn' := List.nodup_cons.mp (show (e.1 :: keys l).Nodup from hn)
    rw [sumf_cons, sumf_cons]
    by_cases h : e.1 = id
    · have : sumf (fun e => at0 ws2 e.1) l = sumf (fun e => at0 ws1 e.1) l := sumf_congr fun x hx => ho x.1 fun q => hn'.1 (by rw [h, ← q]; exact List.mem_map.mpr ⟨x, hx, rfl⟩)
      rw [this, h, hi]
      omega
    · have := sum_near hd ho hi l hn'.2
      rw [ho e.1 h]
      omega
theorem hits_sub {lab : List (Int × Str)} {F : List (Int × Int)} {k : Str × Int} (h : (keys F).Nodup) : (keys (hits lab F k)).Nodup := (List.Sublist.map _ List.filter_sublist).nodup h
theorem near_lab {lab : List (Int × Str)} {ws1 ws2 F : List (Int × Int)} {id d : Int} (hF : (keys F).Nodup) (hd : 0 ≤ d) (ho : ∀ x, x ≠ id → at0 ws2 x = at0 ws1 x) (hi : at0 ws2 id = at0 ws1 id + d) : Near (wT (labF lab ws1 F)) (wT (labF lab ws2 F)) d := by
  have key : ∀ (r0 : Str) (c0 : Int), (∀ e ∈ F, e.1 = id → look lab id = some r0 → e.2 = c0) → (∀ r, look lab id = some r → r = r0) → Near (wT (labF lab ws1 F)) (wT (labF lab ws2 F)) d := fun r0 c0 hc hr => by
    refine near_one hd r0 c0 (fun r c => labF_keys r c) (fun r c hne => ?_) fun x y hx hy => ?_
    · rw [labF_look, labF_look]
      by_cases h : hits lab F (r, c) = []
      · rw [if_pos h, if_pos h]
      · rw [if_neg h, if_neg h]
        refine congrArg some (sumf_congr fun e he => ho e.1 fun q => hne ?_)
        obtain ⟨h1, h2, h3⟩ := mem_hits.mp he
        rw [q] at h2
        have e1 := hr r h2
        exact ⟨e1, by rw [← h3]; exact hc e h1 q (by rw [← e1]; exact h2)⟩
    · rw [labF_look] at hx hy
      by_cases h : hits lab F (r0, c0) = []
      · rw [if_pos h] at hx; cases hx
      · rw [if_neg h] at hx hy
        cases hx
        cases hy
        exact sum_near hd ho hi _ (hits_sub hF)
  cases hl : look lab id with
  | none => exact key ⟨#[]⟩ 0 (fun e _ _ q => by rw [hl] at q; cases q) (fun r q => by rw [hl] at q; cases q)
  | some r0 =>
    cases hp : look F id with
    | none => exact key r0 0 (fun e he q _ => absurd (List.mem_map.mpr ⟨e, he, q⟩) (look_none.mp hp)) (fun r q => by rw [hl] at q; exact (Option.some.inj q).symm)
    | some c0 => exact key r0 c0 (fun e he q _ => by
        have : look F e.1 = some e.2 := look_of_mem hF he
        rw [q, hp] at this
        exact (Option.some.inj this).symm) (fun r q => by rw [hl] at q; exact (Option.some.inj q).symm)
theorem max_there {w : Str → Int → Option Int} {R : List Str} {C : List Int} (S : Supp w R C) (hR : R.Nodup) (hC : C.Nodup) : ∃ v, IsMax w v := by
  obtain ⟨N, c⟩ := cert_there _ R rfl C w hR S
  exact ⟨_, c.max S hR hC⟩
theorem less_supp {w : Str → Int → Option Int} {R : List Str} {C : List Int} (S : Supp w R C) (n : Str) : Supp (less w n) R C := fun r c x h => S r c x (less_some h).2
def iabs (i : Int) : Int := if i < 0 then -i else i
/-- the worths are near one another, too -/
theorem worth_near {w w' : Str → Int → Option Int} {d : Int} (h : Near w w' d) {n : Str} {v v' u u' : Int} (hv : IsMax w v) (hv' : IsMax w' v') (hu : IsMax (less w n) u) (hu' : IsMax (less w' n) u') : iabs ((v' - u') - (v - u)) ≤ d ∧ iabs ((v - u) - (v' - u')) ≤ d ∧ iabs (v' - v) ≤ d ∧ iabs (v - v') ≤ d := by
  have h1 := h.max hv hv'
  have h2 := (h.less n).max hu hu'
  unfold iabs
  refine ⟨?_, ?_, ?_, ?_⟩ <;> split <;> omega
/-- any new weight -/
theorem worths_put {lab : List (Int × Str)} {ws F : List (Int × Int)} {id v : Int} (hF : (keys F).Nodup) {n : Str} {m m' u u' : Int} (hm : IsMax (wT (labF lab ws F)) m) (hm' : IsMax (wT (labF lab (put ws id v) F)) m') (hu : IsMax (less (wT (labF lab ws F)) n) u) (hu' : IsMax (less (wT (labF lab (put ws id v) F)) n) u') :
    iabs (m' - m) ≤ iabs (v - at0 ws id) ∧ iabs ((m - u) - (m' - u')) ≤ iabs (v - at0 ws id) := by
  have e1 : ∀ x, x ≠ id → at0 (put ws id v) x = at0 ws x := fun x hx => by rw [at0_put]; exact if_neg hx
  have e2 : at0 (put ws id v) id = v := by rw [at0_put]; exact if_pos rfl
  by_cases h : at0 ws id ≤ v
  · have nr := near_lab (lab := lab) (ws1 := ws) (ws2 := put ws id v) (id := id) (d := v - at0 ws id) hF (by omega) e1 (by rw [e2]; omega)
    have ed : iabs (v - at0 ws id) = v - at0 ws id := by unfold iabs; rw [if_neg (by omega)]
    rw [ed]
    have := worth_near nr hm hm' hu hu'
    exact ⟨this.2.2.1, this.2.1⟩
  · have nr := near_lab (lab := lab) (ws1 := put ws id v) (ws2 := ws) (id := id) (d := at0 ws id - v) hF (by omega) (fun x hx => (e1 x hx).symm) (by rw [e2]; omega)
    have ed : iabs (v - at0 ws id) = at0 ws id - v := by unfold iabs; rw [if_pos (by omega)]; omega
    rw [ed]
    have := worth_near nr hm' hm hu' hu
    exact ⟨this.2.2.2, this.1⟩
end KN

namespace KN
open PySem
theorem sumf_filter {α : Type} (f : α → Int) (p : α → Bool) (l : List α) : sumf f (l.filter p) = sumf (fun x => if p x = true then f x else 0) l := by
  induction l with
  | nil => rfl
  | cons a r ih =>
    rw [sumf_cons]
    by_cases h : p a = true
    · rw [List.filter_cons_of_pos h, sumf_cons, ih, if_pos h]
    · rw [List.filter_cons_of_neg h, ih, if_neg h]; omega
theorem sumf_one {α : Type} [DecidableEq α] (k : α) (a : Int) : ∀ l : List α, l.Nodup → sumf (fun x => if x = k then a else 0) l = if k ∈ l then a else 0
  | [], _ => rfl
  | x :: l, h => by
    have h' := List.nodup_cons.mp h
    rw [sumf_cons, sumf_one k a l h'.2]
    by_cases e : x = k
    · subst e
      rw [if_pos rfl, if_neg h'.1, if_pos List.mem_cons_self]; omega
    · rw [if_neg e]
      by_cases m : k ∈ l
      · rw [if_pos m, if_pos (List.mem_cons_of_mem _ m)]; omega
      · rw [if_neg m, if_neg fun q => by
          rcases List.mem_cons.mp q with q | q
          · exact e q.symm
          · exact m q]; omega
theorem nodup_map {α β : Type} {f : α → β} : ∀ {l : List α}, l.Nodup → (∀ x ∈ l, ∀ y ∈ l, f x = f y → x = y) → (l.map f).Nodup
  | [], _, _ => List.nodup_nil
  | x :: l, h, hi => by
    have h' := List.nodup_cons.mp h
    refine List.nodup_cons.mpr ⟨fun q => ?_, nodup_map h'.2 fun a ha b hb => hi a (List.mem_cons_of_mem _ ha) b (List.mem_cons_of_mem _ hb)⟩
    obtain ⟨y, hy, e⟩ := List.mem_map.mp q
    have := hi y (List.mem_cons_of_mem _ hy) x List.mem_cons_self e
    exact h'.1 (this ▸ hy)
theorem nodup_back {α β : Type} {f : α → β} : ∀ {l : List α}, (l.map f).Nodup → l.Nodup
  | [], _ => List.nodup_nil
  | x :: l, h => by
    have h' := List.nodup_cons.mp (show (f x :: l.map f).Nodup from h)
    exact List.nodup_cons.mpr ⟨fun q => h'.1 (List.mem_map.mpr ⟨x, q, rfl⟩), nodup_back h'.2⟩
theorem nodup_of' {α : Type} [DecidableEq α] (l : List α) : ∃ R : List α, R.Nodup ∧ ∀ x, x ∈ R ↔ x ∈ l := by
  induction l with
  | nil => exact ⟨[], by simp, by simp⟩
  | cons a l ih =>
    obtain ⟨R, h1, h2⟩ := ih
    by_cases e : a ∈ l
    · exact ⟨R, h1, fun x => by rw [h2]; simp; intro q; rw [q]; exact e⟩
    · exact ⟨a :: R, List.nodup_cons.mpr ⟨fun q => e ((h2 a).mp q), h1⟩, fun x => by simp [h2]⟩
/-- an id that is called otherwise than the names at its place -/
def ren (lab : List (Int × Str)) (ps : List (Str × Int)) (e : Int × Int) : Bool := match look lab e.1 with
  | none => false
  | some n => !decide (look ps n = some e.2)
/-- what a list of pairs is worth, id by id -/
theorem val_by {lab : List (Int × Str)} {ws F : List (Int × Int)} (N : List (Str × Int)) (hN : N.Nodup) (hl : ∀ e ∈ F, ∃ n, look lab e.1 = some n) :
    val (wT (labF lab ws F)) N = sumf (fun e => if ((look lab e.1).getD ⟨#[]⟩, e.2) ∈ N then at0 ws e.1 else 0) F := by
  have h1 : val (wT (labF lab ws F)) N = sumf (fun k => sumf (fun e => if fits lab k e = true then at0 ws e.1 else 0) F) N := sumf_congr fun k _ => by
    rw [show wt (wT (labF lab ws F)) k.1 k.2 = sumf (fun e => at0 ws e.1) (hits lab F (k.1, k.2)) from labF_wt]
    exact sumf_filter _ _ _
  rw [h1, sumf_comm]
  refine sumf_congr fun e he => ?_
  obtain ⟨n, hn⟩ := hl e he
  rw [hn]
  show _ = if (n, e.2) ∈ N then at0 ws e.1 else 0
  have h2 := sumf_one (n, e.2) (at0 ws e.1) N hN
  refine Eq.trans (sumf_congr fun k _ => ?_) (h2.trans (by congr))
  have : fits lab k e = true ↔ k = (n, e.2) := by
    simp only [fits, hn, Bool.and_eq_true, decide_eq_true_eq, Option.some.injEq]
    constructor
    · rintro ⟨a, b⟩; rw [a, b]
    · rintro rfl; exact ⟨rfl, rfl⟩
  by_cases h : k = (n, e.2)
  · rw [if_pos (this.mpr h), if_pos h]
  · rw [if_neg fun q => h (this.mp q), if_neg h]
theorem plain_law {lab : List (Int × Str)} {ws F : List (Int × Int)} {ps : List (Str × Int)} {R : List Str} {C : List Int} {M : List Int} (hF : (keys F).Nodup) (hl : ∀ e ∈ F, ∃ n, look lab e.1 = some n) (hw : ∀ x, 0 ≤ at0 ws x)
    (S : Supp (wT (labF lab ws F)) R C) (nR : R.Nodup) (nC : C.Nodup) (ce : Cert (wT (labF lab ws F)) R C ps) (same : ∀ e1 ∈ F, ∀ e2 ∈ F, e1.1 ∉ M → e2.1 ∉ M → (look lab e1.1 = look lab e2.1 ↔ e1.2 = e2.2)) :
    sumf (at0 ws) ((F.filter (ren lab ps)).map Prod.fst) ≤ sumf (at0 ws) M := by
  have im := ce.1
  have nps : ps.Nodup := nodup_back im.nr
  -- what stays
  have v1 := val_by (ws := ws) ps nps hl
  have r1 : ∀ e ∈ F, (ren lab ps e = true ↔ ¬ ((look lab e.1).getD ⟨#[]⟩, e.2) ∈ ps) := fun e he => by
    obtain ⟨n, hn⟩ := hl e he
    rw [hn]
    simp only [ren, hn, Option.getD_some, Bool.not_eq_true', decide_eq_false_iff_not]
    rw [look_mem im.nr]
  rw [sumf_map]
  have e1 : sumf (fun e => at0 ws e.1) (F.filter (ren lab ps)) = sumf (fun e => at0 ws e.1) F - val (wT (labF lab ws F)) ps := by
    rw [v1, sumf_filter, ← sumf_sub']
    refine sumf_congr fun e he => ?_
    by_cases h : ((look lab e.1).getD ⟨#[]⟩, e.2) ∈ ps
    · rw [if_pos h, if_neg fun q => (r1 e he).mp q h]; omega
    · rw [if_neg h, if_pos ((r1 e he).mpr h)]; omega
  -- the matching of those that did not move
  obtain ⟨N0, n1, n2⟩ := nodup_of' ((F.filter fun e => !decide (e.1 ∈ M)).map fun e => ((look lab e.1).getD (⟨#[]⟩ : Str), e.2))
  have inN : ∀ k, k ∈ N0 ↔ ∃ e ∈ F, e.1 ∉ M ∧ look lab e.1 = some k.1 ∧ e.2 = k.2 := fun k => by
    rw [n2, List.mem_map]
    constructor
    · rintro ⟨e, he, rfl⟩
      obtain ⟨h1, h2⟩ := List.mem_filter.mp he
      obtain ⟨n, hn⟩ := hl e h1
      exact ⟨e, h1, by simpa using h2, by rw [hn]; rfl, rfl⟩
    · rintro ⟨e, h1, h2, h3, h4⟩
      exact ⟨e, List.mem_filter.mpr ⟨h1, by simpa using h2⟩, by rw [h3, h4]; rfl⟩
  have im0 : IsM (wT (labF lab ws F)) N0 := by
    refine ⟨nodup_map n1 fun x hx y hy q => ?_, nodup_map n1 fun x hx y hy q => ?_, fun r c h => ?_⟩
    · obtain ⟨e, a1, a2, a3, a4⟩ := (inN x).mp hx
      obtain ⟨e', b1, b2, b3, b4⟩ := (inN y).mp hy
      have := (same e a1 e' b1 a2 b2).mp (by rw [a3, b3, q])
      exact Prod.ext q (by rw [← a4, ← b4, this])
    · obtain ⟨e, a1, a2, a3, a4⟩ := (inN x).mp hx
      obtain ⟨e', b1, b2, b3, b4⟩ := (inN y).mp hy
      have := (same e a1 e' b1 a2 b2).mpr (by rw [a4, b4, q])
      rw [a3, b3] at this
      exact Prod.ext (Option.some.inj this) q
    · obtain ⟨e, a1, a2, a3, a4⟩ := (inN (r, c)).mp h
      exact labF_some.mpr ⟨e, a1, a3, a4⟩
  have hmax := (ce.max S nR nC).2 N0 im0
  have v0 := val_by (ws := ws) N0 n1 hl
  have low : sumf (fun e => at0 ws e.1) F - sumf (fun e => if decide (e.1 ∈ M) = true then at0 ws e.1 else 0) F ≤ val (wT (labF lab ws F)) N0 := by
    rw [v0, ← sumf_sub']
    refine sumf_le fun e he => ?_
    obtain ⟨n, hn⟩ := hl e he
    by_cases h : e.1 ∈ M
    · rw [if_pos (decide_eq_true h)]
      have := hw e.1
      split <;> omega
    · rw [if_neg (by simpa using h), if_pos]
      · omega
      · rw [hn]
        exact (inN (n, e.2)).mpr ⟨e, he, h, hn, rfl⟩
  have up : sumf (fun e => if decide (e.1 ∈ M) = true then at0 ws e.1 else 0) F ≤ sumf (at0 ws) M := by
    rw [← sumf_filter (fun e : Int × Int => at0 ws e.1) (fun e => decide (e.1 ∈ M)), ← sumf_map (at0 ws) Prod.fst]
    refine sumf_sub ((List.Sublist.map _ List.filter_sublist).nodup hF) (fun x hx => ?_) (fun x _ => hw x)
    obtain ⟨e, he, rfl⟩ := List.mem_map.mp hx
    simpa using (List.mem_filter.mp he).2
  omega
end KN

namespace KN
open PySem L2 PySem.Spec
open PyProof.Rows hiding St
theorem mem_flat {Gs : List (List Int)} {i : Nat} {ids : List Int} {x : Int} (h : Gs[i]? = some ids) (hx : x ∈ ids) : (x, (i : Int)) ∈ flat Gs := mem_flatF.mpr ⟨i, ids, h, hx, by simp⟩
section
variable {P : Program} {w : World} {K : PySem.W.Frag} {mg : Str → Option Value} {base : Heap}
def spLO : Sp := fun vs H Q _ => ∃ (g n : Addr) (gas : List Addr) (Gs : List (List Int)) (nl : List (Str × Int)), vs = [.ref g, .ref n] ∧ GrpAt H g gas Gs ∧ PairsAt H n nl ∧ (flat Gs).length < 60 ∧ (∀ nm p, (nm, p) ∈ nl → ∃ (k : Nat) (ids : List Int), p = (k : Int) ∧ Gs[k]? = some ids) ∧
  ∀ (D : Addr) (H' : Hp) (lab : List (Int × Str)), Ex [] H H' → H D = none → H' D = some (dIS lab) → (keys lab).Nodup → (∀ x nm, look lab x = some nm → ∃ (k : Nat) (ids : List Int), (nm, (k : Int)) ∈ nl ∧ Gs[k]? = some ids ∧ x ∈ ids) →
    (∀ nm (k : Nat) ids x, (nm, (k : Int)) ∈ nl → Gs[k]? = some ids → x ∈ ids → x ∈ keys lab) → Q (.ref D) H'
theorem scLO : FnScope ["groups", "names", "row_id", "name", "place"] ["groups", "names"] (defScope sLO) := ⟨rfl, rfl, rfl, by decide +kernel, rfl, by decide +kernel, by decide +kernel⟩
theorem ok_LO {f : Addr} {fd : FuncData} (F : Fun K "labels_of" "labels_of" sLO f fd) : FnOk P w K mg base CX0 1 f fd ["groups", "names"] spLO := by
  refine F.ok scLO (fun vs H Q E h => ?_) (fun cdv A outer s H vs Q E hr h => ?_)
  · obtain ⟨g, n, gas, Gs, nl, rfl, _⟩ := h
    rfl
  · obtain ⟨g, n, gas, Gs, nl, rfl, hg, hn, hlen, hnl, q⟩ := h
    have hu := hu_of hr
    have nd := scLO.nd
    refine ⟨_, pss_one (ps_ret (pe_lock (pe_dg2 (own := [("row_id", 2), ("name", 3), ("place", 4)]) (vs1 := [2]) (g := gTup K 2 (gCons (gName 3) (gCons (gName 4) gNil))) (wi1 := iTup K (tOp (rIxL K) (tVar 0) (tVar 4))) (g1 := gName 2) (tk := tVar 2) (tv := tVar 3) hu rfl nd (pi_items (pv 1)) (blkOk_by (N := ["groups", "names", "row_id", "name", "place"]) (sc := defScope sLO) (by decide +kernel)) (by decide)
        (fun _ _ _ _ _ => pg_tup rfl (pgs_cons (pg_name (i := 3) nd rfl (.inl rfl) (.inr rfl)) (pgs_cons (pg_name (i := 4) nd rfl (.inl rfl) (.inr rfl)) pgs_nil)))
        (fun _ _ _ _ _ => pi_tup (pe_ix ix_list (pv 0) (pv 4) (fun _ _ => rfl)))
        (fun _ _ _ _ _ => pg_name (i := 2) nd rfl (.inl rfl) (.inr rfl))
        (fun _ _ _ _ _ => pv 2) (fun _ _ _ _ _ => pv 3)))), ?_⟩
    refine ⟨n, _, hn.at_, mutK, fun od => ?_⟩
    refine ⟨.ref n, rfl, n, _, _, rfl, upd_same, fun D hD => ?_⟩
    have hDn : D ≠ n := fun e => by rw [e, upd_same] at hD; cases hD
    have hDH : H D = none := by rw [upd_ne hDn] at hD; exact hD
    have hgn : g ≠ n := ne_of hg.at_ hn.at_ (by intro z; cases z)
    have notin : ∀ x u, H x = some u → x ∉ [D] := fun x u hx z => by
      rw [List.mem_singleton.mp z, hDH] at hx; cases hx
    refine dg2_it walk_items (fun i H' => Ex [D] (upd H n (.frz od (dSI nl))) H' ∧ ∃ lab : List (Int × Str), H' D = some (dIS lab) ∧ (keys lab).Nodup ∧ (∀ x nm, look lab x = some nm → ∃ (k : Nat) (ids : List Int), (nm, (k : Int)) ∈ nl.take i ∧ Gs[k]? = some ids ∧ x ∈ ids) ∧
      ∀ nm (k : Nat) ids x, (nm, (k : Int)) ∈ nl.take i → Gs[k]? = some ids → x ∈ ids → x ∈ keys lab) ⟨.upd_in (by simp), [], upd_same, by simp, by simp [look], by simp⟩ ?_ ?_ ?_
    · rintro i H' hi ⟨ex, _⟩
      exact ex n _ upd_same (notin n _ hn.at_)
    · rintro i x H1 H2 hi ⟨ex, lab, hL, nL, l1, l2⟩ ⟨t, kx, vx, rfl, ht, rfl, hk, hv⟩
      obtain ⟨nm, p, hT, rfl, rfl⟩ := itemsK hk hv
      obtain ⟨k, ids, rfl, hids⟩ := hnl nm p (List.mem_of_getElem? hT)
      obtain ⟨gt, hgt⟩ : ∃ gt, gas[k]? = some gt := by
        have hk' : k < gas.length := by rw [hg.len]; exact (List.getElem?_eq_some_iff.mp hids).1
        exact ⟨_, List.getElem?_eq_getElem hk'⟩
      have hgtH := hg.each k gt ids hgt hids
      have hgtn : gt ≠ n := ne_of hgtH hn.at_ (by intro z; cases z)
      have tD : t ≠ D := (ne_of_none hL ht).symm
      have ex2 : Ex [D] (upd H n (.frz od (dSI nl))) (upd H1 t (.tup [.str nm, .int (k : Int)])) := ex.trans (.upd_new ht)
      have hL2 : upd H1 t (.tup [.str nm, .int (k : Int)]) D = some (dIS lab) := by rw [upd_ne tD.symm]; exact hL
      refine ⟨t, _, rfl, SqT.of upd_same, rfl, _, _, rfl, _, _, rfl, rfl, rfl, ?_⟩
      have ex2 : Ex [D] (upd H n (.frz od (dSI nl))) (upd H1 t (.tup [kV (kS nm), .int (k : Int)])) := ex2
      have hL2 : upd H1 t (.tup [kV (kS nm), .int (k : Int)]) D = some (dIS lab) := hL2
      generalize upd H1 t (.tup [kV (kS nm), .int (k : Int)]) = H2 at ex2 hL2
      have hg2 : H2 g = some (.lst (gas.map V.ref)) := ex2 g _ (by rw [upd_ne hgn]; exact hg.at_) (notin g _ hg.at_)
      have hgt2 : H2 gt = some (.tup (ids.map V.int)) := ex2 gt _ (by rw [upd_ne hgtn]; exact hgtH) (notin gt _ hgtH)
      refine ⟨.ref g, rfl, _, rfl, g, _, _, .ref gt, rfl, rfl, SqL.of hg2, atI_nat (by rw [List.getElem?_map, hgt]; rfl), gt, rfl, ⟨_, SqT.of hgt2⟩, ?_⟩
      refine in_it (walk_tup (K := K) (a := gt) (xs := ids.map V.int)) (fun j H' => Ex [D] (upd H n (.frz od (dSI nl))) H' ∧ ∃ lab' : List (Int × Str), H' D = some (dIS lab') ∧ (keys lab').Nodup ∧ (∀ x nm, look lab' x = some nm → ∃ (k : Nat) (ids : List Int), (nm, (k : Int)) ∈ nl.take (i + 1) ∧ Gs[k]? = some ids ∧ x ∈ ids) ∧
        (∀ x, x ∈ keys lab → x ∈ keys lab') ∧ ∀ x ∈ ids.take j, x ∈ keys lab') ⟨ex2, lab, hL2, nL, fun x nm' h => ?_, fun x h => h, by simp⟩ ?_ ?_ ?_
      · obtain ⟨k', ids', h1, h2⟩ := l1 x nm' h
        exact ⟨k', ids', (mem_take_succ hT).mpr (.inl h1), h2⟩
      · rintro j H' hj ⟨ex3, _⟩
        exact SqT.of (ex3 gt _ (by rw [upd_ne hgtn]; exact hgtH) (notin gt _ hgtH))
      · rintro j y H3 H4 hj ⟨ex3, lab3, hL3, nL3, m1, m2, m3⟩ ⟨rfl, hy⟩
        obtain ⟨id, hid, rfl⟩ : ∃ id, ids[j]? = some id ∧ y = V.int id := by
          rw [List.getElem?_map] at hy
          obtain ⟨n, h1, h2⟩ := Option.map_eq_some_iff.mp hy
          exact ⟨n, h1, h2.symm⟩
        have l60 : lab3.length < 60 := by
          have h1 := nodup_len (L := (flat Gs).map Prod.fst) nL3 (fun x hx => by
            obtain ⟨nm', hnm'⟩ := look_some_of_key hx
            obtain ⟨k', ids', _, h2, h3⟩ := m1 x nm' hnm'
            exact List.mem_map.mpr ⟨_, mem_flat h2 h3, rfl⟩)
          simp [keys] at h1
          omega
        refine ⟨rfl, _, rfl, _, rfl, _, put_I (v := nm) hL3 nL3 (size1000 (by omega)) rfl, ex3.trans (.upd_in (by simp)), _, upd_same, nodup_put nL3, fun x nm' h => ?_, fun x h => mem_keys_put.mpr (.inr (m2 x h)), fun x hx => ?_⟩
        · rw [look_put] at h
          by_cases e : x = id
          · rw [if_pos e] at h
            cases h
            exact ⟨k, ids, (mem_take_succ hT).mpr (.inr rfl), hids, by rw [e]; exact List.mem_of_getElem? hid⟩
          · rw [if_neg e] at h
            exact m1 x nm' h
        · rcases (mem_take_succ hid).mp hx with h | h
          · exact mem_keys_put.mpr (.inr (m3 x h))
          · exact mem_keys_put.mpr (.inl h)
      · rintro H3 ⟨ex3, lab3, hL3, nL3, m1, m2, m3⟩
        refine ⟨ex3, lab3, hL3, nL3, m1, fun nm' k' ids' x h1 h2 h3 => ?_⟩
        rcases (mem_take_succ hT).mp h1 with h | h
        · exact m2 x (l2 nm' k' ids' x h h2 h3)
        · have e : k' = k := by
            have := (Prod.mk.inj h).2
            omega
          subst e
          rw [hids] at h2
          cases h2
          refine m3 x ?_
          rw [List.length_map, List.take_of_length_le (Nat.le_refl _)]
          exact h3
    · rintro H1 ⟨ex, lab, hL, nL, l1, l2⟩
      rw [emb_length, List.take_of_length_le (Nat.le_refl _)] at l1 l2
      refine ⟨ex n _ upd_same (notin n _ hn.at_), ?_⟩
      exact q D _ lab (Ex.drop (Ex.unlock hn.at_ ex) hDH) hDH (by rw [upd_ne hDn]; exact hL) nL l1 l2
def spRI : Sp := fun vs H Q _ => ∃ (a g n : Addr) (lab : List (Int × Str)) (gas : List Addr) (Gs : List (List Int)) (ps : List (Str × Int)), vs = [.ref a, .ref g, .ref n] ∧ H a = some (dIS lab) ∧ GrpAt H g gas Gs ∧ PairsAt H n ps ∧ (flat Gs).length < 60 ∧
  ∀ (D : Addr) (H' : Hp) (ids : List Int), Ex [] H H' → H D = none → H' D = some (.lst (ids.map V.int)) → ids.Perm (((flat Gs).filter (ren lab ps)).map Prod.fst) → Q (.ref D) H'
theorem scRI : FnScope ["labels", "groups", "names", "found", "place", "group", "row_id"] ["labels", "groups", "names"] (defScope sRI) := ⟨rfl, rfl, rfl, by decide +kernel, rfl, by decide +kernel, by decide +kernel⟩
theorem ok_RI {f : Addr} {fd : FuncData} (F : Fun K "renamed_ids" "renamed_ids" sRI f fd) (me : mg "enumerate" = none) (ms : mg "sorted" = none) : FnOk P w K mg base CX0 1 f fd ["labels", "groups", "names"] spRI := by
  refine F.ok scRI (fun vs H Q E h => ?_) (fun cdv A outer s H vs Q E hr h => ?_)
  · obtain ⟨a, g, n, lab, gas, Gs, ps, rfl, _⟩ := h
    rfl
  · obtain ⟨a, g, n, lab, gas, Gs, ps, rfl, ha, hg, hn, hlen, q⟩ := h
    have hu := hu_of hr
    have nd := scRI.nd
    refine ⟨_, pss_cons (ps_set (i := 3) nd rfl (.inl rfl) (pe_lst pa_nil))
      (pss_cons (ps_for PassesOwn.never rfl (pi_enum (by rfl) me (pa_cons (pv 1) pa_nil)) (pg_tup rfl (pgs_cons (pg_name (i := 4) nd rfl (.inr rfl)) (pgs_cons (pg_name (i := 5) nd rfl (.inl rfl)) pgs_nil)))
        (pss_one (ps_expr (pe_bm PySem.F.plainAttrs_list PySem.F.slot_list_extend PySem.F.type_list_extend mt_extend (pv 3) (pa_cons
          (pe_lc (own := [("row_id", 6)]) (g := gName 6) (te := tVar 6) rfl nd (pi_tup (pv 5)) (blkOk_by (N := ["labels", "groups", "names", "found", "place", "group", "row_id"]) (sc := defScope sRI) (by decide +kernel))
            (fun _ _ _ _ _ => pg_name (i := 6) nd rfl (.inl rfl) (.inr rfl))
            (fun _ _ _ _ _ => pts_one (PW.pt (pw_and (pt_cmp (pc_din hu (pv 6) (pv 0))) (pw_and1 (pt_cmpR op_ne (pe_dget1 hu (pv 2) (pe_dget hu (pv 0) (pv 6) (fun _ _ => rfl)) ⟨rfl, rfl, rfl, rfl⟩) (pv 4) (nomark _))))))
            (fun _ _ _ _ _ => pv 6)) pa_nil)))))
      (pss_one (ps_ret (pe_callB cr_sorted (by rfl) ms PyProof.Rows.boot_sorted (pa_cons (pv 3) pa_nil))))), ?_⟩
    refine ⟨by show 0 ≤ sizeLine; decide, fun D hD => ?_⟩
    have notin : ∀ x u, H x = some u → x ∉ [D] := fun x u hx z => by
      rw [List.mem_singleton.mp z, hD] at hx; cases hx
    refine ⟨_, rfl, g, _, rfl, SqL.of (by rw [upd_ne (ne_of_none hg.at_ hD)]; exact hg.at_), ?_⟩
    have flen : ∀ F : List (Int × Int), ((F.filter (ren lab ps)).map Prod.fst).length ≤ F.length := fun F => by rw [List.length_map]; exact List.length_filter_le _ _
    refine for_it (walk_enum (K := K) (a := g) (xs := gas.map V.ref)) (fun i σ H' => ∃ (v4 v5 v6 : Option V), σ = [some (.ref a), some (.ref g), some (.ref n), some (.ref D), v4, v5, v6] ∧ Ex [D] H H' ∧ H' D = some (.lst ((((flat (Gs.take i)).filter (ren lab ps)).map Prod.fst).map V.int))) ⟨_, _, _, rfl, .upd_in (by simp), upd_same⟩ ?_ ?_ ?_
    · rintro i σ H' hi ⟨v4, v5, v6, rfl, ex, _⟩
      exact SqL.of (ex g _ hg.at_ (notin g _ hg.at_))
    · rintro i x σ H1 H2 hi ⟨v4, v5, v6, rfl, ex, hD1⟩ ⟨t, kx, vx, rfl, ht, rfl, hk, hv⟩
      cases hk
      obtain ⟨gt, hgt, rfl⟩ : ∃ gt, gas[i]? = some gt ∧ vx = V.ref gt := by
        have hv : (gas.map V.ref)[i]? = some vx := hv
        rw [List.getElem?_map] at hv
        obtain ⟨n, h1, h2⟩ := Option.map_eq_some_iff.mp hv
        exact ⟨n, h1, h2.symm⟩
      obtain ⟨ids, hids, hgtH⟩ := hg.get hgt
      refine ⟨t, _, rfl, SqT.of upd_same, rfl, _, _, rfl, _, _, rfl, rfl, ?_⟩
      have tD : t ≠ D := (ne_of_none hD1 ht).symm
      have ex2 : Ex [D] H (upd H1 t (.tup [.int (i : Nat), .ref gt])) := ex.trans (.upd_new ht)
      have hD2 : upd H1 t (.tup [.int (i : Nat), .ref gt]) D = some (.lst ((((flat (Gs.take i)).filter (ren lab ps)).map Prod.fst).map V.int)) := by rw [upd_ne tD.symm]; exact hD1
      generalize upd H1 t (.tup [.int (i : Nat), .ref gt]) = H2 at ex2 hD2
      have hgt2 : H2 gt = some (.tup (ids.map V.int)) := ex2 gt _ hgtH (notin gt _ hgtH)
      have hlen2 : (flat (Gs.take i)).length + ids.length < 60 := by
        have h1 := flat_take_len (Gs := Gs) (i + 1)
        rw [flat_succ hids] at h1
        simp at h1
        omega
      refine ⟨.ref D, rfl, .inl ⟨rfl, _, SqL.of hD2⟩, ?_⟩
      refine ⟨.ref gt, rfl, gt, rfl, ⟨_, SqT.of hgt2⟩, fun L hL => ?_⟩
      have hLD : L ≠ D := (ne_of_none hD2 hL).symm
      have hLH : H L = none := ex2.free hL (by simpa using hLD)
      refine lc_it (walk_tup (K := K) (a := gt) (xs := ids.map V.int)) (fun j H' => Ex [L] H2 H' ∧ H' L = some (.lst (((((ids.take j).map fun x => (x, (i : Int))).filter (ren lab ps)).map Prod.fst).map V.int))) ⟨.upd_in (by simp), upd_same⟩ ?_ ?_ ?_
      · rintro j H' hj ⟨ex3, _⟩
        exact SqT.of (ex3 gt _ hgt2 (by simpa using (ne_of_none hgt2 hL)))
      · rintro j y H3 H4 hj ⟨ex3, hL3⟩ ⟨rfl, hy⟩
        obtain ⟨id, hid, rfl⟩ : ∃ id, ids[j]? = some id ∧ y = V.int id := by
          rw [List.getElem?_map] at hy
          obtain ⟨n, h1, h2⟩ := Option.map_eq_some_iff.mp hy
          exact ⟨n, h1, h2.symm⟩
        have k2 : ∀ x u, H x = some u → H4 x = some u := fun x u hx => ex3 x _ (ex2 x _ hx (notin x _ hx)) (by simpa using (ne_of_none hx hLH))
        have hid' : j < ids.length := (List.getElem?_eq_some_iff.mp hid).1
        have no : ren lab ps (id, (i : Int)) = false → ((((ids.take (j + 1)).map fun x => (x, (i : Int))).filter (ren lab ps)).map Prod.fst) = ((((ids.take j).map fun x => (x, (i : Int))).filter (ren lab ps)).map Prod.fst) := fun h => by
          rw [List.take_add_one, hid]
          simp [h]
        have yes : ren lab ps (id, (i : Int)) = true → ((((ids.take (j + 1)).map fun x => (x, (i : Int))).filter (ren lab ps)).map Prod.fst) = ((((ids.take j).map fun x => (x, (i : Int))).filter (ren lab ps)).map Prod.fst) ++ [id] := fun h => by
          rw [List.take_add_one, hid]
          simp [h]
        refine ⟨rfl, _, rfl, .ref a, rfl, a, _, rfl, get_I (.inl (k2 a _ ha)) rfl, _, rfl, ?_⟩
        cases hl : look lab id with
        | none =>
          refine goF rfl (goF rfl ⟨ex3, ?_⟩)
          rw [hL3, no (by unfold ren; rw [hl])]
        | some nm =>
          refine goT rfl ?_
          have hn4 := k2 n _ hn.at_
          refine ⟨.ref n, rfl, n, rfl, .inl ⟨_, .inl hn4⟩, .ref a, rfl, _, rfl, a, .str nm, rfl, get_I (.inl (k2 a _ ha)) (by rw [hl]; rfl), _, get_S (.inl hn4) rfl, _, rfl, by cases look ps nm <;> rfl, _, rfl, ?_⟩
          by_cases e : look ps nm = some (i : Int)
          · refine goF (by rw [e]; simp) ⟨ex3, ?_⟩
            rw [hL3, no (by unfold ren; rw [hl]; simp [e])]
          · refine goT (by
              cases e2 : look ps nm with
              | none => simp
              | some c2 =>
                rw [e2] at e
                have : c2 ≠ (i : Int) := fun q => e (by rw [q])
                simpa using this) ?_
            refine ⟨_, rfl, _, hL3, small1000 (by
              have := flen ((ids.take j).map fun x => (x, (i : Int)))
              simp at this ⊢
              omega), ex3.trans (.upd_in (by simp)), ?_⟩
            rw [upd_same, yes (by unfold ren; rw [hl]; simp [e])]
            simp
      · rintro H3 ⟨ex3, hL3⟩
        have hD3 := ex3 D _ hD2 (by simpa using hLD.symm)
        rw [List.length_map, List.take_of_length_le (Nat.le_refl _)] at hL3
        have e3 : (((flat (Gs.take (i + 1))).filter (ren lab ps)).map Prod.fst) = (((flat (Gs.take i)).filter (ren lab ps)).map Prod.fst) ++ (((ids.map fun x => (x, (i : Int))).filter (ren lab ps)).map Prod.fst) := by
          rw [flat_succ hids]
          simp
        refine ⟨D, L, _, _, rfl, rfl, hD3, hL3, ?_, _, _, _, rfl, (ex2.trans (ex3.drop hL |>.mono (by simp))).trans (.upd_in (by simp)), ?_⟩
        · have h1 := flen (flat (Gs.take i))
          have h2 := flen (ids.map fun x => (x, (i : Int)))
          rw [List.length_map, List.length_map (f := V.int)]
          refine size1000 ?_
          rw [List.length_map (f := fun x => (x, (i : Int)))] at h2
          omega
        · rw [upd_same, e3, List.map_append]
    · rintro σ H1 ⟨v4, v5, v6, rfl, ex, hD1⟩
      have e1 : Gs.take (gas.map V.ref).length = Gs := List.take_of_length_le (by rw [List.length_map, hg.len]; exact Nat.le_refl _)
      rw [e1] at hD1
      refine ⟨.ref D, rfl, D, _, rfl, SqL.of hD1, by have := flen (flat Gs); omega, fun ids p hp _ hn => ?_⟩
      refine q p _ ids (((ex.trans (.upd_new hn))).drop hD) (ex.free hn ?_) upd_same hp
      simpa using (ne_of_none hD1 hn).symm
end
end KN

namespace KN
open PySem L2 PySem.Spec
open PyProof.Rows hiding St
theorem dp_strs {K : PySem.W.Frag} {H : Hp} : ∀ xs : List Str, DpAll K H (xs.map V.str) (xs.map PyData.str)
  | [] => .nil
  | _ :: r => .cons (.str _) (dp_strs r)
theorem sh_strs0 : ∀ ns : List Str, (∀ n ∈ ns, PyData.strOk n = true) → PyData.canLayAll0 (ns.map PyData.str) = true
  | [], _ => rfl
  | x :: r, h => by
    have h1 := h x List.mem_cons_self
    have h2 := sh_strs0 r fun n hn => h n (List.mem_cons_of_mem _ hn)
    simp [PyData.canLayAll0, PyData.canLay0, h1, h2]
theorem sh_strs1 : ∀ ns : List Str, PyData.depthAll (ns.map PyData.str) = 0
  | [] => rfl
  | _ :: r => by simp [PyData.depthAll, PyData.depth, sh_strs1 r]
theorem sh_strs (ns : List Str) (h : ∀ n ∈ ns, PyData.strOk n = true) : SeqAt.shaped (.list (ns.map PyData.str)) = true := by
  simp [SeqAt.shaped, PyData.canLay0, PyData.depth, sh_strs0 ns h, sh_strs1]
theorem eq_strs0 : ∀ ns : List Str, PyData.eqvAll (ns.map PyData.str) (ns.map PyData.str) = true
  | [] => by simp [PyData.eqvAll]
  | _ :: r => by simp [PyData.eqvAll, PyData.eqv, eq_strs0 r]
theorem eq_strs (ns : List Str) : PyData.eqv (.list (ns.map PyData.str)) (.list (ns.map PyData.str)) = true := by
  rw [PyData.eqv]
  exact eq_strs0 ns
theorem strm_ne {d e : Int} {gas : List Addr} : strm d e ≠ .lst (gas.map V.ref) := by
  intro z
  injection z with z
  cases gas with
  | nil => cases z
  | cons x r =>
    injection z with z _
    cases z
theorem perm_of_mem {l l' : List Str} (h1 : l.Nodup) (h2 : l'.Nodup) (h : ∀ x, x ∈ l ↔ x ∈ l') : l.Perm l' := (List.perm_ext_iff_of_nodup h1 h2).mpr h
section
variable {P : Program} {w : World} {K : PySem.W.Frag} {mg : Str → Option Value} {base : Heap}
def spWR : Sp := fun vs H Q _ => ∃ (st a g b : Addr) (d e : Int) (lab : List (Int × Str)) (gas : List Addr) (Gs : List (List Int)) (ws : List (Int × Int)), vs = [.ref st, .ref a, .ref g, .ref b] ∧ H st = some (strm d e) ∧ 0 ≤ d ∧ 0 ≤ e ∧ e < 2 ^ 40 ∧ H a = some (dIS lab) ∧ GrpAt H g gas Gs ∧ H b = some (dII ws) ∧
  (keys ws).Nodup ∧ ws.length < 60 ∧ (∀ i : Int, 1 ≤ i → i ≤ 9 → i ∈ keys ws) ∧ (∀ x ∈ flat Gs, x.1 ∈ keys ws) ∧ (keys (flat Gs)).Nodup ∧ (flat Gs).length ≤ 9 ∧ (∀ x n, look lab x = some n → PyData.strOk n = true) ∧ ∀ H', Ex [st] H H' → Q (.bl true) H'
theorem scWR : FnScope ["_law_stream_here", "_law_labels", "_law_groups", "_law_weights", "_law_table", "_law_other", "_law_row_id", "_law_amount", "_law_changed", "_law_one", "_law_two", "_law_name"] ["_law_stream_here", "_law_labels", "_law_groups", "_law_weights"] (defScope sWR) := ⟨rfl, rfl, rfl, by decide +kernel, rfl, by decide +kernel, by decide +kernel⟩
theorem ok_WR {f fL fD fG fN : Addr} {fd fdL fdD fdG fdN : FuncData} (F : Fun K "_law_worths_right" "_law_worths_right" sWR f fd)
    (FL : Fun K "label_table" "label_table" sLT fL fdL) (bL : Binds K fdL ["labels", "groups", "weights"] []) (gL : mg "label_table" = some (.ref fL)) (me : mg "enumerate" = none)
    (FD : Fun K "_law_draw" "_law_draw" sDR fD fdD) (bD : Binds K fdD ["_law_stream_here", "_law_size"] []) (gD : mg "_law_draw" = some (.ref fD))
    (GG : FnOk P w K mg base CX0 3 fG fdG ["table"] spGV) (kG : PySem.W.keepIn K (.ref fG) = true) (bG : Binds K fdG ["table"] []) (gG : mg "greatest_value" = some (.ref fG))
    (GN : FnOk P w K mg base CX0 4 fN fdN ["table"] spNW) (kN : PySem.W.keepIn K (.ref fN) = true) (bN : Binds K fdN ["table"] []) (gN : mg "name_worths" = some (.ref fN))
    (md : mg "dict" = none) (ma : mg "abs" = none) (ms : mg "sorted" = none) :
    FnOk P w K mg base CX0 5 f fd ["_law_stream_here", "_law_labels", "_law_groups", "_law_weights"] spWR := by
  have GL : FnOk P w K mg base CX0 1 fL fdL ["labels", "groups", "weights"] spLT := ok_LT FL me
  have GD : FnOk P w K mg base CX0 1 fD fdD ["_law_stream_here", "_law_size"] spDR := ok_DR FD
  refine F.ok scWR (fun vs H Q E h => ?_) (fun cdv A outer s H vs Q E hr h => ?_)
  · obtain ⟨st, a, g, b, d, e, lab, gas, Gs, ws, rfl, _⟩ := h
    rfl
  · obtain ⟨st, a, g, b, d, e, lab, gas, Gs, ws, rfl, hst, d0, e0, e1, ha, hg, hb, nws, lws, h19, hfl, nfl, lfl, hok, q⟩ := h
    have hu := hu_of hr
    have nd := scWR.nd
    have h1 : Room 1 (A.deeper (envOfC "_law_worths_right" (defScope sWR) s.heap.objs.size f cdv)) := hr.mono (by decide)
    refine ⟨_, pss_cons (ps_set (i := 4) nd rfl (.inl rfl) (pe_call GL (hr.mono (by decide)) (by rfl) gL FL.kp bL .nil pass0 (pa_cons (pv 1) (pa_cons (pv 2) (pa_cons (pv 3) pa_nil)))))
      (pss_cons (ps_set (i := 5) nd rfl (.inl rfl) (pe_callTy call_dictD (by rfl) md PyProof.Rows.boot_dict (pa_cons (pv 3) pa_nil)))
      (pss_cons (ps_set (i := 6) nd rfl (.inl rfl) (pe_op op_add pe_int (pe_call GD (hr.mono (by decide)) (by rfl) gD FD.kp bD .nil pass0 (pa_cons (pv 0) (pa_cons pe_int pa_nil)))))
      (pss_cons (ps_dput hu (pv 5) (pv 6) (pe_op op_add pe_int (pe_call GD (hr.mono (by decide)) (by rfl) gD FD.kp bD .nil pass0 (pa_cons (pv 0) (pa_cons pe_int pa_nil)))) rfl)
      (pss_cons (ps_set (i := 7) nd rfl (.inr rfl) (pe_callB call_abs (by rfl) ma PyProof.Rows.boot_abs (pa_cons (pe_op op_sub (pe_dget hu (pv 5) (pv 6) (fun _ _ => rfl)) (pe_dget hu (pv 3) (pv 6) (fun _ _ => rfl))) pa_nil)))
      (pss_cons (ps_set (i := 8) nd rfl (.inl rfl) (pe_call GL (hr.mono (by decide)) (by rfl) gL FL.kp bL .nil pass0 (pa_cons (pv 1) (pa_cons (pv 2) (pa_cons (pv 5) pa_nil)))))
      (pss_cons (ps_if (pt_cmpR op_gt (pe_callB call_abs (by rfl) ma PyProof.Rows.boot_abs (pa_cons (pe_op op_sub (pe_call GG (hr.mono (by decide)) (by rfl) gG kG bG .nil pass0 (pa_cons (pv 8) pa_nil)) (pe_call GG (hr.mono (by decide)) (by rfl) gG kG bG .nil pass0 (pa_cons (pv 4) pa_nil))) pa_nil)) (pv 7) (nomark _)) pss_never pss_nil)
      (pss_cons (ps_asg (pe_tup (pa_cons (pe_call GN hr (by rfl) gN kN bN .nil pass0 (pa_cons (pv 4) pa_nil)) (pa_cons (pe_call GN hr (by rfl) gN kN bN .nil pass0 (pa_cons (pv 8) pa_nil)) pa_nil))) (pg_tup rfl (pgs_cons (pg_name (i := 9) nd rfl (.inr rfl)) (pgs_cons (pg_name (i := 10) nd rfl (.inr rfl)) pgs_nil))))
      (pss_cons (ps_if (pt_cmpR (op_neD hr.units) (pe_callB (call_sortedD rfl) (by rfl) ms PyProof.Rows.boot_sorted (pa_cons (pv 9) pa_nil)) (pe_callB (call_sortedD rfl) (by rfl) ms PyProof.Rows.boot_sorted (pa_cons (pv 10) pa_nil)) (nomark _)) pss_never pss_nil)
      (pss_one (ps_ret (pe_lock (pe_cmpR (op_eqD hr.units)
        (pe_lc (own := [("_law_name", 11)]) (g := gName 11) (te := tVar 11) rfl nd (pi_keys (pv 9)) (blkOk_by (N := ["_law_stream_here", "_law_labels", "_law_groups", "_law_weights", "_law_table", "_law_other", "_law_row_id", "_law_amount", "_law_changed", "_law_one", "_law_two", "_law_name"]) (sc := defScope sWR) (by decide +kernel))
          (fun _ _ _ _ _ => pg_name (i := 11) nd rfl (.inl rfl) (.inr rfl))
          (fun _ _ _ _ _ => pts_one (pt_cmpR op_gt (pe_callB (r := fun xs H Q => ∃ i, xs = [.int i] ∧ Q (.int (if i < 0 then -i else i)) H) call_abs (by rfl) ma PyProof.Rows.boot_abs (pa_cons (pe_op op_sub (pe_dget hu (pv 9) (pv 11) (fun _ _ => rfl)) (pe_dget hu (pv 10) (pv 11) (fun _ _ => rfl))) pa_nil)) (pv 7) (nomark _)))
          (fun _ _ _ _ _ => pv 11))
        (pe_lst pa_nil) (nomark _))))))))))))), ?_⟩
    have nSA : a ≠ st := ne_of ha hst (by intro z; cases z)
    have nSB : b ≠ st := ne_of hb hst (by intro z; cases z)
    have nSG : g ≠ st := ne_of hg.at_ hst (fun z => strm_ne z.symm)
    have nST : ∀ t ∈ gas, t ≠ st := fun t ht z => by
      obtain ⟨i, hi⟩ := List.mem_iff_getElem?.mp ht
      obtain ⟨ids, _, h2⟩ := hg.get hi
      rw [z, hst] at h2
      cases h2
    -- table
    refine ⟨.ref a, rfl, .ref g, rfl, .ref b, rfl, a, g, b, lab, gas, Gs, ws, rfl, ha, hg, hb, hfl, by omega, fun TA H1 x1 hTA t1 => ?_⟩
    have x1' : Ex [st] H H1 := x1.mono (by simp)
    -- other
    refine ⟨.ref b, rfl, b, _, rfl, .inl (x1 b _ hb (by simp)), fun O hO => ?_⟩
    have x2 : Ex [st] H (upd H1 O (dII ws)) := x1'.trans (.upd_new hO)
    have t2 : TabAt (upd H1 O (dII ws)) TA (labF lab ws (flat Gs)) := t1.ex (l := []) (.upd_new hO) (by simp)
    have hO2 : upd H1 O (dII ws) O = some (dII ws) := upd_same
    have hst2 : upd H1 O (dII ws) st = some (strm d e) := (Ex.trans x1 (.upd_new hO) : Ex [] H (upd H1 O (dII ws))) st _ hst (by simp)
    generalize upd H1 O (dII ws) = H2 at x2 t2 hO2 hst2
    -- the id
    refine ⟨.ref st, rfl, st, 9, d, e, rfl, hst2, d0, e0, e1, by decide, by decide, fun d' e' r hd' he' he2 hr0 hr1 => ?_⟩
    refine ⟨_, _, rfl, rfl, ?_⟩
    have hid : (1 + r) ∈ keys ws := h19 (1 + r) (by omega) (by omega)
    have hOS : O ≠ st := ne_of hO2 hst2 (by intro z; cases z)
    have hTS : TA ≠ st := ne_of t2.at_ hst2 (by intro z; cases z)
    -- its new weight
    refine ⟨.ref st, rfl, st, 12, d', e', rfl, upd_same, hd', he', he2, by decide, by decide, fun d2 e2 r2 hd2 he2 he3 hr2 hr3 => ?_⟩
    rw [upd_upd]
    have x3 : Ex [st] H (upd H2 st (strm d2 e2)) := x2.trans (.upd_in (by simp))
    have t3 : TabAt (upd H2 st (strm d2 e2)) TA (labF lab ws (flat Gs)) := t2.ex (l := [st]) (.upd_in (by simp)) (by simpa using hTS)
    have hO3 : upd H2 st (strm d2 e2) O = some (dII ws) := by rw [upd_ne hOS]; exact hO2
    generalize upd H2 st (strm d2 e2) = H3 at x3 t3 hO3
    refine ⟨_, _, rfl, rfl, .ref O, rfl, _, rfl, O, _, rfl, put_I (v := 1 + r2) hO3 nws (size1000 (by omega)) rfl, ?_⟩
    have hOH : H O = none := x1.free hO (by simp)
    have hOT : O ≠ TA := ne_of hO3 t3.at_ (by intro z; cases z)
    have x4 : Ex [st] H (upd H3 O (dII (put ws (1 + r) (1 + r2)))) := x3.put_new hOH
    have t4 : TabAt (upd H3 O (dII (put ws (1 + r) (1 + r2)))) TA (labF lab ws (flat Gs)) := t3.ex (l := [O]) (.upd_in (by simp)) (by simpa using hOT.symm)
    have hO4 : upd H3 O (dII (put ws (1 + r) (1 + r2))) O = some (dII (put ws (1 + r) (1 + r2))) := upd_same
    generalize upd H3 O (dII (put ws (1 + r) (1 + r2))) = H4 at x4 t4 hO4
    have hb4 : H4 b = some (dII ws) := x4 b _ hb (by simpa using nSB)
    -- the amount
    refine ⟨.ref O, rfl, _, rfl, O, .int (1 + r2), rfl, get_I (.inl hO4) (by rw [look_put, if_pos rfl]; rfl), .ref b, rfl, _, rfl, b, .int (at0 ws (1 + r)), rfl, get_I (.inl hb4) (by rw [look_key hid]; rfl), _, _, rfl, rfl, _, rfl, ?_⟩
    -- changed
    refine ⟨.ref a, rfl, .ref g, rfl, .ref O, rfl, a, g, O, lab, gas, Gs, put ws (1 + r) (1 + r2), rfl, x4 a _ ha (by simpa using nSA), hg.ex x4 (by simpa using nSG) (fun t ht => by simpa using nST t ht), hO4, fun x hx => mem_keys_put.mpr (.inr (hfl x hx)), by omega, fun TB H5 x5 hTB t5 => ?_⟩
    have t5A : TabAt H5 TA (labF lab ws (flat Gs)) := t4.ex x5 (by simp)
    -- the greatest values
    obtain ⟨R1, C1, nR1, nC1, S1, _, _⟩ := sides (labF lab ws (flat Gs))
    obtain ⟨R2, C2, nR2, nC2, S2, _, _⟩ := sides (labF lab (put ws (1 + r) (1 + r2)) (flat Gs))
    refine ⟨.ref TB, rfl, TB, _, rfl, t5, fun H6 v2 x6 hv2 => ?_⟩
    refine ⟨.ref TA, rfl, TA, _, rfl, t5A.ex x6 (by simp), fun H7 v1 x7 hv1 => ?_⟩
    have close : ∀ n u u', IsMax (less (wT (labF lab ws (flat Gs))) n) u → IsMax (less (wT (labF lab (put ws (1 + r) (1 + r2)) (flat Gs))) n) u' → iabs (v2 - v1) ≤ iabs (1 + r2 - at0 ws (1 + r)) ∧ iabs ((v1 - u) - (v2 - u')) ≤ iabs (1 + r2 - at0 ws (1 + r)) := fun n u u' hu hu' => worths_put nfl hv1 hv2 hu hu'
    have c1 : iabs (v2 - v1) ≤ iabs (1 + r2 - at0 ws (1 + r)) := by
      obtain ⟨u, hu⟩ := max_there (less_supp S1 ⟨#[]⟩) nR1 nC1
      obtain ⟨u', hu'⟩ := max_there (less_supp S2 ⟨#[]⟩) nR2 nC2
      exact (close _ u u' hu hu').1
    refine ⟨_, _, rfl, rfl, _, rfl, _, rfl, _, _, rfl, rfl, _, rfl, goF (by
      refine decide_eq_false ?_
      show ¬ (iabs (1 + r2 - at0 ws (1 + r)) < iabs (v2 - v1))
      omega) ?_⟩
    have t7A : TabAt H7 TA (labF lab ws (flat Gs)) := (t5A.ex x6 (by simp)).ex x7 (by simp)
    have t7B : TabAt H7 TB (labF lab (put ws (1 + r) (1 + r2)) (flat Gs)) := (t5.ex x6 (by simp)).ex x7 (by simp)
    have l9 : ∀ ws', (labF lab ws' (flat Gs)).length ≤ 9 := fun ws' => Nat.le_trans labF_len lfl
    refine ⟨.ref TA, rfl, TA, _, rfl, t7A, l9 _, fun A1 H8 f1 x8 hA1 hf1 nf1 kf1 lf1 w1 => ?_⟩
    refine ⟨.ref TB, rfl, TB, _, rfl, t7B.ex x8 (by simp), l9 _, fun A2 H9 f2 x9 hA2 hf2 nf2 kf2 lf2 w2 => ?_⟩
    refine ⟨le2, fun t ht => ?_⟩
    refine ⟨t, _, rfl, SqT.of upd_same, rfl, _, _, rfl, _, _, rfl, rfl, ?_⟩
    have xx : Ex [st] H (upd H9 t (.tup [.ref A1, .ref A2])) := x4.trans ((((((x5.trans x6).trans x7).trans x8).trans x9).mono (by simp)).trans (.upd_new ht))
    have hA1t : upd H9 t (.tup [.ref A1, .ref A2]) A1 = some (dSI f1) := by
      have h := x9 A1 _ hf1 (by simp)
      rw [upd_ne (ne_of_none h ht)]
      exact h
    have hA2t : upd H9 t (.tup [.ref A1, .ref A2]) A2 = some (dSI f2) := by
      rw [upd_ne (ne_of_none hf2 ht)]
      exact hf2
    generalize upd H9 t (.tup [.ref A1, .ref A2]) = Hx at hA1t hA2t xx
    have f1l : (keys f1).length < 64 := by
      have := l9 ws
      simp [keys]; omega
    have f2l : (keys f2).length < 64 := by
      have := l9 (put ws (1 + r) (1 + r2))
      simp [keys]; omega
    have samek : ∀ z, z ∈ keys f1 ↔ z ∈ keys f2 := fun z => by
      rw [kf1, kf2]
      constructor
      · rintro ⟨c, hc⟩
        obtain ⟨x, hx⟩ := look_some_of_key hc
        obtain ⟨y, hy⟩ := (labF_keys (ws' := put ws (1 + r) (1 + r2)) z c).mp ⟨x, hx⟩
        exact ⟨c, key_of_look hy⟩
      · rintro ⟨c, hc⟩
        obtain ⟨x, hx⟩ := look_some_of_key hc
        obtain ⟨y, hy⟩ := (labF_keys (ws' := ws) z c).mp ⟨x, hx⟩
        exact ⟨c, key_of_look hy⟩
    refine ⟨.ref A1, rfl, A1, _, keys f1, rfl, .inl hA1t, emb_keys, f1l, fun y1 p1 py1 so1 hp1 => ?_⟩
    have hA1y := (Ex.upd_new (l := []) (o := .lst (y1.map V.str)) hp1) A1 _ hA1t (by simp)
    have hA2y := (Ex.upd_new (l := []) (o := .lst (y1.map V.str)) hp1) A2 _ hA2t (by simp)
    have hp1y : upd Hx p1 (.lst (y1.map V.str)) p1 = some (.lst (y1.map V.str)) := upd_same
    have xy : Ex [st] H (upd Hx p1 (.lst (y1.map V.str))) := xx.trans (.upd_new hp1)
    generalize upd Hx p1 (.lst (y1.map V.str)) = Hy at hA1y hA2y hp1y xy
    refine ⟨.ref A2, rfl, A2, _, keys f2, rfl, .inl hA2y, emb_keys, f2l, fun y2 p2 py2 so2 hp2 => ?_⟩
    have ey : y2 = y1 := perm_same (py2.trans ((perm_of_mem nf2 nf1 fun r => (samek r).symm).trans py1.symm)) (sortedS_pw so2) (sortedS_pw so1)
    subst ey
    have oky : ∀ n ∈ y2, PyData.strOk n = true := fun n hn => by
      obtain ⟨c, hc⟩ := (kf1 n).mp (py1.mem_iff.mp hn)
      obtain ⟨x, hx⟩ := look_some_of_key hc
      obtain ⟨e, _, he, _⟩ := labF_some.mp ⟨x, hx⟩
      exact hok _ _ he
    have hA1z := (Ex.upd_new (l := []) (o := .lst (y2.map V.str)) hp2) A1 _ hA1y (by simp)
    have hA2z := (Ex.upd_new (l := []) (o := .lst (y2.map V.str)) hp2) A2 _ hA2y (by simp)
    have hp1z := (Ex.upd_new (l := []) (o := .lst (y2.map V.str)) hp2) p1 _ hp1y (by simp)
    have hp2z : upd Hy p2 (.lst (y2.map V.str)) p2 = some (.lst (y2.map V.str)) := upd_same
    have xz : Ex [st] H (upd Hy p2 (.lst (y2.map V.str))) := xy.trans (.upd_new hp2)
    generalize upd Hy p2 (.lst (y2.map V.str)) = Hz at hA1z hA2z hp1z hp2z xz
    refine ⟨.list (y2.map PyData.str), .list (y2.map PyData.str), .lst (SqL.of hp1z) (dp_strs y2), .lst (SqL.of hp2z) (dp_strs y2), sh_strs y2 oky, sh_strs y2 oky, _, rfl, goF (by rw [eq_strs]; rfl) ?_⟩
    -- the last list
    refine ⟨A1, _, hA1z, mutK, fun od => ?_⟩
    refine ⟨.ref A1, rfl, A1, _, rfl, .inl ⟨_, upd_same, fun D hD => ?_⟩⟩
    have hDA : D ≠ A1 := fun e => by rw [e, upd_same] at hD; cases hD
    have hDz : Hz D = none := by rw [upd_ne hDA] at hD; exact hD
    refine lc_it walk_keys (fun i H' => H' = upd (upd Hz A1 (.frz od (dSI f1))) D (.lst [])) rfl (fun i H' _ e => by rw [e, upd_ne hDA.symm, upd_same]) ?_ ?_
    · rintro i x Ha Hb hi rfl ⟨rfl, k, y, hk, rfl⟩
      obtain ⟨n, x1v, hT, rfl, rfl⟩ := keyK hk
      have hn1 : n ∈ keys f1 := List.mem_map.mpr ⟨_, List.mem_of_getElem? hT, rfl⟩
      have hn2 : n ∈ keys f2 := (samek n).mp hn1
      obtain ⟨u, hu⟩ := max_there (less_supp S1 n) nR1 nC1
      obtain ⟨u', hu'⟩ := max_there (less_supp S2 n) nR2 nC2
      have c2 := (close n u u' hu hu').2
      have ea : at0 f1 n = v1 - u := w1 n hn1 v1 u hv1 hu
      have eb : at0 f2 n = v2 - u' := w2 n hn2 v2 u' hv2 hu'
      rw [← ea, ← eb] at c2
      have rd1 : Rd (upd (upd Hz A1 (.frz od (dSI f1))) D (.lst [])) A1 (dSI f1) := .inr ⟨od, by rw [upd_ne hDA.symm, upd_same]⟩
      have rd2 : Rd (upd (upd Hz A1 (.frz od (dSI f1))) D (.lst [])) A2 (dSI f2) := by
        have r0 : Rd (upd Hz A1 (.frz od (dSI f1))) A2 (dSI f2) := rd_lock (.inl hA2z) hA1z mutK
        exact Ex.rd (l := []) (.upd_new hD) r0 (by simp)
      refine ⟨rfl, .ref A1, rfl, _, rfl, A1, .int (at0 f1 n), rfl, get_S rd1 (by rw [look_key hn1]; rfl), .ref A2, rfl, _, rfl, A2, .int (at0 f2 n), rfl, get_S rd2 (by rw [look_key hn2]; rfl), _, _, rfl, rfl, _, rfl, _, rfl, _, _, rfl, rfl, _, rfl, goF ?_ rfl⟩
      refine decide_eq_false ?_
      show ¬ (iabs (1 + r2 - at0 ws (1 + r)) < iabs (at0 f1 n - at0 f2 n))
      omega
    · rintro Ha rfl
      refine ⟨by show 0 ≤ sizeLine; decide, fun E2 hE2 => ?_⟩
      refine ⟨.list [], .list [], .lst (xs := []) (SqL.of (by rw [upd_ne (fun z => by rw [← z, upd_same] at hE2; cases hE2), upd_same])) .nil, .lst (xs := []) (SqL.of upd_same) .nil, sh_strs [] (by simp), sh_strs [] (by simp), ?_, ?_⟩
      · rw [upd_ne (fun z => by rw [← z, upd_ne hDA.symm, upd_same] at hE2; cases hE2), upd_ne hDA.symm, upd_same]
      · have e : PyData.eqv (.list []) (.list []) = true := eq_strs []
        rw [e]
        refine q _ (xz.trans (Ex.mono (Ex.unlock (l := []) (od := od) hA1z ?_) (by simp)))
        exact (Ex.trans (.upd_new hD) (.upd_new hE2))
end
end KN

namespace KN
open PySem
theorem flat_keys : ∀ (k : Nat) (Gs : List (List Int)), keys (flatF k Gs) = Gs.flatten
  | _, [] => rfl
  | k, g :: r => by
    have ih := flat_keys (k + 1) r
    simp only [keys] at ih
    simp [flatF, keys, ih, List.map_map, Function.comp_def]
theorem uniq {F : List (Int × Int)} (h : (keys F).Nodup) {x p q : Int} (a : (x, p) ∈ F) (b : (x, q) ∈ F) : p = q := by
  have h1 := look_of_mem h a
  rw [look_of_mem h b] at h1
  exact (Option.some.inj h1).symm
theorem set_count : ∀ (L : List (List Int)) (p : Nat) (a b : List Int) (y : Int), L[p]? = some a → (L.set p b).flatten.count y + a.count y = L.flatten.count y + b.count y
  | [], p, a, b, y, h => by simp at h
  | g :: r, 0, a, b, y, h => by
    cases h
    simp only [List.set_cons_zero, List.flatten_cons, List.count_append]
    omega
  | g :: r, p + 1, a, b, y, h => by
    have := set_count r p a b y h
    simp only [List.set_cons_succ, List.flatten_cons, List.count_append]
    omega
structure MvInv (Gs Ls : List (List Int)) (M : List Int) : Prop where
  len : Ls.length = Gs.length
  perm : Ls.flatten.Perm Gs.flatten
  mem : ∀ x ∈ M, x ∈ Gs.flatten
  stay : ∀ (i : Nat) (ids : List Int) (x : Int), Ls[i]? = some ids → x ∈ ids → x ∉ M → ∃ ids0, Gs[i]? = some ids0 ∧ x ∈ ids0
theorem MvInv.start (Gs : List (List Int)) : MvInv Gs Gs [] := ⟨rfl, .refl _, by simp, fun i ids x h hx _ => ⟨ids, h, hx⟩⟩
theorem count_erase : ∀ {ids : List Int} {k : Nat} {x : Int}, ids[k]? = some x → ∀ y, (ids.eraseIdx k).count y + [x].count y = ids.count y
  | [], k, x, h, y => by simp at h
  | a :: r, 0, x, h, y => by
    cases h
    simp only [List.eraseIdx_cons_zero, List.count_cons, List.count_nil]
    omega
  | a :: r, k + 1, x, h, y => by
    have := count_erase (ids := r) (k := k) (x := x) h y
    simp only [List.eraseIdx_cons_succ, List.count_cons, List.count_nil] at this ⊢
    omega
theorem MvInv.step {Gs Ls : List (List Int)} {M : List Int} (v : MvInv Gs Ls M) {p o k : Nat} {ids os : List Int} {x : Int} (hp : Ls[p]? = some ids) (hk : ids[k]? = some x) (ho : (Ls.set p (ids.eraseIdx k))[o]? = some os) :
    MvInv Gs ((Ls.set p (ids.eraseIdx k)).set o (os ++ [x])) (M ++ [x]) := by
  have hx : x ∈ ids := List.mem_of_getElem? hk
  have xin : x ∈ Gs.flatten := v.perm.mem_iff.mp (List.mem_flatten.mpr ⟨ids, List.mem_of_getElem? hp, hx⟩)
  refine ⟨by simp [v.len], ?_, fun y hy => ?_, fun i l y hi hy hn => ?_⟩
  · refine (List.perm_iff_count.mpr fun y => ?_).trans v.perm
    have h1 := set_count _ o os (os ++ [x]) y ho
    have h2 := set_count Ls p ids (ids.eraseIdx k) y hp
    have h3 := count_erase hk y
    rw [List.count_append] at h1
    omega
  · rcases List.mem_append.mp hy with h | h
    · exact v.mem y h
    · rw [List.mem_singleton.mp h]; exact xin
  · have n1 : y ∉ M := fun q => hn (List.mem_append_left _ q)
    have n2 : y ≠ x := fun q => hn (List.mem_append_right _ (by rw [q]; simp))
    -- the list at i ahead of the append
    have base : ∀ l', (Ls.set p (ids.eraseIdx k))[i]? = some l' → y ∈ l' → ∃ ids0, Gs[i]? = some ids0 ∧ y ∈ ids0 := fun l' hl hy' => by
      by_cases e : p = i
      · subst e
        rw [List.getElem?_set_self (List.getElem?_eq_some_iff.mp hp).1] at hl
        cases hl
        exact v.stay p ids y hp (List.mem_of_mem_eraseIdx hy') n1
      · rw [List.getElem?_set_ne e] at hl
        exact v.stay i l' y hl hy' n1
    by_cases e : o = i
    · subst e
      rw [List.getElem?_set_self (List.getElem?_eq_some_iff.mp ho).1] at hi
      cases hi
      rcases List.mem_append.mp hy with h | h
      · exact base os ho h
      · exact absurd (List.mem_singleton.mp h) n2
    · rw [List.getElem?_set_ne e] at hi
      exact base l hi hy
/-- group by group the same ids in some order -/
def Like (A B : List (List Int)) : Prop := A.length = B.length ∧ ∀ (k : Nat) a b, A[k]? = some a → B[k]? = some b → a.Perm b
theorem Like.perm : ∀ {A B : List (List Int)}, Like A B → A.flatten.Perm B.flatten
  | [], [], _ => .refl _
  | [], _ :: _, h => by simp [Like] at h
  | _ :: _, [], h => by simp [Like] at h
  | a :: A, b :: B, h => by
    have h1 := h.2 0 a b rfl rfl
    have h2 : Like A B := ⟨by have := h.1; simpa using this, fun k x y hx hy => h.2 (k + 1) x y hx hy⟩
    simp only [List.flatten_cons]
    exact h1.append h2.perm
theorem Like.get {A B : List (List Int)} (h : Like A B) {k : Nat} {a : List Int} (ha : A[k]? = some a) : ∃ b, B[k]? = some b ∧ a.Perm b := by
  have hk : k < B.length := by
    have := (List.getElem?_eq_some_iff.mp ha).1
    rw [h.1] at this
    exact this
  exact ⟨_, List.getElem?_eq_getElem hk, h.2 k a _ ha (List.getElem?_eq_getElem hk)⟩
abbrev full (Ls : List (List Int)) : List (List Int) := Ls.filter fun l => !l.isEmpty
theorem full_flatten (Ls : List (List Int)) : (full Ls).flatten = Ls.flatten := by
  induction Ls with
  | nil => rfl
  | cons a r ih =>
    cases a with
    | nil => simp [full] at ih ⊢; exact ih
    | cons x l => simp [full] at ih ⊢; exact ih
theorem moved_end {Gs Ls Gn : List (List Int)} {M : List Int} (v : MvInv Gs Ls M) (h : Like Gn (full Ls)) (nG : Gs.flatten.Nodup) :
    (keys (flat Gn)).Nodup ∧ Gn.flatten.Perm Gs.flatten ∧ ∀ e1 ∈ flat Gn, ∀ e2 ∈ flat Gn, e1.1 ∉ M → e2.1 ∉ M → ∀ i j : Int, (e1.1, i) ∈ flat Gs → (e2.1, j) ∈ flat Gs → (e1.2 = e2.2 ↔ i = j) := by
  have pm : Gn.flatten.Perm Gs.flatten := by
    have := h.perm
    rw [full_flatten] at this
    exact this.trans v.perm
  have nF : (keys (flat Gn)).Nodup := by rw [flat_keys]; exact pm.nodup_iff.mpr nG
  have nFG : (keys (flat Gs)).Nodup := by rw [flat_keys]; exact nG
  refine ⟨nF, pm, ?_⟩
  rintro ⟨x, p⟩ hx ⟨y, q⟩ hy nx ny i j hi hj
  have at_ : ∀ {x p : Int}, (x, p) ∈ flat Gn → ∃ (k : Nat) (b : List Int), p = (k : Int) ∧ (full Ls)[k]? = some b ∧ x ∈ b := fun {x p} hx => by
    obtain ⟨k, a, ha, hxa, e⟩ := mem_flatF.mp hx
    obtain ⟨b, hb, pb⟩ := h.get ha
    exact ⟨k, b, by rw [e]; simp, hb, pb.mem_iff.mp hxa⟩
  have was : ∀ {x i : Int} {b : List Int} {l : Nat}, Ls[l]? = some b → x ∈ b → x ∉ M → (x, i) ∈ flat Gs → i = (l : Int) := fun {x i b l} hl hxb nx hi => by
    obtain ⟨ids0, h1, h2⟩ := v.stay l b x hl hxb nx
    exact uniq nFG hi (mem_flatF.mpr ⟨l, ids0, h1, h2, by simp⟩)
  obtain ⟨k1, b1, rfl, hb1, hxb⟩ := at_ hx
  obtain ⟨k2, b2, rfl, hb2, hyb⟩ := at_ hy
  have mem1 : b1 ∈ Ls := (List.mem_filter.mp (List.mem_of_getElem? hb1)).1
  have mem2 : b2 ∈ Ls := (List.mem_filter.mp (List.mem_of_getElem? hb2)).1
  obtain ⟨l1, hl1⟩ := List.mem_iff_getElem?.mp mem1
  obtain ⟨l2, hl2⟩ := List.mem_iff_getElem?.mp mem2
  have ei := was hl1 hxb nx hi
  have ej := was hl2 hyb ny hj
  constructor
  · intro e
    have e : k1 = k2 := by omega
    subst e
    rw [hb1] at hb2
    cases hb2
    exact ei.trans (was hl1 hyb ny hj).symm
  · intro e
    have e2 : l1 = l2 := by omega
    subst e2
    rw [hl1] at hl2
    cases hl2
    -- x stands in the k2-th group, too
    obtain ⟨a2, ha2⟩ : ∃ a, Gn[k2]? = some a := by
      have : k2 < Gn.length := by
        rw [h.1]
        exact (List.getElem?_eq_some_iff.mp hb2).1
      exact ⟨_, List.getElem?_eq_getElem this⟩
    have hxa : x ∈ a2 := (h.2 k2 a2 _ ha2 hb2).mem_iff.mpr hxb
    exact uniq nF hx (mem_flatF.mpr ⟨k2, a2, ha2, hxa, by simp⟩)
end KN

namespace KN
open PySem L2 PySem.Spec
open PyProof.Rows hiding St
structure FndAt (H : Hp) (F : Addr) (fas : List Addr) (Ls : List (List Int)) : Prop where
  at_ : H F = some (.lst (fas.map V.ref))
  len : fas.length = Ls.length
  each : ∀ (i : Nat) t ids, fas[i]? = some t → Ls[i]? = some ids → H t = some (.lst (ids.map V.int))
  nd : fas.Nodup
theorem FndAt.get {H : Hp} {F : Addr} {fas : List Addr} {Ls : List (List Int)} (f : FndAt H F fas Ls) {p : Nat} {ids : List Int} (h : Ls[p]? = some ids) : ∃ fa, fas[p]? = some fa ∧ H fa = some (.lst (ids.map V.int)) := by
  have hp : p < fas.length := by
    rw [f.len]
    exact (List.getElem?_eq_some_iff.mp h).1
  exact ⟨_, List.getElem?_eq_getElem hp, f.each p _ ids (List.getElem?_eq_getElem hp) h⟩
theorem FndAt.out {H : Hp} {F b : Addr} {fas : List Addr} {Ls : List (List Int)} {o : HO} (f : FndAt H F fas Ls) (hF : b ≠ F) (hb : b ∉ fas) : FndAt (upd H b o) F fas Ls :=
  ⟨by rw [upd_ne hF.symm]; exact f.at_, f.len, fun i t ids h1 h2 => by
    rw [upd_ne fun z : t = b => hb (z ▸ List.mem_of_getElem? h1)]
    exact f.each i t ids h1 h2, f.nd⟩
theorem FndAt.set {H : Hp} {F fa : Addr} {fas : List Addr} {Ls : List (List Int)} {ids' : List Int} {p : Nat} (f : FndAt H F fas Ls) (hp : fas[p]? = some fa) (hF : F ≠ fa) : FndAt (upd H fa (.lst (ids'.map V.int))) F fas (Ls.set p ids') := by
  refine ⟨by rw [upd_ne hF]; exact f.at_, by simp [f.len], fun i t ids h1 h2 => ?_, f.nd⟩
  by_cases e : p = i
  · subst e
    rw [hp] at h1
    cases h1
    rw [List.getElem?_set_self (by rw [← f.len]; exact (List.getElem?_eq_some_iff.mp hp).1)] at h2
    cases h2
    exact upd_same
  · rw [List.getElem?_set_ne e] at h2
    have : t ≠ fa := fun z => by
      subst z
      obtain ⟨a1, b1⟩ := List.getElem?_eq_some_iff.mp hp
      obtain ⟨a2, b2⟩ := List.getElem?_eq_some_iff.mp h1
      exact e ((List.getElem_inj f.nd (h₀ := a1) (h₁ := a2)).mp (b1.trans b2.symm))
    rw [upd_ne this]
    exact f.each i t ids h1 h2
theorem len_flatten {L : List (List Int)} {i : Nat} {ids : List Int} (h : L[i]? = some ids) : ids.length ≤ L.flatten.length := by
  induction L generalizing i with
  | nil => simp at h
  | cons a r ih =>
    simp only [List.flatten_cons, List.length_append]
    cases i with
    | zero => cases h; omega
    | succ i => have := ih (i := i) h; omega
theorem eqv_nil (ids : List Int) : PyData.eqv (.list (ids.map PyData.int)) (.list []) = ids.isEmpty := by
  cases ids with
  | nil => simp [PyData.eqv, PyData.eqvAll]
  | cons x r => simp [PyData.eqv, PyData.eqvAll]
theorem dp_ints {K : PySem.W.Frag} {H : Hp} : ∀ xs : List Int, DpAll K H (xs.map V.int) (xs.map PyData.int)
  | [] => .nil
  | _ :: r => .cons (.int _) (dp_ints r)
theorem map_erase {ids : List Int} {k : Nat} : (ids.map V.int).eraseIdx k = (ids.eraseIdx k).map V.int := by
  induction ids generalizing k with
  | nil => simp
  | cons a r ih =>
    cases k with
    | zero => rfl
    | succ k => simp [List.eraseIdx_cons_succ, ih]
theorem get_map {α β : Type} {f : α → β} {l : List α} {i : Nat} {y : β} (h : (l.map f)[i]? = some y) : ∃ x, l[i]? = some x ∧ y = f x := by
  rw [List.getElem?_map] at h
  obtain ⟨n, h1, h2⟩ := Option.map_eq_some_iff.mp h
  exact ⟨n, h1, h2.symm⟩
section
variable {P : Program} {w : World} {K : PySem.W.Frag} {mg : Str → Option Value} {base : Heap}
def spMV : Sp := fun vs H Q _ => ∃ (st g : Addr) (gas : List Addr) (Gs : List (List Int)) (d e : Int), vs = [.ref st, .ref g] ∧ H st = some (strm d e) ∧ 0 ≤ d ∧ 0 ≤ e ∧ e < 2 ^ 40 ∧ GrpAt H g gas Gs ∧ Gs ≠ [] ∧ Gs.length < 60 ∧ Gs.flatten.length ≤ 9 ∧
  ∀ (T gA mA : Addr) (gas' : List Addr) (Ls Gn : List (List Int)) (M M' : List Int) (d' e' : Int) (H' : Hp), Ex [st] H H' → H' T = some (.tup [.ref gA, .ref mA]) → GrpAt H' gA gas' Gn → H' mA = some (.lst (M'.map V.int)) → H' st = some (strm d' e') → 0 ≤ d' → 0 ≤ e' → e' < 2 ^ 40 →
    MvInv Gs Ls M → Like Gn (full Ls) → (∀ x, x ∈ M' ↔ x ∈ M) → M'.length < 60 → Q (.ref T) H'
theorem scMV : FnScope ["_law_stream_here", "_law_groups", "_law_found", "_law_moved_here", "_law_turn", "_law_place", "_law_other", "_law_row_id", "_law_group"] ["_law_stream_here", "_law_groups"] (defScope sMV) := ⟨rfl, rfl, rfl, by decide +kernel, rfl, by decide +kernel, by decide +kernel⟩
theorem ok_MV {f fD : Addr} {fd fdD : FuncData} (F : Fun K "_law_moved" "_law_moved" sMV f fd) (FD : Fun K "_law_draw" "_law_draw" sDR fD fdD) (bD : Binds K fdD ["_law_stream_here", "_law_size"] []) (gD : mg "_law_draw" = some (.ref fD))
    (ml : mg "list" = none) (mr : mg "range" = none) (mn : mg "len" = none) (mt : mg "tuple" = none) (ms : mg "sorted" = none) (me : mg "set" = none) : FnOk P w K mg base CX0 2 f fd ["_law_stream_here", "_law_groups"] spMV := by
  have GD : FnOk P w K mg base CX0 1 fD fdD ["_law_stream_here", "_law_size"] spDR := ok_DR FD
  refine F.ok scMV (fun vs H Q E h => ?_) (fun cdv A outer s H vs Q E hr h => ?_)
  · obtain ⟨st, g, gas, Gs, d, e, rfl, _⟩ := h
    rfl
  · obtain ⟨st, g, gas, Gs, d, e, rfl, hst, d0, e0, e1, hg, Gne, Glen, Gfl, q⟩ := h
    have hu := hu_of hr
    have nd := scMV.nd
    refine ⟨_, pss_cons (ps_par (i := 2) (j := 3) rfl nd rfl rfl (by decide) rfl rfl (pa_cons
        (pe_lc (own := [("_law_group", 8)]) (g := gName 8) (tt := tYes) (te := tCB (fun xs H Q => ∃ p ys, xs = [.ref p] ∧ (SqL K H p ys ∨ SqT K H p ys) ∧ ∀ l, H l = none → Q (.ref l) (upd H l (.lst ys))) (tCons (tVar 8) tNil)) rfl nd (pi_list (pv 1)) (blkOk_by (N := ["_law_stream_here", "_law_groups", "_law_found", "_law_moved_here", "_law_turn", "_law_place", "_law_other", "_law_row_id", "_law_group"]) (sc := defScope sMV) (by decide +kernel))
          (fun _ _ _ _ _ => pg_name (i := 8) nd rfl (.inl rfl) (.inr rfl)) (fun _ _ _ _ _ => pts_nil) (fun _ _ _ _ _ => pe_callTy call_list_of (by rfl) ml PyProof.Rows.boot_list (pa_cons (pv 8) pa_nil)))
        (pa_cons (pe_lst pa_nil) pa_nil)) rfl)
      (pss_cons (ps_for PassesOwn.never rfl (pi_range1 (by rfl) mr (pa_cons (pe_call GD hr (by rfl) gD FD.kp bD .nil pass0 (pa_cons (pv 0) (pa_cons pe_int pa_nil))) pa_nil)) (pg_name (i := 4) nd rfl (.inl rfl))
        (pss_cons (ps_par (i := 5) (j := 6) rfl nd rfl rfl (by decide) rfl rfl (pa_cons (pe_call GD hr (by rfl) gD FD.kp bD .nil pass0 (pa_cons (pv 0) (pa_cons (pe_callB call_len_seq (by rfl) mn PySem.boot_len (pa_cons (pv 2) pa_nil)) pa_nil)))
            (pa_cons (pe_call GD hr (by rfl) gD FD.kp bD .nil pass0 (pa_cons (pv 0) (pa_cons (pe_callB call_len_seq (by rfl) mn PySem.boot_len (pa_cons (pv 2) pa_nil)) pa_nil))) pa_nil)) rfl)
        (pss_one (ps_if (pt_cmpR (op_neD hr.units) (pe_ix ix_list (pv 2) (pv 5) (fun _ _ => rfl)) (pe_lst pa_nil) (nomark _))
          (pss_cons (ps_set (i := 7) nd rfl (.inl rfl) (pe_bm PySem.F.plainAttrs_list PySem.F.slot_list_pop PySem.F.type_list_pop mt_popAt (pe_ix ix_list (pv 2) (pv 5) (fun _ _ => rfl)) (pa_cons (pe_call GD hr (by rfl) gD FD.kp bD .nil pass0 (pa_cons (pv 0) (pa_cons (pe_callB call_len_seq (by rfl) mn PySem.boot_len (pa_cons (pe_ix ix_list (pv 2) (pv 5) (fun _ _ => rfl)) pa_nil)) pa_nil))) pa_nil)))
          (pss_cons (ps_expr (pe_bm PySem.F.plainAttrs_list PySem.F.slot_list_append PySem.F.type_list_append mt_append (pe_ix ix_list (pv 2) (pv 6) (fun _ _ => rfl)) (pa_cons (pv 7) pa_nil)))
          (pss_one (ps_expr (pe_bm PySem.F.plainAttrs_list PySem.F.slot_list_append PySem.F.type_list_append mt_append (pv 3) (pa_cons (pv 7) pa_nil)))))) pss_nil))))
      (pss_one (ps_ret (pe_tup (pa_cons
        (pe_lc (own := [("_law_group", 8)]) (g := gName 8) (tt := tTest (tOp (rNeD K) (tVar 8) (tLst tNil))) (te := tCB (fun xs H Q => ∃ p ys, xs = [.ref p] ∧ ((SqL K H p ys ∧ ∀ l, H l = none → Q (.ref l) (upd H l (.tup ys))) ∨ (SqT K H p ys ∧ Q (.ref p) H))) (tCons (tCB (rSorted K) (tCons (tVar 8) tNil)) tNil)) rfl nd (pi_list (pv 2)) (blkOk_by (N := ["_law_stream_here", "_law_groups", "_law_found", "_law_moved_here", "_law_turn", "_law_place", "_law_other", "_law_row_id", "_law_group"]) (sc := defScope sMV) (by decide +kernel))
          (fun _ _ _ _ _ => pg_name (i := 8) nd rfl (.inl rfl) (.inr rfl)) (fun _ _ _ _ _ => pts_one (pt_cmpR (op_neD hr.units) (pv 8) (pe_lst pa_nil) (nomark _)))
          (fun _ _ _ _ _ => pe_callTy call_tuple_of (by rfl) mt PyProof.Rows.boot_tuple (pa_cons (pe_callB cr_sorted (by rfl) ms PyProof.Rows.boot_sorted (pa_cons (pv 8) pa_nil)) pa_nil)))
        (pa_cons (pe_callB (cr_sortedSet rfl) (by rfl) ms PyProof.Rows.boot_sorted (pa_cons (pe_callTy (call_setL rfl) (by rfl) me PyProof.Rows.boot_set (pa_cons (pv 3) pa_nil)) pa_nil)) pa_nil)))))), ?_⟩
    -- the lists of the groups
    refine ⟨.ref g, rfl, g, rfl, ⟨_, SqL.of hg.at_⟩, fun Fa hFa => ?_⟩
    have hgF : g ≠ Fa := ne_of_none hg.at_ hFa
    refine lc_it (walk_list (K := K) (a := g) (xs := gas.map V.ref)) (fun i H' => Ex [Fa] H H' ∧ ∃ fas : List Addr, H' Fa = some (.lst (fas.map V.ref)) ∧ fas.length = i ∧ (∀ (k : Nat) t ids, fas[k]? = some t → Gs[k]? = some ids → H' t = some (.lst (ids.map V.int))) ∧ fas.Nodup ∧ ∀ t ∈ fas, H t = none ∧ t ≠ Fa ∧ ∃ o, H' t = some o) ⟨.upd_in (by simp), [], upd_same, rfl, by simp, by simp, by simp⟩ ?_ ?_ ?_
    · rintro i H' hi ⟨ex, _⟩
      exact SqL.of (ex g _ hg.at_ (by simpa using hgF))
    · rintro i y H1 H2 hi ⟨ex, fas, hF, lf, ef, nf, of⟩ ⟨rfl, hy⟩
      obtain ⟨gt, hgt, rfl⟩ := get_map hy
      obtain ⟨ids, hids, hgtH⟩ := hg.get hgt
      have hgt2 := ex gt _ hgtH (by simpa using (ne_of_none hgtH hFa))
      refine ⟨rfl, .ref gt, rfl, gt, _, rfl, .inr (SqT.of hgt2), fun l hl => ?_⟩
      have hlF : l ≠ Fa := (ne_of_none hF hl).symm
      have hlH : H l = none := ex.free hl (by simpa using hlF)
      have hlf : l ∉ fas := fun z => by
        obtain ⟨_, _, o, ho⟩ := of l z
        rw [hl] at ho; cases ho
      have hi' : i < gas.length := (List.getElem?_eq_some_iff.mp hgt).1
      have hgl := hg.len
      refine ⟨_, by rw [upd_ne hlF.symm]; exact hF, small1000 (by rw [List.length_map, lf]; omega), (ex.put_new hlH).trans (.upd_in (by simp)), fas ++ [l], by rw [upd_same, List.map_append]; rfl, by simp [lf], fun k t ids' h1 h2 => ?_, ?_, fun t ht => ?_⟩
      · by_cases hk : k < fas.length
        · rw [List.getElem?_append_left hk] at h1
          have htm := List.mem_of_getElem? h1
          have h3 := of t htm
          rw [upd_ne h3.2.1, upd_ne fun z : t = l => hlf (z ▸ htm)]
          exact ef k t ids' h1 h2
        · rw [List.getElem?_append_right (by omega)] at h1
          have hk0 : k - fas.length = 0 := by
            have := (List.getElem?_eq_some_iff.mp h1).1
            simp at this
            omega
          rw [hk0] at h1
          cases h1
          have : k = i := by omega
          subst this
          rw [hids] at h2
          cases h2
          rw [upd_ne hlF, upd_same]
      · exact List.nodup_append.mpr ⟨nf, by simp, fun x hx y hy e => by
          rw [List.mem_singleton.mp hy] at e
          exact hlf (e ▸ hx)⟩
      · rcases List.mem_append.mp ht with h | h
        · obtain ⟨a1, a2, o, a3⟩ := of t h
          exact ⟨a1, a2, o, by rw [upd_ne a2, upd_ne fun z : t = l => hlf (z ▸ h)]; exact a3⟩
        · rw [List.mem_singleton.mp h]
          exact ⟨hlH, hlF, _, by rw [upd_ne hlF, upd_same]⟩
    · rintro H1 ⟨ex1, fas, hF1, lf, ef, nf, of⟩
      have lf' : fas.length = Gs.length := by rw [lf, List.length_map, hg.len]
      refine ⟨by show 0 ≤ sizeLine; decide, fun Mv hMv => ?_⟩
      have hMF : Mv ≠ Fa := (ne_of_none hF1 hMv).symm
      have hMH : H Mv = none := ex1.free hMv (by simpa using hMF)
      have hMf : Mv ∉ fas := fun z => by
        obtain ⟨_, _, o, ho⟩ := of Mv z
        rw [hMv] at ho; cases ho
      have hFf : Fa ∉ fas := fun z => (of Fa z).2.1 rfl
      have hsF : st ≠ Fa := ne_of_none hst hFa
      have hsM : st ≠ Mv := ne_of_none hst hMH
      have hsf : st ∉ fas := fun z => by
        have := (of st z).1
        rw [hst] at this; cases this
      have fd0 : FndAt (upd H1 Mv (.lst [])) Fa fas Gs := FndAt.out ⟨hF1, lf', ef, nf⟩ hMF hMf
      have ex2 : Ex [st] H (upd H1 Mv (.lst [])) := (ex1.drop hFa |>.mono (by simp)).put_new hMH
      have hM2 : upd H1 Mv (.lst []) Mv = some (.lst (([] : List Int).map V.int)) := upd_same
      have hst2 : upd H1 Mv (.lst []) st = some (strm d e) := by rw [upd_ne hsM]; exact ex1 st _ hst (by simpa using hsF)
      generalize upd H1 Mv (.lst []) = H2 at fd0 ex2 hM2 hst2
      refine ⟨_, _, rfl, ?_⟩
      refine ⟨.ref st, rfl, st, 4, d, e, rfl, hst2, d0, e0, e1, by decide, by decide, fun d3 e3 r hd3 he3 he4 hr0 hr1 => ?_⟩
      refine ⟨r, rfl, by omega, by omega, for_range (fun i σ H' => ∃ (Ls : List (List Int)) (M : List Int) (d e : Int) (v4 v5 v6 v7 v8 : Option V), σ = [some (.ref st), some (.ref g), some (.ref Fa), some (.ref Mv), v4, v5, v6, v7, v8] ∧ Ex [st] H H' ∧ FndAt H' Fa fas Ls ∧ H' Mv = some (.lst (M.map V.int)) ∧ H' st = some (strm d e) ∧ 0 ≤ d ∧ 0 ≤ e ∧ e < 2 ^ 40 ∧ MvInv Gs Ls M ∧ M.length ≤ i)
        ⟨Gs, [], d3, e3, _, _, _, _, _, rfl, ex2.trans (.upd_in (by simp)), fd0.out hsF hsf, by rw [upd_ne hsM.symm]; exact hM2, upd_same, hd3, he3, he4, .start Gs, by simp⟩ ?_ ?_⟩
      · rintro i σ H3 hi ⟨Ls, M, d4, e4, v4, v5, v6, v7, v8, rfl, ex3, fd3, hM3, hst3, hd4, he4, he5, iv, lM⟩
        have lnz : 0 < fas.length := by rw [lf']; exact List.length_pos_iff.mpr Gne
        have lLs : fas.length = Ls.length := fd3.len
        -- place
        refine ⟨.ref st, rfl, .ref Fa, rfl, Fa, _, rfl, .inl (SqL.of fd3.at_), st, _, d4, e4, rfl, hst3, hd4, he4, he5, by rw [List.length_map]; omega, by rw [List.length_map]; omega, fun d5 e5 rp hd5 he5' he6 rp0 rp1 => ?_⟩
        have fd4 : FndAt (upd H3 st (strm d5 e5)) Fa fas Ls := fd3.out hsF hsf
        refine ⟨.ref st, rfl, .ref Fa, rfl, Fa, _, rfl, .inl (SqL.of fd4.at_), st, _, d5, e5, rfl, upd_same, hd5, he5', he6, by rw [List.length_map]; omega, by rw [List.length_map]; omega, fun d6 e6 ro hd6 he6' he7 ro0 ro1 => ?_⟩
        rw [List.length_map] at rp1 ro1
        rw [upd_upd]
        have fd5 : FndAt (upd H3 st (strm d6 e6)) Fa fas Ls := fd3.out hsF hsf
        have ex5 : Ex [st] H (upd H3 st (strm d6 e6)) := ex3.trans (.upd_in (by simp))
        have hM5 : upd H3 st (strm d6 e6) Mv = some (.lst (M.map V.int)) := by rw [upd_ne hsM.symm]; exact hM3
        have hst5 : upd H3 st (strm d6 e6) st = some (strm d6 e6) := upd_same
        generalize upd H3 st (strm d6 e6) = H5 at fd5 ex5 hM5 hst5
        obtain ⟨p, rfl⟩ := Int.eq_ofNat_of_zero_le rp0
        obtain ⟨o, rfl⟩ := Int.eq_ofNat_of_zero_le ro0
        refine ⟨_, _, rfl, ?_⟩
        obtain ⟨ids, hids⟩ : ∃ ids, Ls[p]? = some ids := ⟨_, List.getElem?_eq_getElem (by omega)⟩
        obtain ⟨fa, hfa, hfaH⟩ := fd5.get hids
        have gfa : (fas.map V.ref)[p]? = some (.ref fa) := by rw [List.getElem?_map, hfa]; rfl
        have fam : fa ∈ fas := List.mem_of_getElem? hfa
        have hFfa : Fa ≠ fa := fun z => hFf (z ▸ fam)
        have lids : ids.length ≤ 9 := by
          have h1 := len_flatten hids
          have h2 := iv.perm.length_eq
          omega
        refine ⟨.ref Fa, rfl, _, rfl, Fa, _, _, .ref fa, rfl, rfl, SqL.of fd5.at_, atI_nat gfa, by show 0 ≤ sizeLine; decide, fun E hE => ?_⟩
        have hEF : E ≠ Fa := (ne_of_none fd5.at_ hE).symm
        have hEf : E ∉ fas := fun z => by
          obtain ⟨k, hk⟩ := List.mem_iff_getElem?.mp z
          obtain ⟨l', hl'⟩ : ∃ l', Ls[k]? = some l' := ⟨_, List.getElem?_eq_getElem (by have := (List.getElem?_eq_some_iff.mp hk).1; omega)⟩
          have := fd5.each k E l' hk hl'
          rw [hE] at this; cases this
        have fd6 : FndAt (upd H5 E (.lst [])) Fa fas Ls := fd5.out hEF hEf
        have ex6 : Ex [st] H (upd H5 E (.lst [])) := ex5.trans (.upd_new hE)
        have hM6 : upd H5 E (.lst []) Mv = some (.lst (M.map V.int)) := by rw [upd_ne (ne_of_none hM5 hE)]; exact hM5
        have hst6 : upd H5 E (.lst []) st = some (strm d6 e6) := by rw [upd_ne (ne_of_none hst5 hE)]; exact hst5
        have hfa6 : upd H5 E (.lst []) fa = some (.lst (ids.map V.int)) := by rw [upd_ne (ne_of_none hfaH hE)]; exact hfaH
        have hE6 : upd H5 E (.lst []) E = some (.lst []) := upd_same
        generalize upd H5 E (.lst []) = H6 at fd6 ex6 hM6 hst6 hfa6 hE6
        refine ⟨.list (ids.map PyData.int), .list [], .lst (SqL.of hfa6) (dp_ints ids), .lst (SqL.of hE6) .nil, PySem.W.ke_shaped_ints ids, PySem.W.ke_shaped_ints [], _, rfl, ?_⟩
        rw [eqv_nil]
        cases hemp : ids.isEmpty with
        | true => exact goF rfl ⟨Ls, M, d6, e6, _, _, _, _, _, rfl, ex6, fd6, hM6, hst6, hd6, he6', he7, iv, by omega⟩
        | false =>
          refine goT rfl ?_
          have lpos : 0 < ids.length := by
            cases ids with
            | nil => cases hemp
            | cons _ _ => simp
          refine ⟨.ref Fa, rfl, _, rfl, Fa, _, _, .ref fa, rfl, rfl, SqL.of fd6.at_, atI_nat gfa, .inl ⟨rfl, _, SqL.of hfa6⟩, ?_⟩
          refine ⟨.ref st, rfl, .ref Fa, rfl, _, rfl, Fa, _, _, .ref fa, rfl, rfl, SqL.of fd6.at_, atI_nat gfa, fa, _, rfl, .inl (SqL.of hfa6), st, _, d6, e6, rfl, hst6, hd6, he6', he7, by rw [List.length_map]; omega, by rw [List.length_map]; omega, fun d7 e7 rk hd7 he7' he8 rk0 rk1 => ?_⟩
          rw [List.length_map] at rk1
          obtain ⟨k0, rfl⟩ := Int.eq_ofNat_of_zero_le rk0
          obtain ⟨x, hx⟩ : ∃ x, ids[k0]? = some x := ⟨_, List.getElem?_eq_getElem (by omega)⟩
          have gx : (ids.map V.int)[k0]? = some (.int x) := by rw [List.getElem?_map, hx]; rfl
          obtain ⟨k, hk1, hk2, hk3, _, _⟩ := atI_get (atI_nat gx)
          obtain ⟨x', hx', ex'⟩ := get_map hk2
          cases ex'
          have hsfa : st ≠ fa := fun z => hsf (z ▸ fam)
          have hMfa : Mv ≠ fa := fun z => hMf (z ▸ fam)
          have fd7 : FndAt (upd H6 st (strm d7 e7)) Fa fas Ls := fd6.out hsF hsf
          have ex7 : Ex [st] H (upd H6 st (strm d7 e7)) := ex6.trans (.upd_in (by simp))
          have hM7 : upd H6 st (strm d7 e7) Mv = some (.lst (M.map V.int)) := by rw [upd_ne hsM.symm]; exact hM6
          have hst7 : upd H6 st (strm d7 e7) st = some (strm d7 e7) := upd_same
          have hfa7 : upd H6 st (strm d7 e7) fa = some (.lst (ids.map V.int)) := by rw [upd_ne hsfa.symm]; exact hfa6
          generalize upd H6 st (strm d7 e7) = H7 at fd7 ex7 hM7 hst7 hfa7
          refine ⟨fa, _, _, k, _, rfl, rfl, hfa7, by omega, by omega, hk1, hk2, ?_⟩
          rw [map_erase]
          have fd8 : FndAt (upd H7 fa (.lst ((ids.eraseIdx k).map V.int))) Fa fas (Ls.set p (ids.eraseIdx k)) := fd7.set hfa hFfa
          have ex8 : Ex [st] H (upd H7 fa (.lst ((ids.eraseIdx k).map V.int))) := ex7.put_new (of fa fam).1
          have hM8 : upd H7 fa (.lst ((ids.eraseIdx k).map V.int)) Mv = some (.lst (M.map V.int)) := by rw [upd_ne hMfa]; exact hM7
          have hst8 : upd H7 fa (.lst ((ids.eraseIdx k).map V.int)) st = some (strm d7 e7) := by rw [upd_ne hsfa]; exact hst7
          generalize upd H7 fa (.lst ((ids.eraseIdx k).map V.int)) = H8 at fd8 ex8 hM8 hst8
          obtain ⟨os, hos⟩ : ∃ os, (Ls.set p (ids.eraseIdx k))[o]? = some os := ⟨_, List.getElem?_eq_getElem (by rw [List.length_set]; omega)⟩
          obtain ⟨fo, hfo, hfoH⟩ := fd8.get hos
          have gfo : (fas.map V.ref)[o]? = some (.ref fo) := by rw [List.getElem?_map, hfo]; rfl
          have fom : fo ∈ fas := List.mem_of_getElem? hfo
          have hFfo : Fa ≠ fo := fun z => hFf (z ▸ fom)
          have hMfo : Mv ≠ fo := fun z => hMf (z ▸ fom)
          have hsfo : st ≠ fo := fun z => hsf (z ▸ fom)
          have iv2 := iv.step hids hx' hos
          have los : os.length ≤ 9 := by
            have h0 : ((Ls.set p (ids.eraseIdx k)).set o (os ++ [x]))[o]? = some (os ++ [x]) := List.getElem?_set_self (List.getElem?_eq_some_iff.mp hos).1
            have h1 := len_flatten h0
            have h2 := iv2.perm.length_eq
            rw [List.length_append] at h1
            omega
          refine ⟨.ref Fa, rfl, _, rfl, Fa, _, _, .ref fo, rfl, rfl, SqL.of fd8.at_, atI_nat gfo, .inl ⟨rfl, _, SqL.of hfoH⟩, _, rfl, fo, _, _, rfl, rfl, hfoH, small1000 (by rw [List.length_map]; omega), ?_⟩
          have e9 : os.map V.int ++ [V.int x] = (os ++ [x]).map V.int := by simp
          rw [e9]
          have fd9 : FndAt (upd H8 fo (.lst ((os ++ [x]).map V.int))) Fa fas ((Ls.set p (ids.eraseIdx k)).set o (os ++ [x])) := fd8.set hfo hFfo
          have ex9 : Ex [st] H (upd H8 fo (.lst ((os ++ [x]).map V.int))) := ex8.put_new (of fo fom).1
          have hM9 : upd H8 fo (.lst ((os ++ [x]).map V.int)) Mv = some (.lst (M.map V.int)) := by rw [upd_ne hMfo]; exact hM8
          have hst9 : upd H8 fo (.lst ((os ++ [x]).map V.int)) st = some (strm d7 e7) := by rw [upd_ne hsfo]; exact hst8
          generalize upd H8 fo (.lst ((os ++ [x]).map V.int)) = H9 at fd9 ex9 hM9 hst9
          refine ⟨.ref Mv, rfl, .inl ⟨rfl, _, SqL.of hM9⟩, _, rfl, Mv, _, _, rfl, rfl, hM9, small1000 (by rw [List.length_map]; omega), ?_⟩
          have e10 : M.map V.int ++ [V.int x] = (M ++ [x]).map V.int := by simp
          rw [e10]
          exact ⟨_, M ++ [x], d7, e7, _, _, _, _, _, rfl, ex9.put_new hMH, fd9.out hMF hMf, upd_same, by rw [upd_ne hsM]; exact hst9, hd7, he7', he8, iv2, by simp; omega⟩
      · rintro σ H3 ⟨Ls, M, d4, e4, v4, v5, v6, v7, v8, rfl, ex3, fd3, hM3, hst3, hd4, he4, he5, iv, lM⟩
        -- the groups again
        refine ⟨.ref Fa, rfl, Fa, rfl, ⟨_, SqL.of fd3.at_⟩, fun D hD => ?_⟩
        refine lc_it (walk_list (K := K) (a := Fa) (xs := fas.map V.ref)) (fun i H' => Ex [D] H3 H' ∧ ∃ (gas' : List Addr) (Gn : List (List Int)), H' D = some (.lst (gas'.map V.ref)) ∧ gas'.length = Gn.length ∧ (∀ (k : Nat) t a, gas'[k]? = some t → Gn[k]? = some a → H' t = some (.tup (a.map V.int))) ∧ Like Gn (full (Ls.take i)) ∧ gas'.length ≤ i) ⟨.upd_in (by simp), [], [], upd_same, rfl, by simp, ⟨rfl, by simp⟩, by simp⟩ ?_ ?_ ?_
        · rintro i H' hi ⟨ex, _⟩
          exact SqL.of (ex Fa _ fd3.at_ (by simpa using (ne_of_none fd3.at_ hD)))
        · rintro i y H4 H5 hi ⟨ex, gas', Gn, hD4, lg, eg, lk, lgi⟩ ⟨rfl, hy⟩
          obtain ⟨fa, hfa, rfl⟩ := get_map hy
          have hi' : i < fas.length := (List.getElem?_eq_some_iff.mp hfa).1
          obtain ⟨ids, hids⟩ : ∃ ids, Ls[i]? = some ids := ⟨_, List.getElem?_eq_getElem (by rw [← fd3.len]; exact hi')⟩
          have hfaH := fd3.each i fa ids hfa hids
          have hfa5 := ex fa _ hfaH (by simpa using (ne_of_none hfaH hD))
          have lids : ids.length ≤ 9 := by
            have h1 := len_flatten hids
            have h2 := iv.perm.length_eq
            omega
          refine ⟨rfl, .ref fa, rfl, by show 0 ≤ sizeLine; decide, fun E hE => ?_⟩
          have hED : E ≠ D := (ne_of_none hD4 hE).symm
          have exE : Ex [D] H3 (upd H5 E (.lst [])) := ex.trans (.upd_new hE)
          have hfaE : upd H5 E (.lst []) fa = some (.lst (ids.map V.int)) := by rw [upd_ne (ne_of_none hfa5 hE)]; exact hfa5
          have hDE : upd H5 E (.lst []) D = some (.lst (gas'.map V.ref)) := by rw [upd_ne hED.symm]; exact hD4
          have egE : ∀ (k : Nat) t a, gas'[k]? = some t → Gn[k]? = some a → upd H5 E (.lst []) t = some (.tup (a.map V.int)) := fun k t a h1 h2 => by
            have := eg k t a h1 h2
            rw [upd_ne (ne_of_none this hE)]
            exact this
          have hEE : upd H5 E (.lst []) E = some (.lst []) := upd_same
          generalize upd H5 E (.lst []) = H6 at exE hfaE hDE egE hEE
          have ft : full (Ls.take (i + 1)) = full (Ls.take i) ++ (if ids.isEmpty = true then [] else [ids]) := by
            rw [List.take_add_one, hids]
            unfold full
            cases ids with
            | nil => simp
            | cons a r => simp
          refine ⟨.list (ids.map PyData.int), .list [], .lst (SqL.of hfaE) (dp_ints ids), .lst (SqL.of hEE) .nil, PySem.W.ke_shaped_ints ids, PySem.W.ke_shaped_ints [], _, rfl, ?_⟩
          rw [eqv_nil]
          cases hemp : ids.isEmpty with
          | true =>
            refine goF rfl ⟨exE, gas', Gn, hDE, lg, egE, ?_, by omega⟩
            rw [ft, hemp]
            simpa using lk
          | false =>
            refine goT rfl ?_
            refine ⟨.ref fa, rfl, fa, ids, rfl, SqL.of hfaE, by omega, fun ns sl pn _ hsl => ?_⟩
            have exS : Ex [D] H3 (upd H6 sl (.lst (ns.map V.int))) := exE.trans (.upd_new hsl)
            refine ⟨sl, _, rfl, .inl ⟨SqL.of upd_same, fun tl htl => ?_⟩⟩
            have hDsl : D ≠ sl := ne_of_none hDE hsl
            have hD7 : upd H6 sl (.lst (ns.map V.int)) D = some (.lst (gas'.map V.ref)) := by rw [upd_ne hDsl]; exact hDE
            have hDtl : D ≠ tl := ne_of_none hD7 htl
            have eg7 : ∀ (k : Nat) t a, gas'[k]? = some t → Gn[k]? = some a → upd (upd H6 sl (.lst (ns.map V.int))) tl (.tup (ns.map V.int)) t = some (.tup (a.map V.int)) ∧ t ≠ D := fun k t a h1 h2 => by
              have h3 := egE k t a h1 h2
              have h4 : upd H6 sl (.lst (ns.map V.int)) t = some (.tup (a.map V.int)) := by rw [upd_ne (ne_of_none h3 hsl)]; exact h3
              refine ⟨by rw [upd_ne (ne_of_none h4 htl)]; exact h4, ne_of h3 hDE (by intro z; cases z)⟩
            refine ⟨_, by rw [upd_ne hDtl]; exact hD7, small1000 (by rw [List.length_map]; have := fd3.len; have := iv.len; omega), (exS.trans (.upd_new htl)).trans (.upd_in (by simp)), gas' ++ [tl], Gn ++ [ns], by rw [upd_same, List.map_append]; rfl, by simp [lg], fun k t a h1 h2 => ?_, ?_, by simp; omega⟩
            · by_cases hk : k < gas'.length
              · rw [List.getElem?_append_left hk] at h1
                rw [List.getElem?_append_left (by omega)] at h2
                obtain ⟨g1, g2⟩ := eg7 k t a h1 h2
                rw [upd_ne g2]
                exact g1
              · rw [List.getElem?_append_right (by omega)] at h1 h2
                have hk0 : k - gas'.length = 0 := by
                  have := (List.getElem?_eq_some_iff.mp h1).1
                  simp at this
                  omega
                rw [hk0] at h1
                rw [show k - Gn.length = 0 by omega] at h2
                cases h1
                cases h2
                rw [upd_ne hDtl.symm, upd_same]
            · rw [ft, hemp]
              simp only [Bool.false_eq_true, if_false]
              refine ⟨by simp [lk.1], fun k a b h1 h2 => ?_⟩
              by_cases hk : k < Gn.length
              · rw [List.getElem?_append_left hk] at h1
                rw [List.getElem?_append_left (by rw [← lk.1]; exact hk)] at h2
                exact lk.2 k a b h1 h2
              · have hll := lk.1
                rw [List.getElem?_append_right (by omega)] at h1 h2
                have hk0 : k - Gn.length = 0 := by
                  have := (List.getElem?_eq_some_iff.mp h1).1
                  simp at this
                  omega
                rw [hk0] at h1
                rw [show k - (full (Ls.take i)).length = 0 by omega] at h2
                cases h1
                cases h2
                exact pn
        · rintro H4 ⟨ex4, gas', Gn, hD4, lg, eg, lk, lgi⟩
          have et : Ls.take (fas.map V.ref).length = Ls := List.take_of_length_le (by rw [List.length_map, fd3.len]; exact Nat.le_refl _)
          rw [et] at lk
          have hM4 := ex4 Mv _ hM3 (by simpa using (ne_of_none hM3 hD))
          have hst4 := ex4 st _ hst3 (by simpa using (ne_of_none hst3 hD))
          have exH4 : Ex [st] H H4 := ex3.trans (ex4.drop hD |>.mono (by simp))
          have g4 : GrpAt H4 D gas' Gn := ⟨hD4, lg, eg⟩
          refine ⟨.ref Mv, rfl, Mv, M, rfl, SqL.of hM4, by omega, fun S c hS hc => ?_⟩
          refine ⟨S, _, c, rfl, upd_same, by omega, fun ns mA _ hns hnl hmA => ?_⟩
          have g5 := (g4.ex0 (.upd_new (o := SetO w S (fun j => decide (j ∈ M)) c) hS)).ex0 (.upd_new (o := .lst (ns.map V.int)) hmA)
          have hst5 : upd (upd H4 S (SetO w S (fun j => decide (j ∈ M)) c)) mA (.lst (ns.map V.int)) st = some (strm d4 e4) := (Ex.trans (Ex.upd_new hS) (Ex.upd_new hmA) : Ex [] H4 _) st _ hst4 (by simp)
          have ex5 := (exH4.trans (.upd_new (o := SetO w S (fun j => decide (j ∈ M)) c) hS)).trans (.upd_new (o := .lst (ns.map V.int)) hmA)
          have hmA5 : upd (upd H4 S (SetO w S (fun j => decide (j ∈ M)) c)) mA (.lst (ns.map V.int)) mA = some (.lst (ns.map V.int)) := upd_same
          refine ⟨le2, fun T hT => ?_⟩
          have hT : upd (upd H4 S (SetO w S (fun j => decide (j ∈ M)) c)) mA (.lst (ns.map V.int)) T = none := hT
          exact q T D mA gas' Ls Gn M ns d4 e4 _ (ex5.trans (.upd_new hT)) upd_same (g5.ex0 (.upd_new hT)) (by rw [upd_ne (ne_of_none hmA5 hT)]; exact hmA5) (by rw [upd_ne (ne_of_none hst5 hT)]; exact hst5) hd4 he4 he5 iv lk (fun x => by rw [hns x]; simp) (by omega)
end
end KN

namespace KN
open PySem L2 PySem.Spec
open PyProof.Rows hiding St
abbrev nine : List Int := [1, 2, 3, 4, 5, 6, 7, 8, 9]
theorem rg9 : rgV 1 10 = nine.map V.int := by decide
theorem lst_ne_ref {gas : List Addr} {ns : List Int} (h : ns ≠ []) : HO.lst (ns.map V.int) ≠ .lst (gas.map V.ref) := by
  intro z
  injection z with z
  cases ns with
  | nil => exact h rfl
  | cons x r =>
    cases gas with
    | nil => cases z
    | cons y t =>
      injection z with z _
      cases z
theorem GrpAt.out {H : Hp} {g b : Addr} {gas : List Addr} {Gs : List (List Int)} {xs : List V} {o : HO} (a : GrpAt H g gas Gs) (hb : H b = some (.lst xs)) (hg : g ≠ b) : GrpAt (upd H b o) g gas Gs :=
  ⟨by rw [upd_ne hg]; exact a.at_, a.len, fun i t ids h1 h2 => by
    have := a.each i t ids h1 h2
    rw [upd_ne (ne_of this hb (by intro z; cases z))]
    exact this⟩
theorem GrpAt.outD {H : Hp} {g b : Addr} {gas : List Addr} {Gs : List (List Int)} {xs : List (Key × V)} {o : HO} (a : GrpAt H g gas Gs) (hb : H b = some (.dK xs)) : GrpAt (upd H b o) g gas Gs :=
  ⟨by rw [upd_ne (ne_of a.at_ hb (by intro z; cases z))]; exact a.at_, a.len, fun i t ids h1 h2 => by
    have := a.each i t ids h1 h2
    rw [upd_ne (ne_of this hb (by intro z; cases z))]
    exact this⟩
section
variable {P : Program} {w : World} {K : PySem.W.Frag} {mg : Str → Option Value} {base : Heap}
def spDN : Sp := fun vs H Q _ => ∃ (st : Addr) (d e : Int), vs = [.ref st] ∧ H st = some (strm d e) ∧ 0 ≤ d ∧ 0 ≤ e ∧ e < 2 ^ 40 ∧
  ∀ (T gA lA wA sA : Addr) (gas : List Addr) (Gs : List (List Int)) (lab : List (Int × Str)) (ws : List (Int × Int)) (d' e' : Int) (H' : Hp), Ex [st] H H' → H' T = some (.tup [.ref gA, .ref lA, .ref wA, .ref sA]) → GrpAt H' gA gas Gs → H' lA = some (dIS lab) → H' wA = some (dII ws) → H' st = some (strm d' e') → 0 ≤ d' → 0 ≤ e' → e' < 2 ^ 40 →
    Gs.length ≤ 4 → Gs.flatten.Nodup → (∀ x ∈ Gs.flatten, 1 ≤ x ∧ x ≤ 9) → Gs.flatten.length ≤ 9 → (keys ws).Nodup → ws.length < 60 → (∀ i : Int, 1 ≤ i → i ≤ 9 → i ∈ keys ws) → (∀ x, 0 ≤ at0 ws x) → (∀ x n, look lab x = some n → PyData.strOk n = true) → Q (.ref T) H'
theorem scDN : FnScope ["_law_stream_here", "_law_left", "_law_groups", "_law_turn", "_law_group", "_law_more", "_law_labels", "_law_weights", "_law_row_id", "_law_stuck", "_law_name"] ["_law_stream_here"] (defScope sDN) := ⟨rfl, rfl, rfl, by decide +kernel, rfl, by decide +kernel, by decide +kernel⟩
theorem perm9 {l : List Int} (h : l.Perm nine) : l.Nodup ∧ (∀ x ∈ l, 1 ≤ x ∧ x ≤ 9) ∧ l.length = 9 := by
  refine ⟨h.nodup_iff.mpr (by decide), fun x hx => ?_, by rw [h.length_eq]; rfl⟩
  have := h.mem_iff.mp hx
  revert this
  simp [nine]
  omega
theorem pop_perm {lf : List Int} {k : Nat} {x : Int} (h : lf[k]? = some x) (A B : List Int) : (lf.eraseIdx k ++ A ++ (B ++ [x])).Perm (lf ++ A ++ B) := by
  refine List.perm_iff_count.mpr fun y => ?_
  have := count_erase h y
  simp only [List.count_append]
  omega
structure ESt (H0 H : Hp) (st gA La Wa : Addr) (gas : List Addr) (Gs : List (List Int)) (lab : List (Int × Str)) (ws : List (Int × Int)) (d e : Int) : Prop where
  ex : Ex [st] H0 H
  gat : GrpAt H gA gas Gs
  sat : H st = some (strm d e)
  d0 : 0 ≤ d
  e0 : 0 ≤ e
  e1 : e < 2 ^ 40
  lat : H La = some (dIS lab)
  wat : H Wa = some (dII ws)
  nL : H0 La = none
  nW : H0 Wa = none
  ne : La ≠ Wa
theorem ESt.strm {H0 H : Hp} {st gA La Wa : Addr} {gas : List Addr} {Gs : List (List Int)} {lab : List (Int × Str)} {ws : List (Int × Int)} {d e d' e' : Int} (s : ESt H0 H st gA La Wa gas Gs lab ws d e) (h0 : 0 ≤ d') (h1 : 0 ≤ e') (h2 : e' < 2 ^ 40) : ESt H0 (upd H st (KN.strm d' e')) st gA La Wa gas Gs lab ws d' e' :=
  ⟨s.ex.trans (.upd_in (by simp)), s.gat.out s.sat (ne_of s.gat.at_ s.sat fun z => strm_ne z.symm), upd_same, h0, h1, h2, by rw [upd_ne (ne_of s.lat s.sat (by intro z; cases z))]; exact s.lat, by rw [upd_ne (ne_of s.wat s.sat (by intro z; cases z))]; exact s.wat, s.nL, s.nW, s.ne⟩
theorem ESt.new {H0 H : Hp} {st gA La Wa t : Addr} {gas : List Addr} {Gs : List (List Int)} {lab : List (Int × Str)} {ws : List (Int × Int)} {d e : Int} {o : HO} (s : ESt H0 H st gA La Wa gas Gs lab ws d e) (h : H t = none) : ESt H0 (upd H t o) st gA La Wa gas Gs lab ws d e :=
  ⟨s.ex.trans (.upd_new h), s.gat.ex0 (.upd_new h), by rw [upd_ne (ne_of_none s.sat h)]; exact s.sat, s.d0, s.e0, s.e1, by rw [upd_ne (ne_of_none s.lat h)]; exact s.lat, by rw [upd_ne (ne_of_none s.wat h)]; exact s.wat, s.nL, s.nW, s.ne⟩
theorem ESt.putL {H0 H : Hp} {st gA La Wa : Addr} {gas : List Addr} {Gs : List (List Int)} {lab lab' : List (Int × Str)} {ws : List (Int × Int)} {d e : Int} (s : ESt H0 H st gA La Wa gas Gs lab ws d e) : ESt H0 (upd H La (dIS lab')) st gA La Wa gas Gs lab' ws d e :=
  ⟨s.ex.put_new s.nL, s.gat.outD s.lat, by rw [upd_ne (ne_of s.sat s.lat (by intro z; cases z))]; exact s.sat, s.d0, s.e0, s.e1, upd_same, by rw [upd_ne s.ne.symm]; exact s.wat, s.nL, s.nW, s.ne⟩
theorem ESt.putW {H0 H : Hp} {st gA La Wa : Addr} {gas : List Addr} {Gs : List (List Int)} {lab : List (Int × Str)} {ws ws' : List (Int × Int)} {d e : Int} (s : ESt H0 H st gA La Wa gas Gs lab ws d e) : ESt H0 (upd H Wa (dII ws')) st gA La Wa gas Gs lab ws' d e :=
  ⟨s.ex.put_new s.nW, s.gat.outD s.wat, by rw [upd_ne (ne_of s.sat s.wat (by intro z; cases z))]; exact s.sat, s.d0, s.e0, s.e1, by rw [upd_ne s.ne]; exact s.lat, upd_same, s.nL, s.nW, s.ne⟩
structure DSt (H0 H : Hp) (st Lf gA : Addr) (lf : List Int) (gas : List Addr) (Gs : List (List Int)) (d e : Int) : Prop where
  ex : Ex [st] H0 H
  lat : H Lf = some (.lst (lf.map V.int))
  gat : GrpAt H gA gas Gs
  sat : H st = some (strm d e)
  d0 : 0 ≤ d
  e0 : 0 ≤ e
  e1 : e < 2 ^ 40
  ne : gA ≠ Lf
  sl : st ≠ Lf
theorem DSt.strm {H0 H : Hp} {st Lf gA : Addr} {lf : List Int} {gas : List Addr} {Gs : List (List Int)} {d e d' e' : Int} (s : DSt H0 H st Lf gA lf gas Gs d e) (h0 : 0 ≤ d') (h1 : 0 ≤ e') (h2 : e' < 2 ^ 40) : DSt H0 (upd H st (KN.strm d' e')) st Lf gA lf gas Gs d' e' :=
  ⟨s.ex.trans (.upd_in (by simp)), by rw [upd_ne s.sl.symm]; exact s.lat, s.gat.out s.sat (ne_of s.gat.at_ s.sat fun z => strm_ne z.symm), upd_same, h0, h1, h2, s.ne, s.sl⟩
theorem DSt.new {H0 H : Hp} {st Lf gA t : Addr} {lf : List Int} {gas : List Addr} {Gs : List (List Int)} {d e : Int} {o : HO} (s : DSt H0 H st Lf gA lf gas Gs d e) (h : H t = none) : DSt H0 (upd H t o) st Lf gA lf gas Gs d e :=
  ⟨s.ex.trans (.upd_new h), by rw [upd_ne (ne_of_none s.lat h)]; exact s.lat, s.gat.ex0 (.upd_new h), by rw [upd_ne (ne_of_none s.sat h)]; exact s.sat, s.d0, s.e0, s.e1, s.ne, s.sl⟩
theorem ok_DN {f fD fC : Addr} {fd fdD fdC : FuncData} (F : Fun K "_law_drawn" "_law_drawn" sDN f fd) (FD : Fun K "_law_draw" "_law_draw" sDR fD fdD) (bD : Binds K fdD ["_law_stream_here", "_law_size"] []) (gD : mg "_law_draw" = some (.ref fD))
    (FC : Fun K "_law_choose" "_law_choose" sCH fC fdC) (bC : Binds K fdC ["_law_stream_here", "_law_items"] []) (gC : mg "_law_choose" = some (.ref fC))
    (ml : mg "list" = none) (mr : mg "range" = none) (mn : mg "len" = none) (mt : mg "tuple" = none) (ms : mg "sorted" = none) (mi : mg "int" = none) : FnOk P w K mg base CX0 3 f fd ["_law_stream_here"] spDN := by
  have GD : FnOk P w K mg base CX0 1 fD fdD ["_law_stream_here", "_law_size"] spDR := ok_DR FD
  have GC : FnOk P w K mg base CX0 2 fC fdC ["_law_stream_here", "_law_items"] spCH := ok_CH FC FD bD gD mn
  refine F.ok scDN (fun vs H Q E h => ?_) (fun cdv A outer s H vs Q E hr h => ?_)
  · obtain ⟨st, d, e, rfl, _⟩ := h
    rfl
  · obtain ⟨st, d, e, rfl, hst, d0, e0, e1, q⟩ := h
    have hu := hu_of hr
    have nd := scDN.nd
    have h1 : Room 1 (A.deeper (envOfC "_law_drawn" (defScope sDN) s.heap.objs.size f cdv)) := hr.mono (by decide)
    refine ⟨_, pss_cons (ps_par (i := 1) (j := 2) rfl nd rfl rfl (by decide) rfl rfl (pa_cons (pe_listRg rfl (by rfl) ml (prg_2 (by rfl) mr pe_int pe_int)) (pa_cons (pe_lst pa_nil) pa_nil)) rfl)
      (pss_cons (ps_for PassesOwn.never rfl (pi_range1 (by rfl) mr (pa_cons (pe_call GD (hr.mono (by decide)) (by rfl) gD FD.kp bD .nil pass0 (pa_cons (pv 0) (pa_cons pe_int pa_nil))) pa_nil)) (pg_name (i := 3) nd rfl (.inl rfl))
        (pss_cons (ps_set (i := 4) nd rfl (.inl rfl) (pe_lst pa_nil))
        (pss_cons (ps_for PassesOwn.never rfl (pi_range1 (by rfl) mr (pa_cons (pe_op op_add pe_int (pe_call GD (hr.mono (by decide)) (by rfl) gD FD.kp bD .nil pass0 (pa_cons (pv 0) (pa_cons pe_int pa_nil)))) pa_nil)) (pg_name (i := 5) nd rfl (.inl rfl))
          (pss_one (ps_if (pt_cmpR (op_neD hr.units) (pv 1) (pe_lst pa_nil) (nomark _))
            (pss_one (ps_expr (pe_bm PySem.F.plainAttrs_list PySem.F.slot_list_append PySem.F.type_list_append mt_append (pv 4) (pa_cons
              (pe_bm PySem.F.plainAttrs_list PySem.F.slot_list_pop PySem.F.type_list_pop mt_popAt (pv 1) (pa_cons (pe_call GD (hr.mono (by decide)) (by rfl) gD FD.kp bD .nil pass0 (pa_cons (pv 0) (pa_cons (pe_callB call_len_seq (by rfl) mn PySem.boot_len (pa_cons (pv 1) pa_nil)) pa_nil))) pa_nil)) pa_nil)))) pss_nil)))
        (pss_one (ps_set (i := 2) nd rfl (.inl rfl) (pe_op op_cat (pv 2) (pe_op op_rep (pe_lst (pa_cons (pe_callTy call_tuple_of (by rfl) mt PyProof.Rows.boot_tuple (pa_cons (pe_callB cr_sorted (by rfl) ms PyProof.Rows.boot_sorted (pa_cons (pv 4) pa_nil)) pa_nil)) pa_nil))
          (pe_callTy call_int1 (by rfl) mi PyProof.Rows.boot_int (pa_cons (pe_cmpR (op_neD hr.units) (pv 4) (pe_lst pa_nil) (nomark _)) pa_nil))))))))) 
      (pss_cons (ps_par (i := 6) (j := 7) rfl nd rfl rfl (by decide) rfl rfl (pa_cons pe_dnewK (pa_cons pe_dnewK pa_nil)) rfl)
      (pss_cons (ps_for PassesOwn.never rfl (pi_range2 (by rfl) mr (pa_cons pe_int (pa_cons pe_int pa_nil))) (pg_name (i := 8) nd rfl (.inl rfl))
        (pss_cons (ps_cut (ps_if (pt_cmpR op_gt (pe_call GD (hr.mono (by decide)) (by rfl) gD FD.kp bD .nil pass0 (pa_cons (pv 0) (pa_cons pe_int pa_nil))) pe_int (nomark _))
          (pss_one (ps_dput hu (pv 6) (pv 8) (pe_call GC hr (by rfl) gC FC.kp bC .nil pass0 (pa_cons (pv 0) (pa_cons (pe_lst (pa_cons pe_str (pa_cons pe_str (pa_cons pe_str (pa_cons pe_str pa_nil))))) pa_nil))) rfl)) pss_nil))
        (pss_one (ps_dput hu (pv 7) (pv 8) (pe_call GC hr (by rfl) gC FC.kp bC .nil pass0 (pa_cons (pv 0) (pa_cons (pe_lst (pa_cons pe_int (pa_cons pe_int (pa_cons pe_int (pa_cons pe_int (pa_cons (pe_op op_add pe_int (pe_call GD (hr.mono (by decide)) (by rfl) gD FD.kp bD .nil pass0 (pa_cons (pv 0) (pa_cons pe_int pa_nil)))) (pa_cons (pe_op op_pow pe_int pe_int) pa_nil))))))) pa_nil))) rfl))))
      (pss_cons (ps_set (i := 9) nd rfl (.inl rfl) pe_dnewK)
      (pss_cons (ps_for PassesOwn.never rfl (pi_list (pe_lst (pa_cons pe_str (pa_cons pe_str (pa_cons pe_str (pa_cons pe_str (pa_cons pe_str pa_nil))))))) (pg_name (i := 10) nd rfl (.inl rfl))
        (pss_one (ps_if (pt_cmpR op_eq (pe_call GD (hr.mono (by decide)) (by rfl) gD FD.kp bD .nil pass0 (pa_cons (pv 0) (pa_cons pe_int pa_nil))) pe_int (nomark _))
          (pss_one (ps_dput hu (pv 9) (pv 10) (pe_op op_add pe_int (pe_call GD (hr.mono (by decide)) (by rfl) gD FD.kp bD .nil pass0 (pa_cons (pv 0) (pa_cons pe_int pa_nil)))) rfl)) pss_nil)))
      (pss_one (ps_ret (pe_tup (pa_cons (pv 2) (pa_cons (pv 6) (pa_cons (pv 7) (pa_cons (pv 9) pa_nil)))))))))))), ?_⟩
    refine ⟨1, 10, rfl, rfl, by refine ⟨?_, ?_, ?_, ?_, ?_⟩ <;> decide, fun Lf hLf => ?_⟩
    refine ⟨by show 0 ≤ sizeLine; decide, fun Ga hGa => ?_⟩
    have hGL : Ga ≠ Lf := fun z => by rw [z, upd_same] at hGa; cases hGa
    have hsL : st ≠ Lf := ne_of_none hst hLf
    have hsG : st ≠ Ga := fun z => by rw [← z, upd_ne hsL, hst] at hGa; cases hGa
    refine ⟨_, _, rfl, ?_⟩
    have s0 : DSt H (upd (upd H Lf (.lst (rgV 1 10))) Ga (.lst [])) st Lf Ga nine [] [] d e := by
      refine ⟨(Ex.upd_new hLf).trans (.upd_new hGa), ?_, ⟨upd_same, rfl, by simp⟩, ?_, d0, e0, e1, hGL, hsL⟩
      · rw [upd_ne hGL.symm, upd_same, rg9]
      · rw [upd_ne hsG, upd_ne hsL]; exact hst
    generalize upd (upd H Lf (.lst (rgV 1 10))) Ga (.lst []) = H1 at s0
    refine ⟨.ref st, rfl, st, 5, d, e, rfl, s0.sat, d0, e0, e1, by decide, by decide, fun d1 e1' r hd1 he1 he1' hr0 hr1 => ?_⟩
    refine ⟨r, rfl, by omega, by omega, for_range (fun i σ H' => ∃ (lf : List Int) (gA : Addr) (gas : List Addr) (Gs : List (List Int)) (d e : Int) (v3 v4 v5 v6 v7 v8 v9 v10 : Option V), σ = [some (.ref st), some (.ref Lf), some (.ref gA), v3, v4, v5, v6, v7, v8, v9, v10] ∧ DSt H H' st Lf gA lf gas Gs d e ∧ (lf ++ Gs.flatten).Perm nine ∧ Gs.length ≤ i)
      ⟨nine, Ga, [], [], d1, e1', _, _, _, _, _, _, _, _, rfl, s0.strm hd1 he1 he1', by simp, by simp⟩ ?_ ?_⟩
    · rintro i σ H2 hi ⟨lf, gA, gas, Gs, d2, e2, v3, v4, v5, v6, v7, v8, v9, v10, rfl, s2, pm, lG⟩
      refine ⟨by show 0 ≤ sizeLine; decide, fun Gr hGr => ?_⟩
      have s3 : DSt H (upd H2 Gr (.lst [])) st Lf gA lf gas Gs d2 e2 := s2.new hGr
      have hGrH : H Gr = none := s2.ex.free hGr (by simpa using (ne_of_none s2.sat hGr).symm)
      have hGrL : Gr ≠ Lf := (ne_of_none s2.lat hGr).symm
      have hGrG : Gr ≠ gA := (ne_of_none s2.gat.at_ hGr).symm
      have hGrS : Gr ≠ st := (ne_of_none s2.sat hGr).symm
      have hG3 : upd H2 Gr (.lst []) Gr = some (.lst (([] : List Int).map V.int)) := upd_same
      generalize upd H2 Gr (.lst []) = H3 at s3 hG3
      refine ⟨.ref st, rfl, st, 3, d2, e2, rfl, s3.sat, s3.d0, s3.e0, s3.e1, by decide, by decide, fun d4 e4 rm hd4 he4 he4' hm0 hm1 => ?_⟩
      refine ⟨_, _, rfl, rfl, 1 + rm, rfl, by omega, by omega, for_range (fun j σ H' => ∃ (lf : List Int) (grp : List Int) (d e : Int) (v3 v5 v6 v7 v8 v9 v10 : Option V), σ = [some (.ref st), some (.ref Lf), some (.ref gA), v3, some (.ref Gr), v5, v6, v7, v8, v9, v10] ∧ DSt H H' st Lf gA lf gas Gs d e ∧ H' Gr = some (.lst (grp.map V.int)) ∧ (lf ++ Gs.flatten ++ grp).Perm nine)
        ⟨lf, [], d4, e4, _, _, _, _, _, _, _, rfl, s3.strm hd4 he4 he4', by rw [upd_ne hGrS]; exact hG3, by simpa using pm⟩ ?_ ?_⟩
      · rintro j σ H4 hj ⟨lf, grp, d5, e5, v3, v5, v6, v7, v8, v9, v10, rfl, s4, hG4, pm4⟩
        obtain ⟨p1, p2, p3⟩ := perm9 pm4
        simp only [List.length_append] at p3
        refine ⟨.ref Lf, rfl, by show 0 ≤ sizeLine; decide, fun E hE => ?_⟩
        have s5 : DSt H (upd H4 E (.lst [])) st Lf gA lf gas Gs d5 e5 := s4.new hE
        have hG5 : upd H4 E (.lst []) Gr = some (.lst (grp.map V.int)) := by rw [upd_ne (ne_of_none hG4 hE)]; exact hG4
        have hE5 : upd H4 E (.lst []) E = some (.lst []) := upd_same
        generalize upd H4 E (.lst []) = H5 at s5 hG5 hE5
        refine ⟨.list (lf.map PyData.int), .list [], .lst (SqL.of s5.lat) (dp_ints lf), .lst (SqL.of hE5) .nil, PySem.W.ke_shaped_ints lf, PySem.W.ke_shaped_ints [], _, rfl, ?_⟩
        rw [eqv_nil]
        cases hemp : lf.isEmpty with
        | true => exact goF rfl ⟨lf, grp, d5, e5, _, _, _, _, _, _, _, rfl, s5, hG5, pm4⟩
        | false =>
          refine goT rfl ?_
          have lpos : 0 < lf.length := by
            cases lf with
            | nil => cases hemp
            | cons _ _ => simp
          refine ⟨.ref Gr, rfl, .inl ⟨rfl, _, SqL.of hG5⟩, .ref Lf, rfl, .inl ⟨rfl, _, SqL.of s5.lat⟩, ?_⟩
          refine ⟨.ref st, rfl, .ref Lf, rfl, Lf, _, rfl, .inl (SqL.of s5.lat), st, _, d5, e5, rfl, s5.sat, s5.d0, s5.e0, s5.e1, by rw [List.length_map]; omega, by rw [List.length_map]; omega, fun d6 e6 rk hd6 he6 he6' rk0 rk1 => ?_⟩
          rw [List.length_map] at rk1
          obtain ⟨k0, rfl⟩ := Int.eq_ofNat_of_zero_le rk0
          obtain ⟨x, hx⟩ : ∃ x, lf[k0]? = some x := ⟨_, List.getElem?_eq_getElem (by omega)⟩
          have gx : (lf.map V.int)[k0]? = some (.int x) := by rw [List.getElem?_map, hx]; rfl
          obtain ⟨k, hk1, hk2, hk3, _, _⟩ := atI_get (atI_nat gx)
          obtain ⟨x', hx', ex'⟩ := get_map hk2
          cases ex'
          have s6 := s5.strm hd6 he6 he6'
          have hG6 : upd H5 st (KN.strm d6 e6) Gr = some (.lst (grp.map V.int)) := by rw [upd_ne hGrS]; exact hG5
          generalize upd H5 st (KN.strm d6 e6) = H6 at s6 hG6
          refine ⟨Lf, _, _, k, _, rfl, rfl, s6.lat, by omega, by omega, hk1, hk2, ?_⟩
          rw [map_erase]
          have s7 : DSt H (upd H6 Lf (.lst ((lf.eraseIdx k).map V.int))) st Lf gA (lf.eraseIdx k) gas Gs d6 e6 := ⟨s6.ex.put_new hLf, upd_same, s6.gat.out s6.lat s6.ne, by rw [upd_ne hsL]; exact s6.sat, hd6, he6, he6', s6.ne, hsL⟩
          have hG7 : upd H6 Lf (.lst ((lf.eraseIdx k).map V.int)) Gr = some (.lst (grp.map V.int)) := by rw [upd_ne hGrL]; exact hG6
          generalize upd H6 Lf (.lst ((lf.eraseIdx k).map V.int)) = H7 at s7 hG7
          refine ⟨Gr, _, _, rfl, rfl, hG7, small1000 (by rw [List.length_map]; omega), ?_⟩
          have e9 : grp.map V.int ++ [V.int x] = (grp ++ [x]).map V.int := by simp
          rw [e9]
          exact ⟨lf.eraseIdx k, grp ++ [x], d6, e6, _, _, _, _, _, _, _, rfl, ⟨s7.ex.put_new hGrH, by rw [upd_ne hGrL.symm]; exact s7.lat, s7.gat.out hG7 hGrG.symm, by rw [upd_ne hGrS.symm]; exact s7.sat, hd6, he6, he6', s7.ne, hsL⟩, upd_same, (pop_perm hx' _ _).trans pm4⟩
      · rintro σ H4 ⟨lf, grp, d5, e5, v3, v5, v6, v7, v8, v9, v10, rfl, s4, hG4, pm4⟩
        obtain ⟨p1, p2, p3⟩ := perm9 pm4
        simp only [List.length_append] at p3
        -- the group as a tuple, in a list, once or not at all
        refine ⟨.ref gA, rfl, .ref Gr, rfl, Gr, grp, rfl, SqL.of hG4, by omega, fun ns sl pn _ hsl => ?_⟩
        have s5 : DSt H (upd H4 sl (.lst (ns.map V.int))) st Lf gA lf gas Gs d5 e5 := s4.new hsl
        have hG5 : upd H4 sl (.lst (ns.map V.int)) Gr = some (.lst (grp.map V.int)) := by rw [upd_ne (ne_of_none hG4 hsl)]; exact hG4
        refine ⟨sl, _, rfl, .inl ⟨SqL.of upd_same, fun tl htl => ?_⟩⟩
        generalize upd H4 sl (.lst (ns.map V.int)) = H5 at s5 hG5 htl
        have s6 : DSt H (upd H5 tl (.tup (ns.map V.int))) st Lf gA lf gas Gs d5 e5 := s5.new htl
        have hG6 : upd H5 tl (.tup (ns.map V.int)) Gr = some (.lst (grp.map V.int)) := by rw [upd_ne (ne_of_none hG5 htl)]; exact hG5
        have ht6 : upd H5 tl (.tup (ns.map V.int)) tl = some (.tup (ns.map V.int)) := upd_same
        generalize upd H5 tl (.tup (ns.map V.int)) = H6 at s6 hG6 ht6
        refine ⟨by show 1 ≤ sizeLine; decide, fun ol hol => ?_⟩
        have s7 : DSt H (upd H6 ol (.lst [.ref tl])) st Lf gA lf gas Gs d5 e5 := s6.new hol
        have hG7 : upd H6 ol (.lst [.ref tl]) Gr = some (.lst (grp.map V.int)) := by rw [upd_ne (ne_of_none hG6 hol)]; exact hG6
        have ht7 : upd H6 ol (.lst [.ref tl]) tl = some (.tup (ns.map V.int)) := by rw [upd_ne (ne_of_none ht6 hol)]; exact ht6
        have ho7 : upd H6 ol (.lst [.ref tl]) ol = some (.lst [.ref tl]) := upd_same
        generalize upd H6 ol (.lst [.ref tl]) = H7 at s7 hG7 ht7 ho7
        refine ⟨.ref Gr, rfl, by show 0 ≤ sizeLine; decide, fun E hE => ?_⟩
        have s8 : DSt H (upd H7 E (.lst [])) st Lf gA lf gas Gs d5 e5 := s7.new hE
        have hG8 : upd H7 E (.lst []) Gr = some (.lst (grp.map V.int)) := by rw [upd_ne (ne_of_none hG7 hE)]; exact hG7
        have ht8 : upd H7 E (.lst []) tl = some (.tup (ns.map V.int)) := by rw [upd_ne (ne_of_none ht7 hE)]; exact ht7
        have ho8 : upd H7 E (.lst []) ol = some (.lst [.ref tl]) := by rw [upd_ne (ne_of_none ho7 hE)]; exact ho7
        have hE8 : upd H7 E (.lst []) E = some (.lst []) := upd_same
        generalize upd H7 E (.lst []) = H8 at s8 hG8 ht8 ho8 hE8
        refine ⟨.list (grp.map PyData.int), .list [], .lst (SqL.of hG8) (dp_ints grp), .lst (SqL.of hE8) .nil, PySem.W.ke_shaped_ints grp, PySem.W.ke_shaped_ints [], ?_⟩
        rw [eqv_nil]
        refine .inr ⟨_, rfl, ?_⟩
        have hcat : ∀ (n : Nat) (p : Addr), n ≤ 1 → H8 p = none → ∀ q', upd H8 p (.lst (List.replicate n [V.ref tl]).flatten) q' = none → ∃ gas' Gs', GrpAt (upd (upd H8 p (.lst (List.replicate n [V.ref tl]).flatten)) q' (.lst (gas.map V.ref ++ (List.replicate n [V.ref tl]).flatten))) q' gas' Gs' ∧ (n = 0 → Gs' = Gs) ∧ (n = 1 → Gs' = Gs ++ [ns]) := fun n p hn hp q' hq' => by
          have x1 : Ex [] H8 (upd H8 p (.lst (List.replicate n [V.ref tl]).flatten)) := .upd_new hp
          have x2 : Ex [] (upd H8 p (.lst (List.replicate n [V.ref tl]).flatten)) (upd (upd H8 p (.lst (List.replicate n [V.ref tl]).flatten)) q' (.lst (gas.map V.ref ++ (List.replicate n [V.ref tl]).flatten))) := .upd_new hq'
          have g8 := (s8.gat.ex0 x1).ex0 x2
          have t8 := (x1.trans x2) tl _ ht8 (by simp)
          rcases Nat.le_one_iff_eq_zero_or_eq_one.mp hn with rfl | rfl
          · exact ⟨gas, Gs, ⟨by rw [upd_same]; simp, g8.len, g8.each⟩, fun _ => rfl, fun h => by cases h⟩
          · refine ⟨gas ++ [tl], Gs ++ [ns], ⟨by rw [upd_same]; simp, by simp [g8.len], fun k t a h1 h2 => ?_⟩, fun h => absurd h (by decide), fun _ => rfl⟩
            have hll := g8.len
            by_cases hk : k < gas.length
            · rw [List.getElem?_append_left hk] at h1
              rw [List.getElem?_append_left (by omega)] at h2
              exact g8.each k t a h1 h2
            · rw [List.getElem?_append_right (by omega)] at h1 h2
              have hk0 : k - gas.length = 0 := by
                have := (List.getElem?_eq_some_iff.mp h1).1
                simp at this
                omega
              rw [hk0] at h1
              rw [show k - Gs.length = 0 by omega] at h2
              cases h1
              cases h2
              exact t8
        have lgas : gas.length ≤ 4 := by have := s8.gat.len; omega
        have fin : ∀ (n : Nat) (p : Addr), n ≤ 1 → (n = 0 → grp = []) → H8 p = none → ∀ q', upd H8 p (.lst (List.replicate n [V.ref tl]).flatten) q' = none →
            ∃ (gas' : List Addr) (Gs' : List (List Int)), DSt H (upd (upd H8 p (.lst (List.replicate n [V.ref tl]).flatten)) q' (.lst (gas.map V.ref ++ (List.replicate n [V.ref tl]).flatten))) st Lf q' lf gas' Gs' d5 e5 ∧ (lf ++ Gs'.flatten).Perm nine ∧ Gs'.length ≤ i + 1 := fun n p hn hz hp q' hq' => by
          obtain ⟨gas', Gs', g9, z0, z1⟩ := hcat n p hn hp q' hq'
          have s9 := (s8.new (o := .lst (List.replicate n [V.ref tl]).flatten) hp).new (o := .lst (gas.map V.ref ++ (List.replicate n [V.ref tl]).flatten)) hq'
          have nq : q' ≠ Lf := by
            have h9 := (s8.new (o := .lst (List.replicate n [V.ref tl]).flatten) hp).lat
            exact (ne_of_none h9 hq').symm
          refine ⟨gas', Gs', ⟨s9.ex, s9.lat, g9, s9.sat, s9.d0, s9.e0, s9.e1, nq, s9.sl⟩, ?_, ?_⟩
          · rcases Nat.le_one_iff_eq_zero_or_eq_one.mp hn with rfl | rfl
            · rw [z0 rfl]
              rw [hz rfl] at pm4
              simpa using pm4
            · rw [z1 rfl]
              have : (lf ++ (Gs ++ [ns]).flatten).Perm (lf ++ Gs.flatten ++ grp) := by
                simp only [List.flatten_append, List.flatten_cons, List.flatten_nil, List.append_nil, List.append_assoc]
                exact List.Perm.append_left _ (List.Perm.append_left _ pn)
              exact this.trans pm4
          · rcases Nat.le_one_iff_eq_zero_or_eq_one.mp hn with rfl | rfl
            · rw [z0 rfl]; omega
            · rw [z1 rfl]; simp; omega
        cases hemp : grp.isEmpty with
        | true =>
          have hz : grp = [] := by
            cases grp with
            | nil => rfl
            | cons _ _ => cases hemp
          refine ⟨ol, 0, _, rfl, rfl, ho8, by decide, by decide, by simp, fun p hp => ?_⟩
          refine ⟨gA, p, _, _, rfl, rfl, (Ex.upd_new (l := []) hp) gA _ s8.gat.at_ (by simp), upd_same, size1000 (by simp; omega), fun q' hq' => ?_⟩
          obtain ⟨gas', Gs', s9, pm9, l9⟩ := fin 0 p (by omega) (fun _ => hz) hp q' hq'
          exact ⟨lf, q', gas', Gs', d5, e5, _, _, _, _, _, _, _, _, rfl, s9, pm9, l9⟩
        | false =>
          refine ⟨ol, 1, _, rfl, rfl, ho8, by decide, by decide, by show 1 ≤ sizeLine; decide, fun p hp => ?_⟩
          refine ⟨gA, p, _, _, rfl, rfl, (Ex.upd_new (l := []) hp) gA _ s8.gat.at_ (by simp), upd_same, size1000 (by simp; omega), fun q' hq' => ?_⟩
          obtain ⟨gas', Gs', s9, pm9, l9⟩ := fin 1 p (by omega) (fun h => by cases h) hp q' hq'
          exact ⟨lf, q', gas', Gs', d5, e5, _, _, _, _, _, _, _, _, rfl, s9, pm9, l9⟩
    · rintro σ H2 ⟨lf, gA, gas, Gs, d2, e2, v3, v4, v5, v6, v7, v8, v9, v10, rfl, s2, pm, lG⟩
      obtain ⟨p1, p2, p3⟩ := perm9 pm
      obtain ⟨_, q1, _⟩ := List.nodup_append.mp p1
      have q2 : ∀ x ∈ Gs.flatten, 1 ≤ x ∧ x ≤ 9 := fun x hx => p2 x (List.mem_append_right _ hx)
      have q3 : Gs.flatten.length ≤ 9 := by simp only [List.length_append] at p3; omega
      have lG4 : Gs.length ≤ 4 := by omega
      intro La hLa Wa hWa
      have hWL : Wa ≠ La := fun z => by rw [z, upd_same] at hWa; cases hWa
      refine ⟨_, _, rfl, ?_⟩
      have hLS : La ≠ st := (ne_of_none s2.sat hLa).symm
      have hW2 : H2 Wa = none := by rw [upd_ne hWL] at hWa; exact hWa
      have hWS : Wa ≠ st := (ne_of_none s2.sat hW2).symm
      have s4 := (s2.new (o := .dK []) hLa).new (o := .dK []) hWa
      have t0 : ESt H (upd (upd H2 La (.dK [])) Wa (.dK [])) st gA La Wa gas Gs [] [] d2 e2 :=
        ⟨s4.ex, s4.gat, s4.sat, s4.d0, s4.e0, s4.e1, by rw [upd_ne hWL.symm, upd_same]; rfl, upd_same, s2.ex.free hLa (by simpa using hLS), s2.ex.free hW2 (by simpa using hWS), hWL.symm⟩
      generalize upd (upd H2 La (.dK [])) Wa (.dK []) = H3 at t0
      refine ⟨1, 10, rfl, by decide, for_range (lo := 1) (n := 9) (fun i σ H' => ∃ (lab : List (Int × Str)) (ws : List (Int × Int)) (d e : Int) (v3 v4 v5 v8 v9 v10 : Option V), σ = [some (.ref st), some (.ref Lf), some (.ref gA), v3, v4, v5, some (.ref La), some (.ref Wa), v8, v9, v10] ∧ ESt H H' st gA La Wa gas Gs lab ws d e ∧
        (keys lab).Nodup ∧ lab.length ≤ i ∧ (∀ x n, look lab x = some n → PyData.strOk n = true) ∧ (keys ws).Nodup ∧ ws.length ≤ i ∧ (∀ x : Int, 1 ≤ x → x ≤ i → x ∈ keys ws) ∧ ∀ x, 0 ≤ at0 ws x)
        ⟨[], [], d2, e2, _, _, _, _, _, _, rfl, t0, by simp, by simp, by simp [look], by simp, by simp, fun x h1 h2 => by omega, by simp [at0, look]⟩ ?_ ?_⟩
      · rintro i σ H4 hi ⟨lab, ws, d4, e4, v3, v4, v5, v8, v9, v10, rfl, t4, nl, ll, ol, nw, lw, iw, pw⟩
        refine ⟨fun σ' H' => ∃ (lab : List (Int × Str)) (d e : Int), σ' = [some (.ref st), some (.ref Lf), some (.ref gA), v3, v4, v5, some (.ref La), some (.ref Wa), some (.int (1 + (i : Int))), v9, v10] ∧ ESt H H' st gA La Wa gas Gs lab ws d e ∧ (keys lab).Nodup ∧ lab.length ≤ i + 1 ∧ (∀ x n, look lab x = some n → PyData.strOk n = true), ?_, ?_⟩
        · refine ⟨.ref st, rfl, st, 4, d4, e4, rfl, t4.sat, t4.d0, t4.e0, t4.e1, by decide, by decide, fun d5 e5 r5 hd5 he5 he5' _ _ => ?_⟩
          have t5 := t4.strm hd5 he5 he5'
          generalize upd H4 st (KN.strm d5 e5) = H5 at t5
          refine ⟨_, _, rfl, rfl, _, rfl, ite2 (fun _ => ?_) (fun _ => ?_)⟩
          · refine ⟨.ref st, rfl, by show 4 ≤ sizeLine; decide, fun l hl => ?_⟩
            have t6 := t5.new (o := .lst [.str "b", .str "ab", .str "red", .str "zz"]) hl
            refine ⟨st, l, _, d5, e5, rfl, t6.sat, hd5, he5, he5', upd_same, (ne_of_none t5.sat hl).symm, by simp, by simp, fun d7 e7 k y hd7 he7 he7' hy => ?_⟩
            have t7 := t6.strm hd7 he7 he7'
            obtain ⟨nm, rfl, hnm⟩ : ∃ nm, y = V.str nm ∧ PyData.strOk nm = true := by
              have hm := List.mem_of_getElem? hy
              simp only [List.mem_cons, List.not_mem_nil, or_false] at hm
              rcases hm with rfl | rfl | rfl | rfl
              · exact ⟨_, rfl, by decide +kernel⟩
              · exact ⟨_, rfl, by decide +kernel⟩
              · exact ⟨_, rfl, by decide +kernel⟩
              · exact ⟨_, rfl, by decide +kernel⟩
            refine ⟨.ref La, rfl, _, rfl, La, _, rfl, put_I (v := nm) t7.lat nl (size1000 (by omega)) rfl, ?_⟩
            refine ⟨put lab (1 + (i : Int)) nm, d7, e7, rfl, t7.putL, nodup_put nl, Nat.le_trans put_length (by omega), fun x n hx => ?_⟩
            rw [look_put] at hx
            by_cases e : x = 1 + (i : Int)
            · rw [if_pos e] at hx; cases hx; exact hnm
            · rw [if_neg e] at hx; exact ol x n hx
          · exact ⟨lab, d5, e5, rfl, t5, nl, by omega, ol⟩
        · rintro σ' H5 ⟨lab', d5, e5, rfl, t5, nl', ll', ol'⟩
          refine ⟨.ref st, rfl, .ref st, rfl, st, 9, d5, e5, rfl, t5.sat, t5.d0, t5.e0, t5.e1, by decide, by decide, fun d6 e6 r6 hd6 he6 he6' hr6 _ => ?_⟩
          have t6 := t5.strm hd6 he6 he6'
          generalize upd H5 st (KN.strm d6 e6) = H6 at t6
          refine ⟨_, _, rfl, rfl, 10, 6, rfl, rfl, ⟨by decide, by decide, by decide⟩, by show 6 ≤ sizeLine; decide, fun l hl => ?_⟩
          have t7 := t6.new (o := .lst [.int 1, .int 1, .int 2, .int 3, .int (1 + r6), .int (10 ^ (6 : Int).toNat)]) hl
          refine ⟨st, l, _, d6, e6, rfl, t7.sat, hd6, he6, he6', upd_same, (ne_of_none t6.sat hl).symm, by simp, by simp, fun d8 e8 k y hd8 he8 he8' hy => ?_⟩
          have t8 := t7.strm hd8 he8 he8'
          obtain ⟨v, rfl, hv⟩ : ∃ v : Int, y = V.int v ∧ 0 ≤ v := by
            have hm := List.mem_of_getElem? hy
            simp only [List.mem_cons, List.not_mem_nil, or_false] at hm
            rcases hm with rfl | rfl | rfl | rfl | rfl | rfl
            · exact ⟨_, rfl, by decide⟩
            · exact ⟨_, rfl, by decide⟩
            · exact ⟨_, rfl, by decide⟩
            · exact ⟨_, rfl, by decide⟩
            · exact ⟨_, rfl, by omega⟩
            · exact ⟨_, rfl, by decide⟩
          refine ⟨.ref Wa, rfl, _, rfl, Wa, _, rfl, put_I (v := v) t8.wat nw (size1000 (by omega)) rfl, ?_⟩
          refine ⟨lab', put ws (1 + (i : Int)) v, d8, e8, _, _, _, _, _, _, rfl, t8.putW, nl', ll', ol', nodup_put nw, Nat.le_trans put_length (by omega), fun x h1 h2 => ?_, fun x => ?_⟩
          · by_cases e : x = 1 + (i : Int)
            · exact mem_keys_put.mpr (.inl e)
            · exact mem_keys_put.mpr (.inr (iw x h1 (by omega)))
          · rw [at0_put]
            show 0 ≤ if x = 1 + (i : Int) then v else at0 ws x
            split
            · exact hv
            · exact pw x
      · rintro σ H4 ⟨lab, ws, d4, e4, v3, v4, v5, v8, v9, v10, rfl, t4, nl, ll, ol, nw, lw, iw, pw⟩
        intro Sk hSk
        have hSL : Sk ≠ La := (ne_of_none t4.lat hSk).symm
        have hSW : Sk ≠ Wa := (ne_of_none t4.wat hSk).symm
        have hSS : Sk ≠ st := (ne_of_none t4.sat hSk).symm
        have hSH : H Sk = none := t4.ex.free hSk (by simpa using hSS)
        have t5 := t4.new (o := .dK []) hSk
        have hS5 : upd H4 Sk (.dK []) Sk = some (dSI []) := upd_same
        generalize upd H4 Sk (.dK []) = H5 at t5 hS5
        refine ⟨by show 5 ≤ sizeLine; decide, fun l hl => ?_⟩
        have t6 := t5.new (o := .lst [.str "red", .str "ab", .str "b", .str "zz", .str "new"]) hl
        have hS6 : upd H5 l (.lst [.str "red", .str "ab", .str "b", .str "zz", .str "new"]) Sk = some (dSI []) := by rw [upd_ne (ne_of_none hS5 hl)]; exact hS5
        have hl6 : upd H5 l (.lst [.str "red", .str "ab", .str "b", .str "zz", .str "new"]) l = some (.lst [.str "red", .str "ab", .str "b", .str "zz", .str "new"]) := upd_same
        have hlS : l ≠ Sk := (ne_of_none hS5 hl).symm
        have hls : l ≠ st := (ne_of_none t5.sat hl).symm
        refine ⟨l, rfl, ⟨_, SqL.of hl6⟩, for_list (K := K) (a := l) (xs := [.str "red", .str "ab", .str "b", .str "zz", .str "new"]) (fun i σ H' => ∃ (sk : List (Str × Int)) (d e : Int) (v3 v4 v5 v8 v10 : Option V), σ = [some (.ref st), some (.ref Lf), some (.ref gA), v3, v4, v5, some (.ref La), some (.ref Wa), v8, some (.ref Sk), v10] ∧ ESt H H' st gA La Wa gas Gs lab ws d e ∧
          H' Sk = some (dSI sk) ∧ (keys sk).Nodup ∧ sk.length ≤ i ∧ H' l = some (.lst [.str "red", .str "ab", .str "b", .str "zz", .str "new"])) ⟨[], d4, e4, _, _, _, _, _, rfl, t6, hS6, by simp, by simp, hl6⟩ ?_ ?_ ?_⟩
        · rintro i σ H' hi ⟨sk, d, e, v3, v4, v5, v8, v10, rfl, t7, hS7, nk, lk, hl7⟩
          exact SqL.of hl7
        · rintro i y σ H7 hi ⟨sk, d7, e7, v3, v4, v5, v8, v10, rfl, t7, hS7, nk, lk, hl7⟩
          obtain ⟨nm, rfl⟩ : ∃ nm, y = V.str nm := by
            have hm := List.mem_of_getElem? hi
            simp only [List.mem_cons, List.not_mem_nil, or_false] at hm
            rcases hm with rfl | rfl | rfl | rfl | rfl <;> exact ⟨_, rfl⟩
          have hi5 : i < 5 := by
            have := (List.getElem?_eq_some_iff.mp hi).1
            simpa using this
          refine ⟨.ref st, rfl, st, 3, d7, e7, rfl, t7.sat, t7.d0, t7.e0, t7.e1, by decide, by decide, fun d8 e8 r8 hd8 he8 he8' _ _ => ?_⟩
          have t8 := t7.strm hd8 he8 he8'
          have hS8 : upd H7 st (KN.strm d8 e8) Sk = some (dSI sk) := by rw [upd_ne hSS]; exact hS7
          have hl8 : upd H7 st (KN.strm d8 e8) l = some (.lst [.str "red", .str "ab", .str "b", .str "zz", .str "new"]) := by rw [upd_ne hls]; exact hl7
          generalize upd H7 st (KN.strm d8 e8) = H8 at t8 hS8 hl8
          refine ⟨rfl, _, rfl, ite2 (fun _ => ?_) (fun _ => ?_)⟩
          · refine ⟨.ref st, rfl, st, 12, d8, e8, rfl, t8.sat, hd8, he8, he8', by decide, by decide, fun d9 e9 r9 hd9 he9 he9' _ _ => ?_⟩
            have t9 := t8.strm hd9 he9 he9'
            have hS9 : upd H8 st (KN.strm d9 e9) Sk = some (dSI sk) := by rw [upd_ne hSS]; exact hS8
            have hl9 : upd H8 st (KN.strm d9 e9) l = some (.lst [.str "red", .str "ab", .str "b", .str "zz", .str "new"]) := by rw [upd_ne hls]; exact hl8
            generalize upd H8 st (KN.strm d9 e9) = H9 at t9 hS9 hl9
            refine ⟨_, _, rfl, rfl, .ref Sk, rfl, _, rfl, Sk, _, rfl, put_S (v := 1 + r9) hS9 nk (size1000 (by omega)) rfl, ?_⟩
            refine ⟨put sk nm (1 + r9), d9, e9, _, _, _, _, _, rfl, ⟨t9.ex.put_new hSH, t9.gat.outD hS9, by rw [upd_ne hSS.symm]; exact t9.sat, hd9, he9, he9', by rw [upd_ne hSL.symm]; exact t9.lat, by rw [upd_ne hSW.symm]; exact t9.wat, t9.nL, t9.nW, t9.ne⟩, upd_same, nodup_put nk, Nat.le_trans put_length (by omega), by rw [upd_ne hlS]; exact hl9⟩
          · exact ⟨sk, d8, e8, _, _, _, _, _, rfl, t8, hS8, nk, by omega, hl8⟩
        · rintro σ H7 ⟨sk, d7, e7, v3, v4, v5, v8, v10, rfl, t7, hS7, nk, lk, hl7⟩
          refine ⟨_, rfl, _, rfl, _, rfl, _, rfl, by show 4 ≤ sizeLine; decide, fun T hT => ?_⟩
          have t8 := t7.new (o := .tup [.ref gA, .ref La, .ref Wa, .ref Sk]) hT
          exact q T gA La Wa Sk gas Gs lab ws d7 e7 _ t8.ex upd_same t8.gat t8.lat t8.wat t8.sat t8.d0 t8.e0 t8.e1 lG4 q1 q2 q3 nw (by omega) (fun x h1 h2 => iw x h1 (by omega)) pw ol
end
end KN

namespace KN
open PySem
theorem sumf_perm {α : Type} (f : α → Int) {l l' : List α} (h : l.Perm l') : sumf f l = sumf f l' := by
  induction h with
  | nil => rfl
  | cons x _ ih => rw [sumf_cons, sumf_cons, ih]
  | swap x y l => rw [sumf_cons, sumf_cons, sumf_cons, sumf_cons]; omega
  | trans _ _ h1 h2 => exact h1.trans h2
abbrev names4 : List (Str × Int) := [("zz", 0), ("a", 1), ("red", 2), ("b", 3)]
theorem n4_keys : (keys names4).Nodup := by decide +kernel
theorem n4_snd : (names4.map Prod.snd).Nodup := by decide
theorem pair_snd {L : List (Str × Int)} (h : (L.map Prod.snd).Nodup) {a b : Str} {c : Int} (h1 : (a, c) ∈ L) (h2 : (b, c) ∈ L) : a = b := by
  have e1 := (ownOf_iff h a c).mpr h1
  rw [(ownOf_iff h b c).mpr h2] at e1
  exact (Option.some.inj e1).symm
theorem pair_fst {L : List (Str × Int)} (h : (keys L).Nodup) {a : Str} {c d : Int} (h1 : (a, c) ∈ L) (h2 : (a, d) ∈ L) : c = d := by
  have e1 := look_of_mem h h1
  rw [look_of_mem h h2] at e1
  exact (Option.some.inj e1).symm
theorem n4_at {k : Nat} (h : k < 4) : ∃ nm, names4[k]? = some (nm, (k : Int)) := by
  match k, h with
  | 0, _ => exact ⟨_, rfl⟩
  | 1, _ => exact ⟨_, rfl⟩
  | 2, _ => exact ⟨_, rfl⟩
  | 3, _ => exact ⟨_, rfl⟩
theorem n4_take {n : Nat} {nm : Str} {p : Int} (h : (nm, p) ∈ names4.take n) : ∃ k : Nat, p = (k : Int) ∧ k < n := by
  obtain ⟨k, hk, e⟩ := List.mem_take_iff_getElem.mp h
  have hk4 : k < 4 := by
    have : names4.length = 4 := rfl
    omega
  obtain ⟨nm', e'⟩ := n4_at hk4
  have e2 : names4[k]? = some (nm, p) := by
    rw [List.getElem?_eq_getElem (by have : names4.length = 4 := rfl; omega), e]
  rw [e'] at e2
  cases e2
  exact ⟨k, rfl, by omega⟩
theorem law_sum {Gs Ls Gn : List (List Int)} {lab : List (Int × Str)} {ws : List (Int × Int)} {ps : List (Str × Int)} {R : List Str} {C : List Int} {M M' ids : List Int} (nG : Gs.flatten.Nodup) (G4 : Gs.length ≤ 4)
    (l1 : ∀ x nm, look lab x = some nm → ∃ (k : Nat) (ids : List Int), (nm, (k : Int)) ∈ names4.take Gs.length ∧ Gs[k]? = some ids ∧ x ∈ ids) (l2 : ∀ nm (k : Nat) ids x, (nm, (k : Int)) ∈ names4.take Gs.length → Gs[k]? = some ids → x ∈ ids → x ∈ keys lab)
    (v : MvInv Gs Ls M) (h : Like Gn (full Ls)) (hM : ∀ x, x ∈ M' ↔ x ∈ M) (hw : ∀ x, 0 ≤ at0 ws x) (S : Supp (wT (labF lab ws (flat Gn))) R C) (nR : R.Nodup) (nC : C.Nodup) (ce : Cert (wT (labF lab ws (flat Gn))) R C ps)
    (pi : ids.Perm (((flat Gn).filter (ren lab ps)).map Prod.fst)) : sumf (at0 ws) ids ≤ sumf (at0 ws) M' := by
  rw [sumf_perm (at0 ws) pi]
  obtain ⟨nF, pm, mv⟩ := moved_end v h nG
  have inGs : ∀ x ∈ Gs.flatten, ∃ (k : Nat) (ids : List Int), Gs[k]? = some ids ∧ x ∈ ids := fun x hx => by
    obtain ⟨ids, h1, h2⟩ := List.mem_flatten.mp hx
    obtain ⟨k, hk⟩ := List.mem_iff_getElem?.mp h1
    exact ⟨k, ids, hk, h2⟩
  have tolab : ∀ e ∈ flat Gn, ∃ nm, look lab e.1 = some nm := fun e he => by
    have hx : e.1 ∈ Gn.flatten := by
      rw [← flat_keys 0 Gn]
      exact List.mem_map.mpr ⟨e, he, rfl⟩
    obtain ⟨k, ids, hk, hxi⟩ := inGs e.1 (pm.mem_iff.mp hx)
    have hk' : k < Gs.length := (List.getElem?_eq_some_iff.mp hk).1
    obtain ⟨nm, hnm⟩ := n4_at (k := k) (by omega)
    refine look_some_of_key (l2 nm k ids e.1 ?_ hk hxi)
    exact List.mem_take_iff_getElem.mpr ⟨k, by have : names4.length = 4 := rfl; omega, (List.getElem?_eq_some_iff.mp hnm).2⟩
  refine plain_law nF tolab hw S nR nC ce fun e1 h1 e2 h2 n1 n2 => ?_
  obtain ⟨m1, hm1⟩ := tolab e1 h1
  obtain ⟨m2, hm2⟩ := tolab e2 h2
  obtain ⟨k1, i1, a1, b1, c1⟩ := l1 e1.1 m1 hm1
  obtain ⟨k2, i2, a2, b2, c2⟩ := l1 e2.1 m2 hm2
  have key := mv e1 h1 e2 h2 (fun q => n1 ((hM _).mpr q)) (fun q => n2 ((hM _).mpr q)) (k1 : Int) (k2 : Int) (mem_flatF.mpr ⟨k1, i1, b1, c1, by simp⟩) (mem_flatF.mpr ⟨k2, i2, b2, c2, by simp⟩)
  rw [key, hm1, hm2]
  have a1 := List.mem_of_mem_take a1
  have a2 := List.mem_of_mem_take a2
  constructor
  · intro e
    cases e
    exact pair_fst n4_keys a1 a2
  · intro e
    rw [e] at a1
    rw [pair_snd n4_snd a1 a2]
end KN

namespace KN
open PySem L2 PySem.Spec
open PyProof.Rows hiding St
theorem paired_of {α β : Type} {R : α → β → Prop} : ∀ {as : List α} {bs : List β}, as.length = bs.length → (∀ (k : Nat) a b, as[k]? = some a → bs[k]? = some b → R a b) → Paired R as bs
  | [], [], _, _ => .nil
  | [], _ :: _, h, _ => by simp at h
  | _ :: _, [], h, _ => by simp at h
  | a :: as, b :: bs, h, f => .cons (f 0 a b rfl rfl) (paired_of (by simpa using h) fun k x y hx hy => f (k + 1) x y hx hy)
abbrev datG (Gs : List (List Int)) : List PyData := Gs.map fun l => .tuple (l.map PyData.int)
theorem dp_groups {K : PySem.W.Frag} {H : Hp} : ∀ (gas : List Addr) (Gs : List (List Int)), gas.length = Gs.length → (∀ (i : Nat) t ids, gas[i]? = some t → Gs[i]? = some ids → H t = some (.tup (ids.map V.int))) → DpAll K H (gas.map V.ref) (datG Gs)
  | [], [], _, _ => .nil
  | [], _ :: _, h, _ => by simp at h
  | _ :: _, [], h, _ => by simp at h
  | t :: gas, g :: Gs, h, f => .cons (.tup (SqT.of (f 0 t g rfl rfl)) (dp_ints g)) (dp_groups gas Gs (by simpa using h) fun i x y hx hy => f (i + 1) x y hx hy)
theorem sh_g0 : ∀ Gs : List (List Int), PyData.canLayAll0 (datG Gs) = true
  | [] => rfl
  | g :: r => by simp [datG, PyData.canLayAll0, PyData.canLay0, PySem.W.ke_canLayAll0, sh_g0 r]
theorem sh_g1 : ∀ Gs : List (List Int), PyData.depthAll (datG Gs) ≤ 1
  | [] => by simp [PyData.depthAll]
  | g :: r => by
    have := sh_g1 r
    simp [datG, PyData.depthAll, PyData.depth, PySem.W.ke_depthAll] at this ⊢
    omega
theorem sh_g (Gs : List (List Int)) : SeqAt.shaped (.list (datG Gs)) = true := by
  have h := sh_g1 Gs
  unfold SeqAt.shaped
  rw [Bool.and_eq_true]
  refine ⟨?_, decide_eq_true ?_⟩
  · rw [PyData.canLay0]
    exact sh_g0 Gs
  · rw [PyData.depth]
    omega
theorem eqv_g (Gs : List (List Int)) : PyData.eqv (.list (datG Gs)) (.list []) = Gs.isEmpty := by
  cases Gs with
  | nil => simp [PyData.eqv, PyData.eqvAll]
  | cons x r => simp [PyData.eqv, PyData.eqvAll]
theorem flat_len (Gs : List (List Int)) : (flat Gs).length = Gs.flatten.length := by
  rw [← flat_keys 0 Gs]
  simp [keys]
theorem sq_ex {K : PySem.W.Frag} {H H' : Hp} {a : Addr} {xs : List V} (h : SqL K H a xs) (x : Ex [] H H') : SqL K H' a xs := by
  rcases h with h | h
  · exact .inl (x.rd h (by simp))
  · exact .inr h
section
variable {P : Program} {w : World} {K : PySem.W.Frag} {mg : Str → Option Value} {base : Heap}
def spLaw (K : PySem.W.Frag) : Sp := fun vs H Q _ => ∃ (a : Addr) (ns : List Int), vs = [.ref a] ∧ SqL K H a (ns.map V.int) ∧ ns.length ≤ 63 ∧ (∀ z ∈ ns, Builtin.Int.intBits z ≤ 1048576) ∧ ∀ H', Q (.bl true) H'
theorem scLaw : FnScope ["_law_script", "_law_start", "_law_stream_here", "_law_groups", "_law_labels", "_law_weights", "_law_stuck", "_law_names", "_law_told", "_law_fresh", "_law_moved_here", "_law_ids", "_law_place", "_law_row_id"] ["_law_script"] (defScope sLaw) := ⟨rfl, rfl, rfl, by decide +kernel, rfl, by decide +kernel, by decide +kernel⟩
theorem ok_law {f fS fD fL fM fR fC fW : Addr} {fd fdS fdD fdL fdM fdR fdC fdW : FuncData} (F : Fun K "law" "law" sLaw f fd)
    (GS : FnOk P w K mg base CX0 1 fS fdS ["_law_script", "_law_start"] (spST K)) (kSt : PySem.W.keepIn K (.ref fS) = true) (bS : Binds K fdS ["_law_script", "_law_start"] []) (gS : mg "_law_stream" = some (.ref fS))
    (GD : FnOk P w K mg base CX0 3 fD fdD ["_law_stream_here"] spDN) (kD : PySem.W.keepIn K (.ref fD) = true) (bD : Binds K fdD ["_law_stream_here"] []) (gD : mg "_law_drawn" = some (.ref fD))
    (GL : FnOk P w K mg base CX0 1 fL fdL ["groups", "names"] spLO) (kL : PySem.W.keepIn K (.ref fL) = true) (bL : Binds K fdL ["groups", "names"] []) (gL : mg "labels_of" = some (.ref fL))
    (GM : FnOk P w K mg base CX0 2 fM fdM ["_law_stream_here", "_law_groups"] spMV) (kM : PySem.W.keepIn K (.ref fM) = true) (bM : Binds K fdM ["_law_stream_here", "_law_groups"] []) (gM : mg "_law_moved" = some (.ref fM))
    (GR : FnOk P w K mg base CX0 1 fR fdR ["labels", "groups", "names"] spRI) (kR : PySem.W.keepIn K (.ref fR) = true) (bR : Binds K fdR ["labels", "groups", "names"] []) (gR : mg "renamed_ids" = some (.ref fR))
    (GC : FnOk P w K mg base CX0 4 fC fdC ["labels", "groups", "weights", "pins", "homes"] spCO) (FC : FunD K "carry_over" "carry_over" (defArgs sCO) (defBody sCO) (defScope sCO) [] [("pins", .non), ("homes", .non)] fC fdC) (gC : mg "carry_over" = some (.ref fC))
    (GW : FnOk P w K mg base CX0 5 fW fdW ["_law_stream_here", "_law_labels", "_law_groups", "_law_weights"] spWR) (kW : PySem.W.keepIn K (.ref fW) = true) (bW : Binds K fdW ["_law_stream_here", "_law_labels", "_law_groups", "_law_weights"] []) (gW : mg "_law_worths_right" = some (.ref fW))
    (mr : mg "range" = none) (mn : mg "len" = none) (md : mg "dict" = none) (mu : mg "sum" = none) : FnOk P w K mg base CX0 7 f fd ["_law_script"] (spLaw K) := by
  obtain ⟨ds, rds, bC⟩ := FC.binds0 (ps := ["labels", "groups", "weights", "pins", "homes"]) 3 (by simp) rfl (fun D doc pm an cdv ct us ks l1 l2 => by
    match us, ks, l1, l2 with
    | [u1, u2, u3], [k1, k2], _, _ => exact ⟨_, _, _, _, _, _, rfl, rfl, _, _, _, _, _, _, rfl, rfl, rfl⟩)
  refine F.ok scLaw (fun vs H Q E h => ?_) (fun cdv A outer s H vs Q E hr h => ?_)
  · obtain ⟨a, ns, rfl, _⟩ := h
    rfl
  · obtain ⟨a, ns, rfl, ha, hlen, hbits, q⟩ := h
    have hu := hu_of hr
    have nd := scLaw.nd
    refine ⟨_, pss_cons (ps_for PassesOwn.never rfl (pi_range1 (by rfl) mr (pa_cons pe_int pa_nil)) (pg_name (i := 1) nd rfl (.inl rfl))
        (pss_cons (ps_set (i := 2) nd rfl (.inl rfl) (pe_call GS (hr.mono (by decide)) (by rfl) gS kSt bS .nil pass0 (pa_cons (pv 0) (pa_cons (pv 1) pa_nil))))
        (pss_cons (ps_asg (pe_call GD (hr.mono (by decide)) (by rfl) gD kD bD .nil pass0 (pa_cons (pv 2) pa_nil)) (pg_tup rfl (pgs_cons (pg_name (i := 3) nd rfl (.inl rfl)) (pgs_cons (pg_name (i := 4) nd rfl (.inl rfl)) (pgs_cons (pg_name (i := 5) nd rfl (.inr rfl)) (pgs_cons (pg_name (i := 6) nd rfl (.inl rfl)) pgs_nil))))))
        (pss_cons (ps_cut (ps_if (pt_cmpR (op_neD hr.units) (pv 3) (pe_lst pa_nil) (nomark _))
          (pss_cons (ps_set (i := 7) nd rfl (.inl rfl) (pe_callTy (call_dictP rfl) (by rfl) md PyProof.Rows.boot_dict (pa_cons
            (pe_lc (own := [("_law_place", 12)]) (g := gName 12) (tt := tYes) (te := tTup (tCons (tOp (rIxL K) (tLst (tCons (tC (.str "zz")) (tCons (tC (.str "a")) (tCons (tC (.str "red")) (tCons (tC (.str "b")) tNil))))) (tVar 12)) (tCons (tVar 12) tNil))) rfl nd
              (pi_range1 (by rfl) mr (pa_cons (pe_callB call_len_seq (by rfl) mn PySem.boot_len (pa_cons (pv 3) pa_nil)) pa_nil)) (blkOk_by (N := ["_law_script", "_law_start", "_law_stream_here", "_law_groups", "_law_labels", "_law_weights", "_law_stuck", "_law_names", "_law_told", "_law_fresh", "_law_moved_here", "_law_ids", "_law_place", "_law_row_id"]) (sc := defScope sLaw) (by decide +kernel))
              (fun _ _ _ _ _ => pg_name (i := 12) nd rfl (.inl rfl) (.inr rfl)) (fun _ _ _ _ _ => pts_nil)
              (fun _ _ _ _ _ => pe_tup (pa_cons (pe_ix ix_list (pe_lst (pa_cons pe_str (pa_cons pe_str (pa_cons pe_str (pa_cons pe_str pa_nil))))) (pv 12) (fun _ _ => rfl)) (pa_cons (pv 12) pa_nil)))) pa_nil)))
          (pss_cons (ps_set (i := 8) nd rfl (.inl rfl) (pe_call GL (hr.mono (by decide)) (by rfl) gL kL bL .nil pass0 (pa_cons (pv 3) (pa_cons (pv 7) pa_nil))))
          (pss_cons (ps_asg (pe_call GM (hr.mono (by decide)) (by rfl) gM kM bM .nil pass0 (pa_cons (pv 2) (pa_cons (pv 3) pa_nil))) (pg_tup rfl (pgs_cons (pg_name (i := 9) nd rfl (.inl rfl)) (pgs_cons (pg_name (i := 10) nd rfl (.inl rfl)) pgs_nil))))
          (pss_cons (ps_set (i := 11) nd rfl (.inl rfl) (pe_call GR (hr.mono (by decide)) (by rfl) gR kR bR .nil pass0 (pa_cons (pv 8) (pa_cons (pv 9) (pa_cons (pe_call GC (hr.mono (by decide)) (by rfl) gC FC.kp bC rds pass0 (pa_cons (pv 8) (pa_cons (pv 9) (pa_cons (pv 5) pa_nil)))) pa_nil)))))
          (pss_one (ps_if (pt_cmpR op_gt
            (pe_callB (cr_sum rfl) (by rfl) mu PyProof.Rows.boot_sum (pa_cons (pe_lc (own := [("_law_row_id", 13)]) (g := gName 13) (tt := tYes) (te := tDGet (tVar 5) (tVar 13)) rfl nd (pi_list (pv 11)) (blkOk_by (N := ["_law_script", "_law_start", "_law_stream_here", "_law_groups", "_law_labels", "_law_weights", "_law_stuck", "_law_names", "_law_told", "_law_fresh", "_law_moved_here", "_law_ids", "_law_place", "_law_row_id"]) (sc := defScope sLaw) (by decide +kernel))
              (fun _ _ _ _ _ => pg_name (i := 13) nd rfl (.inl rfl) (.inr rfl)) (fun _ _ _ _ _ => pts_nil) (fun _ _ _ _ _ => pe_dget hu (pv 5) (pv 13) (fun _ _ => rfl))) pa_nil))
            (pe_callB (cr_sum rfl) (by rfl) mu PyProof.Rows.boot_sum (pa_cons (pe_lc (own := [("_law_row_id", 13)]) (g := gName 13) (tt := tYes) (te := tDGet (tVar 5) (tVar 13)) rfl nd (pi_list (pv 10)) (blkOk_by (N := ["_law_script", "_law_start", "_law_stream_here", "_law_groups", "_law_labels", "_law_weights", "_law_stuck", "_law_names", "_law_told", "_law_fresh", "_law_moved_here", "_law_ids", "_law_place", "_law_row_id"]) (sc := defScope sLaw) (by decide +kernel))
              (fun _ _ _ _ _ => pg_name (i := 13) nd rfl (.inl rfl) (.inr rfl)) (fun _ _ _ _ _ => pts_nil) (fun _ _ _ _ _ => pe_dget hu (pv 5) (pv 13) (fun _ _ => rfl))) pa_nil)) (nomark _)) pss_never pss_nil)))))) pss_nil))
        (pss_one (ps_if (pt_not (pt_val (pe_call GW (hr.mono (by decide)) (by rfl) gW kW bW .nil pass0 (pa_cons (pv 2) (pa_cons (pv 4) (pa_cons (pv 3) (pa_cons (pv 5) pa_nil))))))) pss_never pss_nil))))))
      (pss_one (ps_ret pe_bl)), ?_⟩
    refine ⟨4, rfl, by decide, by decide, for_range (lo := 0) (n := 4) (fun i σ H' => ∃ (v1 v2 v3 v4 v5 v6 v7 v8 v9 v10 v11 v12 v13 : Option V), σ = [some (.ref a), v1, v2, v3, v4, v5, v6, v7, v8, v9, v10, v11, v12, v13] ∧ SqL K H' a (ns.map V.int)) ⟨_, _, _, _, _, _, _, _, _, _, _, _, _, rfl, ha⟩ ?_ (fun σ H' _ => q H')⟩
    rintro i σ H0 hi ⟨v1, v2, v3, v4, v5, v6, v7, v8, v9, v10, v11, v12, v13, rfl, ha0⟩
    refine ⟨.ref a, rfl, _, rfl, a, i, ns, by rw [Int.zero_add]; rfl, ha0, hlen, hbits, by omega, fun st d e hst0 d0 e0 e1 => ?_⟩
    have x1 : Ex [] H0 (upd H0 st (strm d e)) := .upd_new hst0
    have hst1 : upd H0 st (strm d e) st = some (strm d e) := upd_same
    generalize upd H0 st (strm d e) = H1 at x1 hst1
    refine ⟨.ref st, rfl, st, d, e, rfl, hst1, d0, e0, e1, fun T gA lA wA sA gas Gs lab ws d2 e2 H2 x2 hT g2 l2 w2 hst2 hd2 he2 he2' G4 nG rG lG nw lw iw pw okl => ?_⟩
    refine ⟨T, _, rfl, SqT.of hT, rfl, _, _, rfl, _, _, rfl, _, _, rfl, _, _, rfl, rfl, ?_⟩
    have xs2 : Ex [] H0 H2 := Ex.drop (Ex.trans (x1.mono (by simp)) x2) hst0
    have nLS : lA ≠ st := ne_of l2 hst2 (by intro z; cases z)
    have nWS : wA ≠ st := ne_of w2 hst2 (by intro z; cases z)
    have nGS : gA ≠ st := ne_of g2.at_ hst2 (fun z => strm_ne z.symm)
    have nTS : ∀ t ∈ gas, t ≠ st := fun t ht z => by
      obtain ⟨i, hi⟩ := List.mem_iff_getElem?.mp ht
      obtain ⟨ids, _, h2⟩ := g2.get hi
      rw [z, hst2] at h2
      cases h2
    have in19 : ∀ x ∈ Gs.flatten, x ∈ keys ws := fun x hx => iw x (rG x hx).1 (rG x hx).2
    have nF : (keys (flat Gs)).Nodup := by rw [flat_keys]; exact nG
    have fG9 : (flat Gs).length ≤ 9 := by rw [flat_len]; exact lG
    refine ⟨fun σ' H' => ∃ (d e : Int) (v7 v8 v9 v10 v11 v12 v13 : Option V), σ' = [some (.ref a), some (.int (0 + (i : Int))), some (.ref st), some (.ref gA), some (.ref lA), some (.ref wA), some (.ref sA), v7, v8, v9, v10, v11, v12, v13] ∧ Ex [st] H2 H' ∧ H' st = some (strm d e) ∧ 0 ≤ d ∧ 0 ≤ e ∧ e < 2 ^ 40, ?_, ?_⟩
    · refine ⟨_, rfl, by show 0 ≤ sizeLine; decide, fun E hE => ?_⟩
      have x3 : Ex [st] H2 (upd H2 E (.lst [])) := .upd_new hE
      have x3' : Ex [] H2 (upd H2 E (.lst [])) := .upd_new hE
      have g3 : GrpAt (upd H2 E (.lst [])) gA gas Gs := g2.ex0 x3'
      have hst3 := x3' st _ hst2 (by simp)
      have hE3 : upd H2 E (.lst []) E = some (.lst []) := upd_same
      generalize upd H2 E (.lst []) = H3 at x3 x3' g3 hst3 hE3
      refine ⟨.list (datG Gs), .list [], .lst (SqL.of g3.at_) (dp_groups gas Gs g3.len g3.each), .lst (SqL.of hE3) .nil, sh_g Gs, PySem.W.ke_shaped_ints [], _, rfl, ?_⟩
      rw [eqv_g]
      cases hemp : Gs.isEmpty with
      | true => exact goF rfl ⟨d2, e2, _, _, _, _, _, _, _, rfl, x3, hst3, hd2, he2, he2'⟩
      | false =>
        refine goT rfl ?_
        have Gne : Gs ≠ [] := fun z => by rw [z] at hemp; cases hemp
        have glen := g3.len
        -- the names
        refine ⟨.ref gA, rfl, gA, _, rfl, .inl (SqL.of g3.at_), _, rfl, by rw [List.length_map]; omega, by rw [List.length_map]; omega, fun D hD => ?_⟩
        have en : ((List.map V.ref gas).length : Int).toNat = Gs.length := by rw [List.length_map]; omega
        rw [en]
        refine lc_it (walk_range) (fun i H' => Ex [D] H3 H' ∧ ∃ tas : List Addr, H' D = some (.lst (tas.map V.ref)) ∧ tas.length = i ∧ ∀ (k : Nat) t, tas[k]? = some t → ∃ nm, names4[k]? = some (nm, (k : Int)) ∧ H' t = some (.tup [.str nm, .int (k : Int)])) ⟨.upd_in (by simp), [], upd_same, rfl, by simp⟩ (fun _ _ _ _ => True.intro) ?_ ?_
        · rintro i y H4 H5 hi ⟨x4, tas, hD4, lt, et⟩ ⟨rfl, rfl⟩
          have hi4 : i < 4 := by omega
          obtain ⟨nm, hnm⟩ := n4_at hi4
          refine ⟨rfl, by show 4 ≤ sizeLine; decide, fun l hl => ?_⟩
          have x5 : Ex [D] H3 (upd H5 l (.lst [.str "zz", .str "a", .str "red", .str "b"])) := x4.trans (.upd_new hl)
          have hD5 : upd H5 l (.lst [.str "zz", .str "a", .str "red", .str "b"]) D = some (.lst (tas.map V.ref)) := by rw [upd_ne (ne_of_none hD4 hl)]; exact hD4
          have et5 : ∀ (k : Nat) t, tas[k]? = some t → ∃ nm, names4[k]? = some (nm, (k : Int)) ∧ upd H5 l (.lst [.str "zz", .str "a", .str "red", .str "b"]) t = some (.tup [.str nm, .int (k : Int)]) := fun k t ht => by
            obtain ⟨nm, h1, h2⟩ := et k t ht
            exact ⟨nm, h1, by rw [upd_ne (ne_of_none h2 hl)]; exact h2⟩
          have hl5 : upd H5 l (.lst [.str "zz", .str "a", .str "red", .str "b"]) l = some (.lst (names4.map fun p => V.str p.1)) := upd_same
          generalize upd H5 l (.lst [.str "zz", .str "a", .str "red", .str "b"]) = H6 at x5 hD5 et5 hl5
          refine ⟨_, rfl, l, _, _, .str nm, rfl, rfl, SqL.of hl5, by rw [Int.zero_add]; exact atI_nat (by rw [List.getElem?_map, hnm]; rfl), _, rfl, le2, fun t ht => ?_⟩
          have tD : t ≠ D := (ne_of_none hD5 ht).symm
          refine ⟨_, by rw [upd_ne tD.symm]; exact hD5, small1000 (by rw [List.length_map]; omega), (x5.trans (.upd_new ht)).trans (.upd_in (by simp)), tas ++ [t], by rw [upd_same, List.map_append]; rfl, by simp [lt], fun k t' h1 => ?_⟩
          by_cases hk : k < tas.length
          · rw [List.getElem?_append_left hk] at h1
            obtain ⟨nm', h2, h3⟩ := et5 k t' h1
            exact ⟨nm', h2, by rw [upd_ne (ne_of h3 hD5 (by intro z; cases z)), upd_ne (ne_of_none h3 ht)]; exact h3⟩
          · rw [List.getElem?_append_right (by omega)] at h1
            have hk0 : k - tas.length = 0 := by
              have := (List.getElem?_eq_some_iff.mp h1).1
              simp at this
              omega
            rw [hk0] at h1
            cases h1
            obtain rfl : k = i := by omega
            exact ⟨nm, hnm, by
              rw [upd_ne tD, upd_same]
              show some (HO.tup [V.str nm, V.int (0 + (k : Int))]) = _
              rw [Int.zero_add]⟩
        · rintro H4 ⟨x4, tas, hD4, lt, et⟩
          have l4 : (names4.take Gs.length).length = Gs.length := by rw [List.length_take]; have : names4.length = 4 := rfl; omega
          refine ⟨D, tas, emb kS V.int (names4.take Gs.length), rfl, SqL.of hD4, paired_of (by rw [emb_length]; omega) (fun k t kv h1 h2 => ?_), fun nA hnA => ?_⟩
          · obtain ⟨nm, h3, h4⟩ := et k t h1
            have hk : k < Gs.length := by have := (List.getElem?_eq_some_iff.mp h1).1; omega
            unfold emb at h2
            rw [List.getElem?_map, List.getElem?_take_of_lt hk, h3] at h2
            cases h2
            exact SqT.of h4
          have em : mergeK [] (emb kS V.int (names4.take Gs.length)) = emb kS V.int (names4.take Gs.length) := merge_emb kS_inj _ [] (by
            have := n4_keys
            exact (List.Sublist.map _ (List.take_sublist _ _)).nodup this)
          rw [em]
          have x5 : Ex [] H2 (upd H4 nA (dSI (names4.take Gs.length))) := (x3'.trans (x4.drop hD)).trans (.upd_new hnA)
          have n5 : PairsAt (upd H4 nA (dSI (names4.take Gs.length))) nA (names4.take Gs.length) := ⟨upd_same, (List.Sublist.map _ (List.take_sublist _ _)).nodup n4_keys, by omega⟩
          generalize upd H4 nA (dSI (names4.take Gs.length)) = H5 at x5 n5
          -- the labels of the groups' names
          refine ⟨.ref gA, rfl, .ref nA, rfl, gA, nA, gas, Gs, _, rfl, g2.ex0 x5, n5, by omega, fun nm p hp => ?_, fun tA H6 told x6 _ tA6 ntold t1 t2 => ?_⟩
          · obtain ⟨k, rfl, hk⟩ := n4_take hp
            exact ⟨k, _, rfl, List.getElem?_eq_getElem hk⟩
          have x06 : Ex [] H2 H6 := x5.trans x6
          have hst6 := x06 st _ hst2 (by simp)
          have nAS : tA ≠ st := ne_of tA6 hst6 (by intro z; cases z)
          -- the moves
          refine ⟨.ref st, rfl, .ref gA, rfl, st, gA, gas, Gs, d2, e2, rfl, hst6, hd2, he2, he2', g2.ex0 x06, Gne, by omega, lG, fun TT fA mA gas' Ls Gn M M' d7 e7 H7 x7 hTT g7 hm7 hst7 hd7 he7 he7' iv lk hMM lM => ?_⟩
          refine ⟨TT, _, rfl, SqT.of hTT, rfl, _, _, rfl, _, _, rfl, rfl, ?_⟩
          have x07 : Ex [st] H2 H7 := Ex.trans (x06.mono (by simp)) x7
          have tA7 := x7 tA _ tA6 (by simpa using nAS)
          have w7 := x07 wA _ w2 (by simpa using nWS)
          obtain ⟨nFn, pm, _⟩ := moved_end iv lk nG
          have fn9 : (flat Gn).length ≤ 9 := by rw [flat_len, pm.length_eq]; exact lG
          have inn : ∀ e ∈ flat Gn, e.1 ∈ keys ws := fun e he => in19 e.1 (pm.mem_iff.mp (by
            rw [← flat_keys 0 Gn]
            exact List.mem_map.mpr ⟨e, he, rfl⟩))
          -- renamed
          refine ⟨.ref tA, rfl, .ref fA, rfl, .ref tA, rfl, .ref fA, rfl, .ref wA, rfl, tA, fA, wA, told, gas', Gn, ws, rfl, tA7, g7, w7, inn, fn9, fun cA H8 ps Rn Cc x8 _ pa nR nC S ce => ?_⟩
          refine ⟨tA, fA, cA, told, gas', Gn, ps, rfl, x8 tA _ tA7 (by simp), g7.ex0 x8, pa, by omega, fun iA H9 ids x9 _ iA9 pids => ?_⟩
          have x79 : Ex [] H7 H9 := x8.trans x9
          have w9 := x79 wA _ w7 (by simp)
          have m9 := x79 mA _ hm7 (by simp)
          have hst9 := x79 st _ hst7 (by simp)
          have key := law_sum nG G4 t1 t2 iv lk hMM pw S nR nC ce pids
          have iin : ∀ x ∈ ids, x ∈ keys ws := fun x hx => by
            have h1 := pids.mem_iff.mp hx
            obtain ⟨e, he, rfl⟩ := List.mem_map.mp h1
            exact inn e (List.mem_filter.mp he).1
          have min' : ∀ x ∈ M', x ∈ keys ws := fun x hx => in19 x (iv.mem x ((hMM x).mp hx))
          have lids : ids.length ≤ 9 := by
            rw [pids.length_eq, List.length_map]
            exact Nat.le_trans (List.length_filter_le _ _) fn9
          refine ⟨_, rfl, iA, rfl, ⟨_, SqL.of iA9⟩, fun D1 hD1 => ?_⟩
          refine lc_it (walk_list (K := K) (a := iA) (xs := ids.map V.int)) (fun i H' => Ex [D1] H9 H' ∧ H' D1 = some (.lst (((ids.take i).map (at0 ws)).map V.int))) ⟨.upd_in (by simp), upd_same⟩ (fun i H' _ h => SqL.of (h.1 iA _ iA9 (by simpa using (ne_of_none iA9 hD1)))) ?_ ?_
          · rintro i y Ha Hb hi ⟨xa, hDa⟩ ⟨rfl, hy⟩
            obtain ⟨id, hid, rfl⟩ := get_map hy
            have hk := iin id (List.mem_of_getElem? hid)
            have hi' : i < ids.length := (List.getElem?_eq_some_iff.mp hid).1
            refine ⟨rfl, .ref wA, rfl, _, rfl, wA, .int (at0 ws id), rfl, get_I (.inl (xa wA _ w9 (by simpa using (ne_of_none w9 hD1)))) (by rw [look_key hk]; rfl), ?_⟩
            refine ⟨_, hDa, small1000 (by simp; omega), xa.trans (.upd_in (by simp)), ?_⟩
            rw [upd_same, List.take_add_one, hid]
            simp
          · rintro Ha ⟨xa, hDa⟩
            rw [List.length_map, List.take_of_length_le (Nat.le_refl _)] at hDa
            refine ⟨D1, _, rfl, SqL.of hDa, ?_⟩
            have w10 := xa wA _ w9 (by simpa using (ne_of_none w9 hD1))
            have m10 := xa mA _ m9 (by simpa using (ne_of_none m9 hD1))
            refine ⟨_, rfl, mA, rfl, ⟨_, SqL.of m10⟩, fun D2 hD2 => ?_⟩
            refine lc_it (walk_list (K := K) (a := mA) (xs := M'.map V.int)) (fun i H' => Ex [D2] Ha H' ∧ H' D2 = some (.lst (((M'.take i).map (at0 ws)).map V.int))) ⟨.upd_in (by simp), upd_same⟩ (fun i H' _ h => SqL.of (h.1 mA _ m10 (by simpa using (ne_of_none m10 hD2)))) ?_ ?_
            · rintro i y Hc Hb hi ⟨xb, hDb⟩ ⟨rfl, hy⟩
              obtain ⟨id, hid, rfl⟩ := get_map hy
              have hk := min' id (List.mem_of_getElem? hid)
              have hi' : i < M'.length := (List.getElem?_eq_some_iff.mp hid).1
              refine ⟨rfl, .ref wA, rfl, _, rfl, wA, .int (at0 ws id), rfl, get_I (.inl (xb wA _ w10 (by simpa using (ne_of_none w10 hD2)))) (by rw [look_key hk]; rfl), ?_⟩
              refine ⟨_, hDb, small1000 (by simp; omega), xb.trans (.upd_in (by simp)), ?_⟩
              rw [upd_same, List.take_add_one, hid]
              simp
            · rintro Hc ⟨xb, hDb⟩
              rw [List.length_map, List.take_of_length_le (Nat.le_refl _)] at hDb
              refine ⟨D2, _, rfl, SqL.of hDb, _, _, rfl, rfl, _, rfl, goF ?_ ?_⟩
              · refine decide_eq_false ?_
                show ¬ ((M'.map (at0 ws)).sum < (ids.map (at0 ws)).sum)
                unfold sumf at key
                omega
              · have x9c : Ex [] H9 Hc := (xa.drop hD1).trans (xb.drop hD2)
                exact ⟨d7, e7, _, _, _, _, _, _, _, rfl, x07.trans ((x79.trans x9c).mono (by simp)), (x79.trans x9c) st _ hst7 (by simp), hd7, he7, he7'⟩
    · rintro σ' H3 ⟨d3, e3, v7, v8, v9, v10, v11, v12, v13, rfl, x3, hst3, hd3, he3, he3'⟩
      have xs3 : Ex [] H0 H3 := Ex.drop (Ex.trans (xs2.mono (by simp)) x3) hst0
      refine ⟨.ref st, rfl, .ref lA, rfl, .ref gA, rfl, .ref wA, rfl, st, lA, gA, wA, d3, e3, lab, gas, Gs, ws, rfl, hst3, hd3, he3, he3', x3 lA _ l2 (by simpa using nLS), g2.ex x3 (by simpa using nGS) (fun t ht => by simpa using nTS t ht), x3 wA _ w2 (by simpa using nWS), nw, lw, iw, fun x hx => in19 x.1 (by
        rw [← flat_keys 0 Gs]
        exact List.mem_map.mpr ⟨x, hx, rfl⟩), nF, fG9, okl, fun H4 x4 => ?_⟩
      have xs4 : Ex [] H0 H4 := Ex.drop (Ex.trans (xs3.mono (by simp)) x4) hst0
      exact ⟨true, rfl, goF rfl ⟨_, _, _, _, _, _, _, _, _, _, _, _, _, rfl, sq_ex ha0 xs4⟩⟩
end
end KN

namespace KN
open PySem L2 PySem.Spec
open PyProof.Rows hiding St
/-! ### all defs as they stand behind the top -/
theorem all_mk {l : PySem.W.OpenLaw} {w : World} {K : PySem.W.Frag} {h : Heap} {mg : Str → Option Value} {fa fRE fBM fGP fCP fRW fLT fWO fTN fTP fET fCV fBC fGV fPO fLO fCT fOT fCO fRI fNW fST fDR fCH fDN fMV fWR fLaw dET dBC dCO : Addr} (X : K.In h) (G : h.Ns mainGlobals mg) (hfa : mg "law" = some (.ref fa))
    {odRE anRE odBM anBM odGP anGP odCP anCP odRW anRW odLT anLT odWO anWO odTN anTN odTP anTP odET anET odCV anCV odBC anBC odGV anGV odPO anPO odLO anLO odCT anCT odOT anOT odCO anCO odRI anRI odNW anNW odST anST odDR anDR odCH anCH odDN anDN odMV anMV odWR anWR odLaw anLaw : Option Addr} {slRE slBM slGP slCP slRW slLT slWO slTN slTP slET slCV slBC slGV slPO slLO slCT slOT slCO slRI slNW slST slDR slCH slDN slMV slWR slLaw : Array (Option Value)} {ocRE kVRE dcRE pmRE cdRE ctRE ocBM kVBM dcBM pmBM cdBM ctBM ocGP kVGP dcGP pmGP cdGP ctGP ocCP kVCP dcCP pmCP cdCP ctCP ocRW kVRW dcRW pmRW cdRW ctRW ocLT kVLT dcLT pmLT cdLT ctLT ocWO kVWO dcWO pmWO cdWO ctWO ocTN kVTN dcTN pmTN cdTN ctTN ocTP kVTP dcTP pmTP cdTP ctTP ocET dcET pmET cdET ctET ocCV kVCV dcCV pmCV cdCV ctCV ocBC dcBC pmBC cdBC ctBC ocGV kVGV dcGV pmGV cdGV ctGV ocPO kVPO dcPO pmPO cdPO ctPO ocLO kVLO dcLO pmLO cdLO ctLO ocCT kVCT dcCT pmCT cdCT ctCT ocOT kVOT dcOT pmOT cdOT ctOT ocCO dcCO pmCO cdCO ctCO ocRI kVRI dcRI pmRI cdRI ctRI ocNW kVNW dcNW pmNW cdNW ctNW ocST kVST dcST pmST cdST ctST ocDR kVDR dcDR pmDR cdDR ctDR ocCH kVCH dcCH pmCH cdCH ctCH ocDN kVDN dcDN pmDN cdDN ctDN ocMV kVMV dcMV pmMV cdMV ctMV ocWR kVWR dcWR pmWR cdWR ctWR ocLaw kVLaw dcLaw pmLaw cdLaw ctLaw : Value}
    (aRE : PySem.W.nsIn K mainGlobals "row_entries" = some (some (.ref fRE))) (lRE : K.lookup fRE = some ⟨ocRE, odRE, .func (PySem.W.fnOf "row_entries" "row_entries" (defArgs sRE) (defBody sRE) (defScope sRE) .none kVRE dcRE pmRE anRE cdRE ctRE), slRE⟩) (cRE : PySem.W.codeIn K cdRE "row_entries" = true) (kRE : PySem.W.keepIn K (.ref fRE) = true)
    (aBM : PySem.W.nsIn K mainGlobals "best_moves" = some (some (.ref fBM))) (lBM : K.lookup fBM = some ⟨ocBM, odBM, .func (PySem.W.fnOf "best_moves" "best_moves" (defArgs sBM) (defBody sBM) (defScope sBM) .none kVBM dcBM pmBM anBM cdBM ctBM), slBM⟩) (cBM : PySem.W.codeIn K cdBM "best_moves" = true) (kBM : PySem.W.keepIn K (.ref fBM) = true)
    (aGP : PySem.W.nsIn K mainGlobals "greatest_pairs" = some (some (.ref fGP))) (lGP : K.lookup fGP = some ⟨ocGP, odGP, .func (PySem.W.fnOf "greatest_pairs" "greatest_pairs" (defArgs sGP) (defBody sGP) (defScope sGP) .none kVGP dcGP pmGP anGP cdGP ctGP), slGP⟩) (cGP : PySem.W.codeIn K cdGP "greatest_pairs" = true) (kGP : PySem.W.keepIn K (.ref fGP) = true)
    (aCP : PySem.W.nsIn K mainGlobals "column_prices" = some (some (.ref fCP))) (lCP : K.lookup fCP = some ⟨ocCP, odCP, .func (PySem.W.fnOf "column_prices" "column_prices" (defArgs sCP) (defBody sCP) (defScope sCP) .none kVCP dcCP pmCP anCP cdCP ctCP), slCP⟩) (cCP : PySem.W.codeIn K cdCP "column_prices" = true) (kCP : PySem.W.keepIn K (.ref fCP) = true)
    (aRW : PySem.W.nsIn K mainGlobals "row_worths" = some (some (.ref fRW))) (lRW : K.lookup fRW = some ⟨ocRW, odRW, .func (PySem.W.fnOf "row_worths" "row_worths" (defArgs sRW) (defBody sRW) (defScope sRW) .none kVRW dcRW pmRW anRW cdRW ctRW), slRW⟩) (cRW : PySem.W.codeIn K cdRW "row_worths" = true) (kRW : PySem.W.keepIn K (.ref fRW) = true)
    (aLT : PySem.W.nsIn K mainGlobals "label_table" = some (some (.ref fLT))) (lLT : K.lookup fLT = some ⟨ocLT, odLT, .func (PySem.W.fnOf "label_table" "label_table" (defArgs sLT) (defBody sLT) (defScope sLT) .none kVLT dcLT pmLT anLT cdLT ctLT), slLT⟩) (cLT : PySem.W.codeIn K cdLT "label_table" = true) (kLT : PySem.W.keepIn K (.ref fLT) = true)
    (aWO : PySem.W.nsIn K mainGlobals "without" = some (some (.ref fWO))) (lWO : K.lookup fWO = some ⟨ocWO, odWO, .func (PySem.W.fnOf "without" "without" (defArgs sWO) (defBody sWO) (defScope sWO) .none kVWO dcWO pmWO anWO cdWO ctWO), slWO⟩) (cWO : PySem.W.codeIn K cdWO "without" = true) (kWO : PySem.W.keepIn K (.ref fWO) = true)
    (aTN : PySem.W.nsIn K mainGlobals "table_names" = some (some (.ref fTN))) (lTN : K.lookup fTN = some ⟨ocTN, odTN, .func (PySem.W.fnOf "table_names" "table_names" (defArgs sTN) (defBody sTN) (defScope sTN) .none kVTN dcTN pmTN anTN cdTN ctTN), slTN⟩) (cTN : PySem.W.codeIn K cdTN "table_names" = true) (kTN : PySem.W.keepIn K (.ref fTN) = true)
    (aTP : PySem.W.nsIn K mainGlobals "table_places" = some (some (.ref fTP))) (lTP : K.lookup fTP = some ⟨ocTP, odTP, .func (PySem.W.fnOf "table_places" "table_places" (defArgs sTP) (defBody sTP) (defScope sTP) .none kVTP dcTP pmTP anTP cdTP ctTP), slTP⟩) (cTP : PySem.W.codeIn K cdTP "table_places" = true) (kTP : PySem.W.keepIn K (.ref fTP) = true)
    (aET : PySem.W.nsIn K mainGlobals "exact_table" = some (some (.ref fET))) (lET : K.lookup fET = some ⟨ocET, odET, .func (PySem.W.fnOf "exact_table" "exact_table" (defArgs sET) (defBody sET) (defScope sET) .none (.ref dET) dcET pmET anET cdET ctET), slET⟩) (cET : PySem.W.codeIn K cdET "exact_table" = true) (kET : PySem.W.keepIn K (.ref fET) = true)
    (aCV : PySem.W.nsIn K mainGlobals "carrying_value" = some (some (.ref fCV))) (lCV : K.lookup fCV = some ⟨ocCV, odCV, .func (PySem.W.fnOf "carrying_value" "carrying_value" (defArgs sCV) (defBody sCV) (defScope sCV) .none kVCV dcCV pmCV anCV cdCV ctCV), slCV⟩) (cCV : PySem.W.codeIn K cdCV "carrying_value" = true) (kCV : PySem.W.keepIn K (.ref fCV) = true)
    (aBC : PySem.W.nsIn K mainGlobals "best_carrying" = some (some (.ref fBC))) (lBC : K.lookup fBC = some ⟨ocBC, odBC, .func (PySem.W.fnOf "best_carrying" "best_carrying" (defArgs sBC) (defBody sBC) (defScope sBC) .none (.ref dBC) dcBC pmBC anBC cdBC ctBC), slBC⟩) (cBC : PySem.W.codeIn K cdBC "best_carrying" = true) (kBC : PySem.W.keepIn K (.ref fBC) = true)
    (aGV : PySem.W.nsIn K mainGlobals "greatest_value" = some (some (.ref fGV))) (lGV : K.lookup fGV = some ⟨ocGV, odGV, .func (PySem.W.fnOf "greatest_value" "greatest_value" (defArgs sGV) (defBody sGV) (defScope sGV) .none kVGV dcGV pmGV anGV cdGV ctGV), slGV⟩) (cGV : PySem.W.codeIn K cdGV "greatest_value" = true) (kGV : PySem.W.keepIn K (.ref fGV) = true)
    (aPO : PySem.W.nsIn K mainGlobals "places_of" = some (some (.ref fPO))) (lPO : K.lookup fPO = some ⟨ocPO, odPO, .func (PySem.W.fnOf "places_of" "places_of" (defArgs sPO) (defBody sPO) (defScope sPO) .none kVPO dcPO pmPO anPO cdPO ctPO), slPO⟩) (cPO : PySem.W.codeIn K cdPO "places_of" = true) (kPO : PySem.W.keepIn K (.ref fPO) = true)
    (aLO : PySem.W.nsIn K mainGlobals "labels_of" = some (some (.ref fLO))) (lLO : K.lookup fLO = some ⟨ocLO, odLO, .func (PySem.W.fnOf "labels_of" "labels_of" (defArgs sLO) (defBody sLO) (defScope sLO) .none kVLO dcLO pmLO anLO cdLO ctLO), slLO⟩) (cLO : PySem.W.codeIn K cdLO "labels_of" = true) (kLO : PySem.W.keepIn K (.ref fLO) = true)
    (aCT : PySem.W.nsIn K mainGlobals "counting_pins" = some (some (.ref fCT))) (lCT : K.lookup fCT = some ⟨ocCT, odCT, .func (PySem.W.fnOf "counting_pins" "counting_pins" (defArgs sCT) (defBody sCT) (defScope sCT) .none kVCT dcCT pmCT anCT cdCT ctCT), slCT⟩) (cCT : PySem.W.codeIn K cdCT "counting_pins" = true) (kCT : PySem.W.keepIn K (.ref fCT) = true)
    (aOT : PySem.W.nsIn K mainGlobals "open_table" = some (some (.ref fOT))) (lOT : K.lookup fOT = some ⟨ocOT, odOT, .func (PySem.W.fnOf "open_table" "open_table" (defArgs sOT) (defBody sOT) (defScope sOT) .none kVOT dcOT pmOT anOT cdOT ctOT), slOT⟩) (cOT : PySem.W.codeIn K cdOT "open_table" = true) (kOT : PySem.W.keepIn K (.ref fOT) = true)
    (aCO : PySem.W.nsIn K mainGlobals "carry_over" = some (some (.ref fCO))) (lCO : K.lookup fCO = some ⟨ocCO, odCO, .func (PySem.W.fnOf "carry_over" "carry_over" (defArgs sCO) (defBody sCO) (defScope sCO) .none (.ref dCO) dcCO pmCO anCO cdCO ctCO), slCO⟩) (cCO : PySem.W.codeIn K cdCO "carry_over" = true) (kCO : PySem.W.keepIn K (.ref fCO) = true)
    (aRI : PySem.W.nsIn K mainGlobals "renamed_ids" = some (some (.ref fRI))) (lRI : K.lookup fRI = some ⟨ocRI, odRI, .func (PySem.W.fnOf "renamed_ids" "renamed_ids" (defArgs sRI) (defBody sRI) (defScope sRI) .none kVRI dcRI pmRI anRI cdRI ctRI), slRI⟩) (cRI : PySem.W.codeIn K cdRI "renamed_ids" = true) (kRI : PySem.W.keepIn K (.ref fRI) = true)
    (aNW : PySem.W.nsIn K mainGlobals "name_worths" = some (some (.ref fNW))) (lNW : K.lookup fNW = some ⟨ocNW, odNW, .func (PySem.W.fnOf "name_worths" "name_worths" (defArgs sNW) (defBody sNW) (defScope sNW) .none kVNW dcNW pmNW anNW cdNW ctNW), slNW⟩) (cNW : PySem.W.codeIn K cdNW "name_worths" = true) (kNW : PySem.W.keepIn K (.ref fNW) = true)
    (aST : PySem.W.nsIn K mainGlobals "_law_stream" = some (some (.ref fST))) (lST : K.lookup fST = some ⟨ocST, odST, .func (PySem.W.fnOf "_law_stream" "_law_stream" (defArgs sST) (defBody sST) (defScope sST) .none kVST dcST pmST anST cdST ctST), slST⟩) (cST : PySem.W.codeIn K cdST "_law_stream" = true) (kST : PySem.W.keepIn K (.ref fST) = true)
    (aDR : PySem.W.nsIn K mainGlobals "_law_draw" = some (some (.ref fDR))) (lDR : K.lookup fDR = some ⟨ocDR, odDR, .func (PySem.W.fnOf "_law_draw" "_law_draw" (defArgs sDR) (defBody sDR) (defScope sDR) .none kVDR dcDR pmDR anDR cdDR ctDR), slDR⟩) (cDR : PySem.W.codeIn K cdDR "_law_draw" = true) (kDR : PySem.W.keepIn K (.ref fDR) = true)
    (aCH : PySem.W.nsIn K mainGlobals "_law_choose" = some (some (.ref fCH))) (lCH : K.lookup fCH = some ⟨ocCH, odCH, .func (PySem.W.fnOf "_law_choose" "_law_choose" (defArgs sCH) (defBody sCH) (defScope sCH) .none kVCH dcCH pmCH anCH cdCH ctCH), slCH⟩) (cCH : PySem.W.codeIn K cdCH "_law_choose" = true) (kCH : PySem.W.keepIn K (.ref fCH) = true)
    (aDN : PySem.W.nsIn K mainGlobals "_law_drawn" = some (some (.ref fDN))) (lDN : K.lookup fDN = some ⟨ocDN, odDN, .func (PySem.W.fnOf "_law_drawn" "_law_drawn" (defArgs sDN) (defBody sDN) (defScope sDN) .none kVDN dcDN pmDN anDN cdDN ctDN), slDN⟩) (cDN : PySem.W.codeIn K cdDN "_law_drawn" = true) (kDN : PySem.W.keepIn K (.ref fDN) = true)
    (aMV : PySem.W.nsIn K mainGlobals "_law_moved" = some (some (.ref fMV))) (lMV : K.lookup fMV = some ⟨ocMV, odMV, .func (PySem.W.fnOf "_law_moved" "_law_moved" (defArgs sMV) (defBody sMV) (defScope sMV) .none kVMV dcMV pmMV anMV cdMV ctMV), slMV⟩) (cMV : PySem.W.codeIn K cdMV "_law_moved" = true) (kMV : PySem.W.keepIn K (.ref fMV) = true)
    (aWR : PySem.W.nsIn K mainGlobals "_law_worths_right" = some (some (.ref fWR))) (lWR : K.lookup fWR = some ⟨ocWR, odWR, .func (PySem.W.fnOf "_law_worths_right" "_law_worths_right" (defArgs sWR) (defBody sWR) (defScope sWR) .none kVWR dcWR pmWR anWR cdWR ctWR), slWR⟩) (cWR : PySem.W.codeIn K cdWR "_law_worths_right" = true) (kWR : PySem.W.keepIn K (.ref fWR) = true)
    (aLaw : PySem.W.nsIn K mainGlobals "law" = some (some (.ref fLaw))) (lLaw : K.lookup fLaw = some ⟨ocLaw, odLaw, .func (PySem.W.fnOf "law" "law" (defArgs sLaw) (defBody sLaw) (defScope sLaw) .none kVLaw dcLaw pmLaw anLaw cdLaw ctLaw), slLaw⟩) (cLaw : PySem.W.codeIn K cdLaw "law" = true) (kLaw : PySem.W.keepIn K (.ref fLaw) = true)
    (gEThomes : PySem.W.nsIn K dET "homes" = some (some .none))
    (gBChomes : PySem.W.nsIn K dBC "homes" = some (some .none))
    (gCOpins : PySem.W.nsIn K dCO "pins" = some (some .none))
    (gCOhomes : PySem.W.nsIn K dCO "homes" = some (some .none))
    (zsorted : PySem.W.nsIn K mainGlobals "sorted" = some none)
    (zlen : PySem.W.nsIn K mainGlobals "len" = some none)
    (zint : PySem.W.nsIn K mainGlobals "int" = some none)
    (zsum : PySem.W.nsIn K mainGlobals "sum" = some none)
    (zenumerate : PySem.W.nsIn K mainGlobals "enumerate" = some none)
    (zlist : PySem.W.nsIn K mainGlobals "list" = some none)
    (zrange : PySem.W.nsIn K mainGlobals "range" = some none)
    (zdict : PySem.W.nsIn K mainGlobals "dict" = some none)
    (zabs : PySem.W.nsIn K mainGlobals "abs" = some none)
    (ztuple : PySem.W.nsIn K mainGlobals "tuple" = some none)
    (zset : PySem.W.nsIn K mainGlobals "set" = some none)
    : ∃ fd : FuncData, (∀ (s : Shared) (v : Value), BindsTo s fd ⟨[v], []⟩ [("_law_script", v)]) ∧ ∀ base : Heap, K.In base → base.Ns mainGlobals mg → FnOk l.prog w K mg base CX0 7 fa fd ["_law_script"] (spLaw K) := by
  have e := hfa.symm.trans (PySem.W.mg_of X G aLaw)
  cases e
  have FRE := fun_mk (st := sRE) lRE cRE kRE
  have bRE := FRE.binds (ps := ["entries"]) fun _ _ _ _ _ _ us hl => match us, hl with | [_], _ => rfl
  have mRE := PySem.W.mg_of X G aRE
  have FBM := fun_mk (st := sBM) lBM cBM kBM
  have bBM := FBM.binds (ps := ["rows", "pairs", "owners"]) fun _ _ _ _ _ _ us hl => match us, hl with | [_, _, _], _ => rfl
  have mBM := PySem.W.mg_of X G aBM
  have FGP := fun_mk (st := sGP) lGP cGP kGP
  have bGP := FGP.binds (ps := ["entries"]) fun _ _ _ _ _ _ us hl => match us, hl with | [_], _ => rfl
  have mGP := PySem.W.mg_of X G aGP
  have FCP := fun_mk (st := sCP) lCP cCP kCP
  have bCP := FCP.binds (ps := ["entries", "pairs"]) fun _ _ _ _ _ _ us hl => match us, hl with | [_, _], _ => rfl
  have mCP := PySem.W.mg_of X G aCP
  have FRW := fun_mk (st := sRW) lRW cRW kRW
  have bRW := FRW.binds (ps := ["entries", "pairs"]) fun _ _ _ _ _ _ us hl => match us, hl with | [_, _], _ => rfl
  have mRW := PySem.W.mg_of X G aRW
  have FLT := fun_mk (st := sLT) lLT cLT kLT
  have bLT := FLT.binds (ps := ["labels", "groups", "weights"]) fun _ _ _ _ _ _ us hl => match us, hl with | [_, _, _], _ => rfl
  have mLT := PySem.W.mg_of X G aLT
  have FWO : FunD K "without" "without" (defArgs sWO) (defBody sWO) (defScope sWO) [] [] fWO (PySem.W.fnOf "without" "without" (defArgs sWO) (defBody sWO) (defScope sWO) .none kVWO dcWO pmWO anWO cdWO ctWO) := ⟨⟨ocWO, odWO, .none, kVWO, dcWO, pmWO, anWO, cdWO, ctWO, slWO, rfl, lWO, cWO, .inl ⟨rfl, rfl⟩, .inl rfl⟩, kWO⟩
  have mWO := PySem.W.mg_of X G aWO
  have FTN := fun_mk (st := sTN) lTN cTN kTN
  have bTN := FTN.binds (ps := ["table"]) fun _ _ _ _ _ _ us hl => match us, hl with | [_], _ => rfl
  have mTN := PySem.W.mg_of X G aTN
  have FTP := fun_mk (st := sTP) lTP cTP kTP
  have bTP := FTP.binds (ps := ["table"]) fun _ _ _ _ _ _ us hl => match us, hl with | [_], _ => rfl
  have mTP := PySem.W.mg_of X G aTP
  have FET : FunD K "exact_table" "exact_table" (defArgs sET) (defBody sET) (defScope sET) [] [("homes", V.non)] fET (PySem.W.fnOf "exact_table" "exact_table" (defArgs sET) (defBody sET) (defScope sET) .none (.ref dET) dcET pmET anET cdET ctET) := ⟨⟨ocET, odET, .none, (.ref dET), dcET, pmET, anET, cdET, ctET, slET, rfl, lET, cET, .inl ⟨rfl, rfl⟩, .inr ⟨dET, rfl, fun q hq => by
    obtain rfl := List.mem_singleton.mp hq
    exact ⟨_, gEThomes, rfl⟩⟩⟩, kET⟩
  have mET := PySem.W.mg_of X G aET
  have FCV := fun_mk (st := sCV) lCV cCV kCV
  have bCV := FCV.binds (ps := ["table", "carrying"]) fun _ _ _ _ _ _ us hl => match us, hl with | [_, _], _ => rfl
  have mCV := PySem.W.mg_of X G aCV
  have FBC : FunD K "best_carrying" "best_carrying" (defArgs sBC) (defBody sBC) (defScope sBC) [] [("homes", V.non)] fBC (PySem.W.fnOf "best_carrying" "best_carrying" (defArgs sBC) (defBody sBC) (defScope sBC) .none (.ref dBC) dcBC pmBC anBC cdBC ctBC) := ⟨⟨ocBC, odBC, .none, (.ref dBC), dcBC, pmBC, anBC, cdBC, ctBC, slBC, rfl, lBC, cBC, .inl ⟨rfl, rfl⟩, .inr ⟨dBC, rfl, fun q hq => by
    obtain rfl := List.mem_singleton.mp hq
    exact ⟨_, gBChomes, rfl⟩⟩⟩, kBC⟩
  have mBC := PySem.W.mg_of X G aBC
  have FGV := fun_mk (st := sGV) lGV cGV kGV
  have bGV := FGV.binds (ps := ["table"]) fun _ _ _ _ _ _ us hl => match us, hl with | [_], _ => rfl
  have mGV := PySem.W.mg_of X G aGV
  have FPO := fun_mk (st := sPO) lPO cPO kPO
  have bPO := FPO.binds (ps := ["groups"]) fun _ _ _ _ _ _ us hl => match us, hl with | [_], _ => rfl
  have mPO := PySem.W.mg_of X G aPO
  have FLO := fun_mk (st := sLO) lLO cLO kLO
  have bLO := FLO.binds (ps := ["groups", "names"]) fun _ _ _ _ _ _ us hl => match us, hl with | [_, _], _ => rfl
  have mLO := PySem.W.mg_of X G aLO
  have FCT := fun_mk (st := sCT) lCT cCT kCT
  have bCT := FCT.binds (ps := ["groups", "pins"]) fun _ _ _ _ _ _ us hl => match us, hl with | [_, _], _ => rfl
  have mCT := PySem.W.mg_of X G aCT
  have FOT := fun_mk (st := sOT) lOT cOT kOT
  have bOT := FOT.binds (ps := ["labels", "groups", "weights", "pins"]) fun _ _ _ _ _ _ us hl => match us, hl with | [_, _, _, _], _ => rfl
  have mOT := PySem.W.mg_of X G aOT
  have FCO : FunD K "carry_over" "carry_over" (defArgs sCO) (defBody sCO) (defScope sCO) [] [("pins", V.non), ("homes", V.non)] fCO (PySem.W.fnOf "carry_over" "carry_over" (defArgs sCO) (defBody sCO) (defScope sCO) .none (.ref dCO) dcCO pmCO anCO cdCO ctCO) := ⟨⟨ocCO, odCO, .none, (.ref dCO), dcCO, pmCO, anCO, cdCO, ctCO, slCO, rfl, lCO, cCO, .inl ⟨rfl, rfl⟩, .inr ⟨dCO, rfl, fun q hq => by
    rcases List.mem_cons.mp hq with rfl | hq
    · exact ⟨_, gCOpins, rfl⟩
    · obtain rfl := List.mem_singleton.mp hq
      exact ⟨_, gCOhomes, rfl⟩⟩⟩, kCO⟩
  have mCO := PySem.W.mg_of X G aCO
  have FRI := fun_mk (st := sRI) lRI cRI kRI
  have bRI := FRI.binds (ps := ["labels", "groups", "names"]) fun _ _ _ _ _ _ us hl => match us, hl with | [_, _, _], _ => rfl
  have mRI := PySem.W.mg_of X G aRI
  have FNW := fun_mk (st := sNW) lNW cNW kNW
  have bNW := FNW.binds (ps := ["table"]) fun _ _ _ _ _ _ us hl => match us, hl with | [_], _ => rfl
  have mNW := PySem.W.mg_of X G aNW
  have FST := fun_mk (st := sST) lST cST kST
  have bST := FST.binds (ps := ["_law_script", "_law_start"]) fun _ _ _ _ _ _ us hl => match us, hl with | [_, _], _ => rfl
  have mST := PySem.W.mg_of X G aST
  have FDR := fun_mk (st := sDR) lDR cDR kDR
  have bDR := FDR.binds (ps := ["_law_stream_here", "_law_size"]) fun _ _ _ _ _ _ us hl => match us, hl with | [_, _], _ => rfl
  have mDR := PySem.W.mg_of X G aDR
  have FCH := fun_mk (st := sCH) lCH cCH kCH
  have bCH := FCH.binds (ps := ["_law_stream_here", "_law_items"]) fun _ _ _ _ _ _ us hl => match us, hl with | [_, _], _ => rfl
  have mCH := PySem.W.mg_of X G aCH
  have FDN := fun_mk (st := sDN) lDN cDN kDN
  have bDN := FDN.binds (ps := ["_law_stream_here"]) fun _ _ _ _ _ _ us hl => match us, hl with | [_], _ => rfl
  have mDN := PySem.W.mg_of X G aDN
  have FMV := fun_mk (st := sMV) lMV cMV kMV
  have bMV := FMV.binds (ps := ["_law_stream_here", "_law_groups"]) fun _ _ _ _ _ _ us hl => match us, hl with | [_, _], _ => rfl
  have mMV := PySem.W.mg_of X G aMV
  have FWR := fun_mk (st := sWR) lWR cWR kWR
  have bWR := FWR.binds (ps := ["_law_stream_here", "_law_labels", "_law_groups", "_law_weights"]) fun _ _ _ _ _ _ us hl => match us, hl with | [_, _, _, _], _ => rfl
  have mWR := PySem.W.mg_of X G aWR
  have FLaw := fun_mk (st := sLaw) lLaw cLaw kLaw
  have nsorted := PySem.W.mg_none_of X G zsorted
  have nlen := PySem.W.mg_none_of X G zlen
  have nint := PySem.W.mg_none_of X G zint
  have nsum := PySem.W.mg_none_of X G zsum
  have nenumerate := PySem.W.mg_none_of X G zenumerate
  have nlist := PySem.W.mg_none_of X G zlist
  have nrange := PySem.W.mg_none_of X G zrange
  have ndict := PySem.W.mg_none_of X G zdict
  have nabs := PySem.W.mg_none_of X G zabs
  have ntuple := PySem.W.mg_none_of X G ztuple
  have nset := PySem.W.mg_none_of X G zset
  refine ⟨PySem.W.fnOf "law" "law" (defArgs sLaw) (defBody sLaw) (defScope sLaw) .none kVLaw dcLaw pmLaw anLaw cdLaw ctLaw, fun s v => .of_eq rfl, fun base _ _ => ?_⟩
  have oGP := ok_GP (P := l.prog) (w := w) (base := base) FGP FRE bRE mRE FBM bBM mBM nsorted
  have oET := ok_ET (P := l.prog) (w := w) (base := base) FET FTN bTN mTN FTP bTP mTP nsorted nlen nint
  have oBC := ok_BC FBC oET FET mET oGP kGP bGP mGP
  have oGV := ok_GV FGV FCV bCV mCV nsum oGP kGP bGP mGP
  have oRW := ok_RW (P := l.prog) (w := w) (base := base) FRW FCP bCP mCP
  have oNW := ok_NW FNW oRW kRW bRW mRW oBC FBC mBC
  have oWR := ok_WR FWR FLT bLT mLT nenumerate FDR bDR mDR oGV kGV bGV mGV oNW kNW bNW mNW ndict nabs nsorted
  have oCT := ok_CT (P := l.prog) (w := w) (base := base) FCT FPO bPO mPO nenumerate nsorted
  have oOT := ok_OT (P := l.prog) (w := w) (base := base) FOT FPO bPO mPO FLT bLT mLT FWO mWO nenumerate nlist
  have oCO := ok_CO FCO FPO bPO mPO nenumerate oCT kCT bCT mCT oBC FBC mBC oOT kOT bOT mOT
  have oRI := ok_RI (P := l.prog) (w := w) (mg := mg) (base := base) FRI nenumerate nsorted
  have oLO := ok_LO (P := l.prog) (w := w) (mg := mg) (base := base) FLO
  have oMV := ok_MV (P := l.prog) (w := w) (base := base) FMV FDR bDR mDR nlist nrange nlen ntuple nsorted nset
  have oDN := ok_DN (P := l.prog) (w := w) (base := base) FDN FDR bDR mDR FCH bCH mCH nlist nrange nlen ntuple nsorted nint
  have oST := ok_ST (P := l.prog) (w := w) (base := base) FST nlen
  exact ok_law FLaw oST kST bST mST oDN kDN bDN mDN oLO kLO bLO mLO oMV kMV bMV mMV oRI kRI bRI mRI oCO FCO mCO oWR kWR bWR mWR nrange nlen ndict nsum
end KN
open PySem PySem.W PyProof.Rows
set_option maxHeartbeats 0 in
theorem PySem.Challenge.cw_keptnames_k31_whole_few_items_move_holds : PySem.Challenge.rw_keptnames_k31_whole_few_items_move.Holds := by
  w_on; o_law; k_head; (case hw => w_witness2)
  k_fill
  refine L2.walk_ofB (l := PySem.Challenge.rw_keptnames_k31_whole_few_items_move) (n := 63) (k := 7) (x := "_law_script") (CX := fun _ => L2.CX0) (sp := fun w => KN.spLaw _) rfl (by decide) rfl ⟨rfl, by decide, by decide⟩ (fun w h Y => PySem.W.kIn_of Y) ?F (fun _ _ a ns hl bits _ hS => ⟨a, ns, rfl, hS, hl, bits, fun _ => rfl⟩) (fun _ _ _ _ _ h => h)
  case F =>
    intro w mg fa h KX G hmg
    refine' KN.all_mk KX G hmg ?aRE ?lRE ?cRE ?kRE ?aBM ?lBM ?cBM ?kBM ?aGP ?lGP ?cGP ?kGP ?aCP ?lCP ?cCP ?kCP ?aRW ?lRW ?cRW ?kRW ?aLT ?lLT ?cLT ?kLT ?aWO ?lWO ?cWO ?kWO ?aTN ?lTN ?cTN ?kTN ?aTP ?lTP ?cTP ?kTP ?aET ?lET ?cET ?kET ?aCV ?lCV ?cCV ?kCV ?aBC ?lBC ?cBC ?kBC ?aGV ?lGV ?cGV ?kGV ?aPO ?lPO ?cPO ?kPO ?aLO ?lLO ?cLO ?kLO ?aCT ?lCT ?cCT ?kCT ?aOT ?lOT ?cOT ?kOT ?aCO ?lCO ?cCO ?kCO ?aRI ?lRI ?cRI ?kRI ?aNW ?lNW ?cNW ?kNW ?aST ?lST ?cST ?kST ?aDR ?lDR ?cDR ?kDR ?aCH ?lCH ?cCH ?kCH ?aDN ?lDN ?cDN ?kDN ?aMV ?lMV ?cMV ?kMV ?aWR ?lWR ?cWR ?kWR ?aLaw ?lLaw ?cLaw ?kLaw ?gEThomes ?gBChomes ?gCOpins ?gCOhomes ?zsorted ?zlen ?zint ?zsum ?zenumerate ?zlist ?zrange ?zdict ?zabs ?ztuple ?zset
    (case aRE => k_is)
    (case lRE => k_is)
    (case cRE => k_is)
    (case kRE => k_is)
    (case aBM => k_is)
    (case lBM => k_is)
    (case cBM => k_is)
    (case kBM => k_is)
    (case aGP => k_is)
    (case lGP => k_is)
    (case cGP => k_is)
    (case kGP => k_is)
    (case aCP => k_is)
    (case lCP => k_is)
    (case cCP => k_is)
    (case kCP => k_is)
    (case aRW => k_is)
    (case lRW => k_is)
    (case cRW => k_is)
    (case kRW => k_is)
    (case aLT => k_is)
    (case lLT => k_is)
    (case cLT => k_is)
    (case kLT => k_is)
    (case aWO => k_is)
    (case lWO => k_is)
    (case cWO => k_is)
    (case kWO => k_is)
    (case aTN => k_is)
    (case lTN => k_is)
    (case cTN => k_is)
    (case kTN => k_is)
    (case aTP => k_is)
    (case lTP => k_is)
    (case cTP => k_is)
    (case kTP => k_is)
    (case aET => k_is)
    (case lET => k_is)
    (case cET => k_is)
    (case kET => k_is)
    (case aCV => k_is)
    (case lCV => k_is)
    (case cCV => k_is)
    (case kCV => k_is)
    (case aBC => k_is)
    (case lBC => k_is)
    (case cBC => k_is)
    (case kBC => k_is)
    (case aGV => k_is)
    (case lGV => k_is)
    (case cGV => k_is)
    (case kGV => k_is)
    (case aPO => k_is)
    (case lPO => k_is)
    (case cPO => k_is)
    (case kPO => k_is)
    (case aLO => k_is)
    (case lLO => k_is)
    (case cLO => k_is)
    (case kLO => k_is)
    (case aCT => k_is)
    (case lCT => k_is)
    (case cCT => k_is)
    (case kCT => k_is)
    (case aOT => k_is)
    (case lOT => k_is)
    (case cOT => k_is)
    (case kOT => k_is)
    (case aCO => k_is)
    (case lCO => k_is)
    (case cCO => k_is)
    (case kCO => k_is)
    (case aRI => k_is)
    (case lRI => k_is)
    (case cRI => k_is)
    (case kRI => k_is)
    (case aNW => k_is)
    (case lNW => k_is)
    (case cNW => k_is)
    (case kNW => k_is)
    (case aST => k_is)
    (case lST => k_is)
    (case cST => k_is)
    (case kST => k_is)
    (case aDR => k_is)
    (case lDR => k_is)
    (case cDR => k_is)
    (case kDR => k_is)
    (case aCH => k_is)
    (case lCH => k_is)
    (case cCH => k_is)
    (case kCH => k_is)
    (case aDN => k_is)
    (case lDN => k_is)
    (case cDN => k_is)
    (case kDN => k_is)
    (case aMV => k_is)
    (case lMV => k_is)
    (case cMV => k_is)
    (case kMV => k_is)
    (case aWR => k_is)
    (case lWR => k_is)
    (case cWR => k_is)
    (case kWR => k_is)
    (case aLaw => k_is)
    (case lLaw => k_is)
    (case cLaw => k_is)
    (case kLaw => k_is)
    (case gEThomes => k_is)
    (case gBChomes => k_is)
    (case gCOpins => k_is)
    (case gCOhomes => k_is)
    (case zsorted => k_is)
    (case zlen => k_is)
    (case zint => k_is)
    (case zsum => k_is)
    (case zenumerate => k_is)
    (case zlist => k_is)
    (case zrange => k_is)
    (case zdict => k_is)
    (case zabs => k_is)
    (case ztuple => k_is)
    (case zset => k_is)
