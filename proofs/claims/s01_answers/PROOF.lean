import PyProof.Rows.All
import Wide.All
import OpenK.AllK
import Wide.FinOn
import Open.SpecLaws
import KE.OsGo
import HandS.ForSpec
import HandS.Comp
import HandS.SortInts
import HandS.Deep
import KE.DataFind
import PySem.Challenge.RW_netmends_s01_answers
set_option Elab.async false
set_option linter.all false
set_option maxRecDepth 100000
set_option maxHeartbeats 4000000
namespace Nm
abbrev E := Nat × Nat
/-- e lies between k and j -/
def Bt (e : E) (k j : Nat) : Prop := (e.1 = k ∧ e.2 = j) ∨ (e.1 = j ∧ e.2 = k)
theorem Bt.symm {e : E} {k j : Nat} (h : Bt e k j) : Bt e j k := h.elim .inr .inl
inductive Reach (ps : List E) (s : Nat) : Nat → Prop
  | refl : Reach ps s s
  | step {v u : Nat} (e : E) : Reach ps s v → e ∈ ps → Bt e v u → Reach ps s u
theorem Reach.trans {ps : List E} {a b c : Nat} (h : Reach ps a b) (g : Reach ps b c) : Reach ps a c := by
  induction g with
  | refl => exact h
  | step e _ m t ih => exact .step e ih m t
theorem Reach.one {ps : List E} {a b : Nat} (e : E) (m : e ∈ ps) (t : Bt e a b) : Reach ps a b := .step e .refl m t
theorem Reach.symm {ps : List E} {a b : Nat} (h : Reach ps a b) : Reach ps b a := by
  induction h with
  | refl => exact .refl
  | step e _ m t ih => exact (Reach.one e m t.symm).trans ih
theorem Reach.mono {ps qs : List E} (h : ∀ e ∈ ps, e ∈ qs) {a b : Nat} (g : Reach ps a b) : Reach qs a b := by
  induction g with
  | refl => exact .refl
  | step e _ m t ih => exact .step e ih (h e m) t
theorem Reach.first {ps : List E} {a b : Nat} (g : Reach ps a b) : b = a ∨ ∃ e ∈ ps, ∃ j, Bt e a j := by
  induction g with
  | refl => exact .inl rfl
  | step e _ m t ih =>
    rcases ih with rfl | ih
    · exact .inr ⟨e, m, _, t⟩
    · exact .inr ih
/-- good bars: no two alike, the lower knot first, all knots below N -/
structure Good (N : Nat) (ps : List E) : Prop where
  nd : ps.Nodup
  lt : ∀ e ∈ ps, e.1 < e.2
  lo : ∀ e ∈ ps, e.2 < N
def del (ps : List E) (e : E) : List E := ps.filter fun p => p != e
theorem mem_del {ps : List E} {e p : E} : p ∈ del ps e ↔ p ∈ ps ∧ p ≠ e := by
  unfold del
  rw [List.mem_filter, bne_iff_ne]
theorem Good.del {N : Nat} {ps : List E} (g : Good N ps) (e : E) : Good N (del ps e) :=
  ⟨g.nd.filter _, fun p h => g.lt p (mem_del.mp h).1, fun p h => g.lo p (mem_del.mp h).1⟩
theorem del_perm {ps : List E} (nd : ps.Nodup) {e : E} (h : e ∈ ps) : ps.Perm (e :: del ps e) := by
  have p := List.perm_cons_erase h
  rw [nd.erase_eq_filter] at p
  exact p
theorem del_length {ps : List E} (nd : ps.Nodup) {e : E} (h : e ∈ ps) : ps.length = (del ps e).length + 1 := by
  rw [(del_perm nd h).length_eq]
  rfl
def deg (ps : List E) (k : Nat) : Nat := ps.countP fun e => e.1 == k || e.2 == k
def ind (a v : Nat) : Nat := if a = v then 1 else 0
theorem ind_same (a : Nat) : ind a a = 1 := if_pos rfl
theorem ind_ne {a v : Nat} (h : a ≠ v) : ind a v = 0 := if_neg h
theorem deg_cons {e : E} (h : e.1 < e.2) (ps : List E) (v : Nat) : deg (e :: ps) v = deg ps v + ind e.1 v + ind e.2 v := by
  unfold deg ind
  rw [List.countP_cons]
  by_cases h1 : e.1 = v
  · have h2 : ¬ e.2 = v := by omega
    simp [h1, h2]
  · by_cases h2 : e.2 = v
    · simp [h1, h2]
    · simp [h1, h2]
theorem deg_del {N : Nat} {ps : List E} (g : Good N ps) {e : E} (h : e ∈ ps) (v : Nat) : deg ps v = deg (del ps e) v + ind e.1 v + ind e.2 v := by
  rw [← deg_cons (g.lt e h)]
  exact (del_perm g.nd h).countP_eq _
theorem bt_ind {e : E} {k j : Nat} (h : Bt e k j) (v : Nat) : ind e.1 v + ind e.2 v = ind k v + ind j v := by
  rcases h with ⟨rfl, rfl⟩ | ⟨rfl, rfl⟩
  · rfl
  · exact Nat.add_comm _ _
theorem deg_pos {ps : List E} {k : Nat} (h : 0 < deg ps k) : ∃ e ∈ ps, ∃ j, Bt e k j := by
  unfold deg at h
  rw [List.countP_pos_iff] at h
  obtain ⟨e, m, q⟩ := h
  rw [Bool.or_eq_true, beq_iff_eq, beq_iff_eq] at q
  rcases q with q | q
  · exact ⟨e, m, e.2, .inl ⟨q, rfl⟩⟩
  · exact ⟨e, m, e.1, .inr ⟨rfl, q⟩⟩
theorem bt_lt {N : Nat} {ps : List E} (g : Good N ps) {e : E} (h : e ∈ ps) {k j : Nat} (t : Bt e k j) : k < N ∧ j < N ∧ k ≠ j := by
  have h1 := g.lt e h
  have h2 := g.lo e h
  rcases t with ⟨rfl, rfl⟩ | ⟨rfl, rfl⟩
  · exact ⟨by omega, by omega, by omega⟩
  · exact ⟨by omega, by omega, by omega⟩
/-- the odd knots are just k and m (none, if these are one) -/
def Par (ps : List E) (k m : Nat) : Prop := ∀ v, deg ps v % 2 = (ind k v + ind m v) % 2
theorem par_del {N : Nat} {ps : List E} (g : Good N ps) {e : E} (h : e ∈ ps) {k j : Nat} (t : Bt e k j) (m : Nat) : Par ps k m ↔ Par (del ps e) j m := by
  unfold Par
  constructor
  · intro q v
    have q1 := q v
    have q2 := deg_del g h v
    have q3 := bt_ind t v
    omega
  · intro q v
    have q1 := q v
    have q2 := deg_del g h v
    have q3 := bt_ind t v
    omega
theorem par_nil {k m : Nat} : Par [] k m ↔ k = m := by
  unfold Par
  constructor
  · intro q
    have q1 := q k
    by_cases e : m = k
    · exact e.symm
    · have z : deg [] k = 0 := rfl
      rw [ind_same, ind_ne e, z] at q1
      exact absurd q1 (by decide)
  · rintro rfl v
    have : deg [] v = 0 := rfl
    omega
/-- a way from k over all of ps -/
inductive HasT : List E → Nat → Prop
  | nil (k : Nat) : HasT [] k
  | step {ps : List E} {k j : Nat} (e : E) : e ∈ ps → Bt e k j → HasT (del ps e) j → HasT ps k
def Joined (ps : List E) (k : Nat) : Prop := ∀ e ∈ ps, Reach ps k e.1
theorem HasT.to {N : Nat} {ps : List E} {k : Nat} (h : HasT ps k) : Good N ps → (∃ m, Par ps k m) ∧ Joined ps k := by
  induction h with
  | nil k => exact fun _ => ⟨⟨k, par_nil.mpr rfl⟩, fun _ h => absurd h (by simp)⟩
  | @step ps k j e h t r ih =>
    intro g
    obtain ⟨⟨m, p⟩, q⟩ := ih (g.del e)
    refine ⟨⟨m, (par_del g h t m).mpr p⟩, fun e' h' => ?_⟩
    have kj : Reach ps k j := Reach.one e h t
    by_cases z : e' = e
    · subst z
      rcases t with ⟨z1, z2⟩ | ⟨z1, z2⟩
      · rw [z1]
        exact .refl
      · rw [z1]
        exact kj
    · exact kj.trans ((q e' (mem_del.mpr ⟨h', z⟩)).mono fun p hp => (mem_del.mp hp).1)
/-! sums over knots -/
def sumR (f : Nat → Nat) : Nat → Nat
  | 0 => 0
  | n + 1 => sumR f n + f n
theorem sumR_add (f g : Nat → Nat) : ∀ n, sumR (fun v => f v + g v) n = sumR f n + sumR g n
  | 0 => rfl
  | n + 1 => by
    have ih := sumR_add f g n
    show sumR _ n + (f n + g n) = sumR f n + f n + (sumR g n + g n)
    omega
theorem sumR_zero : ∀ n, sumR (fun _ => 0) n = 0
  | 0 => rfl
  | n + 1 => sumR_zero n
theorem sumR_congr {f g : Nat → Nat} (h : ∀ v, f v = g v) (n : Nat) : sumR f n = sumR g n := by
  rw [show f = g from funext h]
theorem sumR_mod {f g : Nat → Nat} (h : ∀ v, f v % 2 = g v % 2) : ∀ n, sumR f n % 2 = sumR g n % 2
  | 0 => rfl
  | n + 1 => by
    have ih := sumR_mod h n
    have q := h n
    show (sumR f n + f n) % 2 = (sumR g n + g n) % 2
    omega
theorem sumR_ind (S : Nat → Nat) (a : Nat) : ∀ n, sumR (fun v => S v * ind a v) n = if a < n then S a else 0
  | 0 => rfl
  | n + 1 => by
    have ih := sumR_ind S a n
    show sumR (fun v => S v * ind a v) n + S n * ind a n = _
    rw [ih]
    by_cases e : a = n
    · subst e
      rw [ind_same, if_neg (Nat.lt_irrefl _), if_pos (Nat.lt_succ_self _)]
      omega
    · rw [ind_ne e]
      by_cases l : a < n
      · rw [if_pos l, if_pos (by omega)]
        omega
      · rw [if_neg l, if_neg (by omega)]
        omega
theorem hand {N : Nat} {S : Nat → Nat} : ∀ {ps : List E}, Good N ps → (∀ e ∈ ps, S e.1 = S e.2) → sumR (fun v => S v * deg ps v) N % 2 = 0
  | [], _, _ => by
    rw [sumR_congr (g := fun _ => 0) (fun v => by show S v * 0 = 0; omega), sumR_zero]
  | e :: ps, g, h => by
    have g' : Good N ps := ⟨(List.nodup_cons.mp g.nd).2, fun p q => g.lt p (List.mem_cons_of_mem _ q), fun p q => g.lo p (List.mem_cons_of_mem _ q)⟩
    have ih := hand g' fun p q => h p (List.mem_cons_of_mem _ q)
    have l1 := g.lt e List.mem_cons_self
    have l2 := g.lo e List.mem_cons_self
    have l3 := h e List.mem_cons_self
    rw [sumR_congr (g := fun v => (S v * deg ps v + S v * ind e.1 v) + S v * ind e.2 v) (fun v => by rw [deg_cons l1, Nat.mul_add, Nat.mul_add])]
    rw [sumR_add, sumR_add, sumR_ind, sumR_ind, if_pos (by omega), if_pos l2, l3]
    omega
/-- a set of knots that no bar leaves: with j it has m -/
theorem other_in {N : Nat} {ps : List E} (g : Good N ps) {j m : Nat} (hj : j < N) (p : Par ps j m) (S : Nat → Prop) (cl : ∀ e ∈ ps, (S e.1 ↔ S e.2)) (sj : S j) : S m := by
  classical
  let T : Nat → Nat := fun v => if S v then 1 else 0
  have q := hand (S := T) g fun e h => by
    by_cases z : S e.1
    · rw [show T e.1 = 1 from if_pos z, show T e.2 = 1 from if_pos ((cl e h).mp z)]
    · rw [show T e.1 = 0 from if_neg z, show T e.2 = 0 from if_neg fun y => z ((cl e h).mpr y)]
  have q2 : sumR (fun v => T v * deg ps v) N % 2 = sumR (fun v => T v * ind j v + T v * ind m v) N % 2 := sumR_mod (fun v => by
    have := p v
    by_cases z : S v
    · rw [show T v = 1 from if_pos z]
      omega
    · rw [show T v = 0 from if_neg z]
      omega) N
  rw [q, sumR_add, sumR_ind, sumR_ind, if_pos hj, show T j = 1 from if_pos sj] at q2
  by_cases z : S m
  · exact z
  · rw [show T m = 0 from if_neg z] at q2
    exfalso
    by_cases y : m < N
    · rw [if_pos y] at q2
      omega
    · rw [if_neg y] at q2
      omega
theorem reach_closed {ps : List E} (s : Nat) (e : E) (h : e ∈ ps) : Reach ps s e.1 ↔ Reach ps s e.2 :=
  ⟨fun r => .step e r h (.inl ⟨rfl, rfl⟩), fun r => .step e r h (.inr ⟨rfl, rfl⟩)⟩
/-- a bar that is no bridge -/
theorem joined_back {ps : List E} {k j : Nat} {e : E} (t : Bt e k j) (q : Joined ps k) (r : Reach (del ps e) j k) : Joined (del ps e) j := by
  have a : ∀ v, Reach ps k v → Reach (del ps e) j v := fun v w => by
    induction w with
    | refl => exact r
    | @step v u e' _ h' t' ih =>
      by_cases z : e' = e
      · subst z
        rcases t with ⟨z1, z2⟩ | ⟨z1, z2⟩ <;> rcases t' with ⟨z3, z4⟩ | ⟨z3, z4⟩
        · rw [← z4, z2]; exact .refl
        · rw [← z3, z1]; exact r
        · rw [← z4, z2]; exact r
        · rw [← z3, z1]; exact .refl
      · exact .step e' ih (mem_del.mpr ⟨h', z⟩) t'
  exact fun e' h' => a _ (q e' (mem_del.mp h').1)
/-- the only bar at a knot -/
theorem joined_leaf {ps : List E} {k j : Nat} {e : E} (t : Bt e k j) (q : Joined ps k) (only : ∀ e' ∈ ps, ∀ u, Bt e' k u → e' = e) : Joined (del ps e) j := by
  have a : ∀ v, Reach ps k v → v = k ∨ Reach (del ps e) j v := fun v w => by
    induction w with
    | refl => exact .inl rfl
    | @step v u e' _ h' t' ih =>
      by_cases z : e' = e
      · subst z
        rcases t with ⟨z1, z2⟩ | ⟨z1, z2⟩ <;> rcases t' with ⟨z3, z4⟩ | ⟨z3, z4⟩
        · rw [← z4, z2]; exact .inr .refl
        · rw [← z3, z1]; exact .inl rfl
        · rw [← z4, z2]; exact .inl rfl
        · rw [← z3, z1]; exact .inr .refl
      · rcases ih with rfl | ih
        · exact absurd (only e' h' _ t') z
        · exact .inr (.step e' ih (mem_del.mpr ⟨h', z⟩) t')
  intro e' h'
  obtain ⟨h1, h2⟩ := mem_del.mp h'
  rcases a _ (q e' h1) with z | z
  · exact absurd (only e' h1 e'.2 (.inl ⟨z, rfl⟩)) h2
  · exact z
/-- one step of the way can always be taken so that the rest can be gone -/
theorem goes_on {N : Nat} {ps : List E} (g : Good N ps) {k m : Nat} (p : Par ps k m) (q : Joined ps k) (h0 : ps ≠ []) : ∃ e ∈ ps, ∃ j, Bt e k j ∧ Joined (del ps e) j := by
  classical
  obtain ⟨e, he, j, t⟩ : ∃ e ∈ ps, ∃ j, Bt e k j := by
    cases ps with
    | nil => exact absurd rfl h0
    | cons e r =>
      rcases (q e List.mem_cons_self).first with z | z
      · exact ⟨e, List.mem_cons_self, e.2, .inl ⟨z, rfl⟩⟩
      · exact z
  have br : ∀ e ∈ ps, ∀ j, Bt e k j → ¬ Reach (del ps e) j k → Reach (del ps e) j m := fun e he j t _ =>
    other_in (g.del e) (bt_lt g he t).2.1 ((par_del g he t m).mp p) (Reach (del ps e) j) (fun e' h' => reach_closed j e' h') .refl
  by_cases r : Reach (del ps e) j k
  · exact ⟨e, he, j, t, joined_back t q r⟩
  by_cases only : ∀ e' ∈ ps, ∀ u, Bt e' k u → e' = e
  · exact ⟨e, he, j, t, joined_leaf t q only⟩
  obtain ⟨e2, h2, j2, t2, ne⟩ : ∃ e2 ∈ ps, ∃ j2, Bt e2 k j2 ∧ e2 ≠ e := by
    apply Classical.byContradiction
    intro no
    exact only fun e' h' u t' => Classical.byContradiction fun z => no ⟨e', h', u, t', z⟩
  by_cases r2 : Reach (del ps e2) j2 k
  · exact ⟨e2, h2, j2, t2, joined_back t2 q r2⟩
  exfalso
  have m1 := br e he j t r
  have m2 := br e2 h2 j2 t2 r2
  have a : ∀ v, Reach (del ps e2) j2 v → Reach (del ps e) j2 v := fun v w => by
    induction w with
    | refl => exact .refl
    | @step v u e' w' h' t' ih =>
      obtain ⟨y1, y2⟩ := mem_del.mp h'
      refine .step e' ih (mem_del.mpr ⟨y1, fun z => ?_⟩) t'
      have w2 : Reach (del ps e2) j2 u := .step e' w' h' t'
      subst z
      rcases t with ⟨z1, z2⟩ | ⟨z1, z2⟩ <;> rcases t' with ⟨z3, z4⟩ | ⟨z3, z4⟩
      · rw [← z3, z1] at w'; exact r2 w'
      · rw [← z3, z1] at w2; exact r2 w2
      · rw [← z4, z2] at w2; exact r2 w2
      · rw [← z4, z2] at w'; exact r2 w'
  have b : Reach (del ps e) j j2 := m1.trans (a m m2).symm
  exact r (.step e2 b (mem_del.mpr ⟨h2, ne⟩) t2.symm)
theorem euler_n {N : Nat} : ∀ (n : Nat) {ps : List E}, ps.length = n → Good N ps → ∀ {k m : Nat}, Par ps k m → Joined ps k → HasT ps k
  | 0, ps, hn, _, k, m, _, _ => by
    rw [List.eq_nil_of_length_eq_zero hn]
    exact .nil k
  | n + 1, ps, hn, g, k, m, p, q => by
    have h0 : ps ≠ [] := fun z => by
      subst z
      cases hn
    obtain ⟨e, he, j, t, q2⟩ := goes_on g p q h0
    have l := del_length g.nd he
    exact .step e he t (euler_n n (by omega) (g.del e) ((par_del g he t m).mp p) q2)
/-- a way over all of ps from k: by the odd knots and by what hangs together -/
theorem euler {N : Nat} {ps : List E} (g : Good N ps) {k : Nat} : HasT ps k ↔ (∃ m, Par ps k m) ∧ Joined ps k :=
  ⟨fun h => h.to g, fun ⟨⟨_, p⟩, q⟩ => euler_n _ rfl g p q⟩
/-! the odd knots as a list -/
def oddK (N : Nat) (ps : List E) : List Nat := (List.range N).filter fun k => deg ps k % 2 == 1
theorem mem_oddK {N : Nat} {ps : List E} {v : Nat} : v ∈ oddK N ps ↔ v < N ∧ deg ps v % 2 = 1 := by
  unfold oddK
  rw [List.mem_filter, List.mem_range, beq_iff_eq]
theorem oddK_nd (N : Nat) (ps : List E) : (oddK N ps).Nodup := List.nodup_range.filter _
theorem deg_zero {N : Nat} {ps : List E} (g : Good N ps) {v : Nat} (h : ¬ v < N) : deg ps v = 0 := by
  rcases Nat.eq_zero_or_pos (deg ps v) with z | z
  · exact z
  · obtain ⟨e, m, j, t⟩ := deg_pos z
    exact absurd (bt_lt g m t).1 h
theorem oddK_iff {N : Nat} {ps : List E} (g : Good N ps) {v : Nat} : v ∈ oddK N ps ↔ deg ps v % 2 = 1 := by
  rw [mem_oddK]
  refine ⟨fun h => h.2, fun h => ⟨?_, h⟩⟩
  apply Classical.byContradiction
  intro z
  rw [deg_zero g z] at h
  exact absurd h (by decide)
theorem par_iff {N : Nat} {ps : List E} (g : Good N ps) {k : Nat} : (∃ m, Par ps k m) ↔ (oddK N ps = [] ∨ ((oddK N ps).length = 2 ∧ k ∈ oddK N ps)) := by
  constructor
  · rintro ⟨m, p⟩
    have mem : ∀ v, v ∈ oddK N ps ↔ (ind k v + ind m v) % 2 = 1 := fun v => by rw [oddK_iff g, p v]
    by_cases e : k = m
    · left
      subst e
      rw [List.eq_nil_iff_forall_not_mem]
      intro v h
      have := (mem v).mp h
      omega
    · right
      have hk : k ∈ oddK N ps := (mem k).mpr (by rw [ind_same, ind_ne (Ne.symm e)])
      have hm : m ∈ oddK N ps := (mem m).mpr (by rw [ind_same, ind_ne e])
      refine ⟨?_, hk⟩
      have all : ∀ v ∈ oddK N ps, v = k ∨ v = m := fun v h => by
        have q := (mem v).mp h
        by_cases a : k = v
        · exact .inl a.symm
        · by_cases b : m = v
          · exact .inr b.symm
          · rw [ind_ne a, ind_ne b] at q
            exact absurd q (by decide)
      have pm := List.perm_cons_erase hk
      have nd := oddK_nd N ps
      have nd2 : ((oddK N ps).erase k).Nodup := nd.erase k
      have em : ∀ v, v ∈ (oddK N ps).erase k ↔ v = m := fun v => by
        rw [nd.mem_erase_iff]
        constructor
        · rintro ⟨a, b⟩
          exact (all v b).resolve_left a
        · rintro rfl
          exact ⟨fun z => e z.symm, hm⟩
      have l1 : ((oddK N ps).erase k).length = 1 := by
        cases c : (oddK N ps).erase k with
        | nil =>
          have := (em m).mpr rfl
          rw [c] at this
          cases this
        | cons a r =>
          rw [c] at em nd2
          cases r with
          | nil => rfl
          | cons b r =>
            have a1 := (em a).mp List.mem_cons_self
            have b1 := (em b).mp (List.mem_cons_of_mem _ List.mem_cons_self)
            rw [a1, b1] at nd2
            exact absurd nd2 (by simp)
      rw [pm.length_eq, List.length_cons, l1]
  · rintro (h | ⟨h, hk⟩)
    · refine ⟨k, fun v => ?_⟩
      have : v ∉ oddK N ps := by
        rw [h]
        simp
      rw [oddK_iff g] at this
      omega
    · have nd := oddK_nd N ps
      have pm := List.perm_cons_erase hk
      have l1 : ((oddK N ps).erase k).length = 1 := by
        have := pm.length_eq
        rw [List.length_cons] at this
        omega
      obtain ⟨m, hm⟩ := List.length_eq_one_iff.mp l1
      refine ⟨m, fun v => ?_⟩
      have em := nd.mem_erase_iff (a := v) (b := k)
      rw [hm, List.mem_singleton] at em
      have ek : k ≠ m := fun z => by
        have := (nd.mem_erase_iff (a := k) (b := k)).mp (by rw [hm, List.mem_singleton]; exact z)
        exact this.1 rfl
      by_cases a : k = v
      · subst a
        rw [ind_same, ind_ne (Ne.symm ek)]
        exact (oddK_iff g).mp hk
      · by_cases b : m = v
        · rw [ind_ne a, b, ind_same]
          exact (oddK_iff g).mp (em.mp b.symm).2
        · rw [ind_ne a, ind_ne b]
          have : v ∉ oddK N ps := fun z => b (em.mpr ⟨fun y => a y.symm, z⟩).symm
          rw [oddK_iff g] at this
          omega
/-- the count of odd knots is even -/
theorem oddK_even {N : Nat} {ps : List E} (g : Good N ps) : (oddK N ps).length % 2 = 0 := by
  have q := hand (S := fun _ => 1) g fun _ _ => rfl
  have a : ∀ n, ((List.range n).filter fun k => deg ps k % 2 == 1).length % 2 = sumR (fun v => 1 * deg ps v) n % 2 := fun n => by
    induction n with
    | zero => rfl
    | succ n ih =>
      rw [List.range_succ, List.filter_append, List.length_append]
      show _ = (sumR (fun v => 1 * deg ps v) n + 1 * deg ps n) % 2
      by_cases z : deg ps n % 2 = 1
      · have : ([n].filter fun k => deg ps k % 2 == 1) = [n] := by simp [z]
        rw [this, List.length_singleton]
        omega
      · have : ([n].filter fun k => deg ps k % 2 == 1) = [] := by simp [z]
        rw [this, List.length_nil]
        omega
  unfold oddK
  rw [a N]
  exact q
/-- some way over all of ps -/
theorem some_way {N : Nat} {ps : List E} (g : Good N ps) {e : E} (he : e ∈ ps) (h2 : (oddK N ps).length ≤ 2) (q : Joined ps e.1) : ∃ k, k < N ∧ HasT ps k := by
  have ev := oddK_even g
  have cases3 : oddK N ps = [] ∨ (oddK N ps).length = 2 := by
    cases c : oddK N ps with
    | nil => exact .inl rfl
    | cons a r =>
      rw [c] at ev h2
      right
      rw [List.length_cons] at *
      omega
  rcases cases3 with c | c
  · refine ⟨e.1, ?_, (euler g).mpr ⟨(par_iff g).mpr (.inl c), q⟩⟩
    have := g.lt e he
    have := g.lo e he
    omega
  · have : oddK N ps ≠ [] := fun z => by
      rw [z] at c
      cases c
    obtain ⟨k, r, hk⟩ := List.exists_cons_of_ne_nil this
    have mk : k ∈ oddK N ps := by
      rw [hk]
      exact List.mem_cons_self
    refine ⟨k, (mem_oddK.mp mk).1, (euler g).mpr ⟨(par_iff g).mpr (.inr ⟨c, mk⟩), ?_⟩⟩
    obtain ⟨e2, m2, j, t⟩ := deg_pos (ps := ps) (k := k) (by
      have := (mem_oddK.mp mk).2
      omega)
    have r1 : Reach ps e.1 k := by
      have r2 := q e2 m2
      rcases t with ⟨z1, _⟩ | ⟨z1, z2⟩
      · rw [← z1]
        exact r2
      · rw [← z2]
        exact .step e2 r2 m2 (.inl ⟨rfl, rfl⟩)
    exact fun e' h' => r1.symm.trans (q e' h')
end Nm

namespace Nm
open Uw24
/-- the bar between two knots -/
def mk (k j : Nat) : E := (min k j, max k j)
theorem bt_mk {e : E} (h : e.1 < e.2) {k j : Nat} : Bt e k j ↔ e = mk k j := by
  obtain ⟨a, b⟩ := e
  unfold Bt mk
  simp only [Prod.mk.injEq]
  simp only at h
  omega
theorem mk_bt {N : Nat} {ps : List E} (g : Good N ps) {k j : Nat} (h : mk k j ∈ ps) : Bt (mk k j) k j := (bt_mk (g.lt _ h)).mpr rfl
/-! nets -/
structure Ok (n : Net) : Prop where
  w2 : 2 ≤ n.wide
  w4 : n.wide ≤ 4
  h2 : 2 ≤ n.high
  h4 : n.high ≤ 4
  up : n.torn.Pairwise (· < ·)
  lo : ∀ b ∈ n.torn, b < n.bars
  t8 : n.torn.length ≤ 8
def net (w h : Nat) : Net := ⟨w, h, []⟩
def sizes : List Nat := [2, 3, 4]
theorem sizes_of {a : Nat} (h : 2 ≤ a) (h' : a ≤ 4) : a ∈ sizes := by
  have : a = 2 ∨ a = 3 ∨ a = 4 := by omega
  rcases this with rfl | rfl | rfl <;> decide
theorem ends_all : ∀ w ∈ sizes, ∀ h ∈ sizes, ∀ b ∈ List.range (net w h).bars, ((net w h).ends b).1 < ((net w h).ends b).2 ∧ ((net w h).ends b).2 < w * h := by decide +kernel
theorem ends_inj_all : ∀ w ∈ sizes, ∀ h ∈ sizes, ∀ b ∈ List.range (net w h).bars, ∀ c ∈ List.range (net w h).bars, (net w h).ends b = (net w h).ends c → b = c := by decide +kernel
theorem bars_le_all : ∀ w ∈ sizes, ∀ h ∈ sizes, (net w h).bars ≤ 24 ∧ w * h ≤ 16 := by decide +kernel
theorem ends_net (n : Net) (b : Nat) : n.ends b = (net n.wide n.high).ends b := rfl
theorem bars_net (n : Net) : n.bars = (net n.wide n.high).bars := rfl
theorem Ok.ends {n : Net} (o : Ok n) {b : Nat} (h : b < n.bars) : (n.ends b).1 < (n.ends b).2 ∧ (n.ends b).2 < n.knots :=
  ends_all _ (sizes_of o.w2 o.w4) _ (sizes_of o.h2 o.h4) b (List.mem_range.mpr h)
theorem Ok.inj {n : Net} (o : Ok n) {b c : Nat} (h : b < n.bars) (h' : c < n.bars) (e : n.ends b = n.ends c) : b = c :=
  ends_inj_all _ (sizes_of o.w2 o.w4) _ (sizes_of o.h2 o.h4) b (List.mem_range.mpr h) c (List.mem_range.mpr h') e
theorem Ok.bars_le {n : Net} (o : Ok n) : n.bars ≤ 24 := (bars_le_all _ (sizes_of o.w2 o.w4) _ (sizes_of o.h2 o.h4)).1
theorem Ok.knots_le {n : Net} (o : Ok n) : n.knots ≤ 16 := (bars_le_all _ (sizes_of o.w2 o.w4) _ (sizes_of o.h2 o.h4)).2
theorem Ok.init : Ok init := ⟨by decide, by decide, by decide, by decide, .nil, fun _ h => absurd h (by simp [Uw24.init]), by decide⟩
/-- the program's bars -/
def barsP (w h : Nat) : List E := ((List.range h).flatMap fun y => (List.range (w - 1)).map fun x => (y * w + x, y * w + x + 1)) ++ ((List.range (h - 1)).flatMap fun y => (List.range w).map fun x => (y * w + x, y * w + x + w))
theorem bars_all : ∀ w ∈ sizes, ∀ h ∈ sizes, barsP w h = (List.range (net w h).bars).map (net w h).ends := by decide +kernel
theorem Ok.barsP {n : Net} (o : Ok n) : barsP n.wide n.high = (List.range n.bars).map n.ends := bars_all _ (sizes_of o.w2 o.w4) _ (sizes_of o.h2 o.h4)
/-- some bars of the net, no two alike -/
structure Some (n : Net) (l : List Nat) : Prop where
  nd : l.Nodup
  lo : ∀ b ∈ l, b < n.bars
theorem Some.good {n : Net} (o : Ok n) {l : List Nat} (s : Some n l) : Good n.knots (l.map n.ends) := by
  refine ⟨?_, fun e h => ?_, fun e h => ?_⟩
  · have nd := s.nd
    have lo := s.lo
    clear s
    induction l with
    | nil => exact List.nodup_nil
    | cons b r ih =>
      rw [List.map_cons, List.nodup_cons]
      rw [List.nodup_cons] at nd
      refine ⟨fun h => ?_, ih nd.2 fun c h => lo c (List.mem_cons_of_mem _ h)⟩
      obtain ⟨c, hc, e⟩ := List.mem_map.mp h
      have := o.inj (lo c (List.mem_cons_of_mem _ hc)) (lo b List.mem_cons_self) e
      subst this
      exact nd.1 hc
  · obtain ⟨b, hb, rfl⟩ := List.mem_map.mp h
    exact (o.ends (s.lo b hb)).1
  · obtain ⟨b, hb, rfl⟩ := List.mem_map.mp h
    exact (o.ends (s.lo b hb)).2
theorem Some.del {n : Net} {l : List Nat} (s : Some n l) (x : Nat) : Some n (l.filter fun y => y != x) := ⟨s.nd.filter _, fun b h => s.lo b (List.mem_filter.mp h).1⟩
theorem map_del {n : Net} (o : Ok n) {l : List Nat} (s : Some n l) {x : Nat} (hx : x ∈ l) : (l.filter fun y => y != x).map n.ends = del (l.map n.ends) (n.ends x) := by
  unfold Nm.del
  rw [List.filter_map]
  congr 1
  apply List.filter_congr
  intro b hb
  show (b != x) = (n.ends b != n.ends x)
  by_cases e : b = x
  · subst e
    simp
  · have : n.ends b ≠ n.ends x := fun z => e (o.inj (s.lo b hb) (s.lo x hx) z)
    rw [bne_iff_ne.mpr e, bne_iff_ne.mpr this]
theorem legs_deg (n : Net) (l : List Nat) (k : Nat) : n.legs l k = deg (l.map n.ends) k := by
  unfold Net.legs deg
  rw [List.countP_map, List.countP_eq_length_filter]
  rfl
theorem odd_oddK (n : Net) (l : List Nat) : n.odd l = oddK n.knots (l.map n.ends) := by
  unfold Net.odd oddK
  simp only [legs_deg]
theorem over_iff {n : Net} {k b j : Nat} : n.over k b = some j ↔ Bt (n.ends b) k j ∧ ((n.ends b).1 = k ∨ (n.ends b).1 ≠ k) := by
  unfold Net.over Bt
  by_cases h : (n.ends b).1 = k
  · rw [if_pos h, Option.some_inj]
    constructor
    · exact fun e => ⟨.inl ⟨h, e⟩, .inl h⟩
    · rintro ⟨⟨_, e⟩ | ⟨e, f⟩, _⟩
      · exact e
      · omega
  · rw [if_neg h]
    by_cases h2 : (n.ends b).2 = k
    · rw [if_pos h2, Option.some_inj]
      constructor
      · exact fun e => ⟨.inr ⟨e, h2⟩, .inr h⟩
      · rintro ⟨⟨e, _⟩ | ⟨e, f⟩, _⟩
        · exact absurd e h
        · exact e
    · rw [if_neg h2]
      constructor
      · intro e
        cases e
      · rintro ⟨⟨e, _⟩ | ⟨e, f⟩, _⟩
        · exact absurd e h
        · exact absurd f h2
theorem over_mk {n : Net} (o : Ok n) {k b j : Nat} (h : b < n.bars) : n.over k b = some j ↔ n.ends b = mk k j := by
  rw [over_iff, bt_mk (o.ends h).1]
  exact ⟨fun h => h.1, fun h => ⟨h, Decidable.em _⟩⟩
/-- the search for a bar, by its knots -/
theorem find_over {n : Net} (o : Ok n) {l : List Nat} (s : Some n l) (k j : Nat) :
    (∃ x, x ∈ l ∧ n.ends x = mk k j ∧ l.find? (fun x => n.over k x == some j) = some x) ∧ mk k j ∈ l.map n.ends ∨ l.find? (fun x => n.over k x == some j) = none ∧ mk k j ∉ l.map n.ends := by
  cases c : l.find? (fun x => n.over k x == some j) with
  | none =>
    refine .inr ⟨rfl, fun h => ?_⟩
    obtain ⟨x, hx, e⟩ := List.mem_map.mp h
    have := List.find?_eq_none.mp c x hx
    rw [beq_iff_eq, over_mk o (s.lo x hx)] at this
    exact this e
  | some x =>
    have hx := List.mem_of_find?_eq_some c
    have q := List.find?_some c
    rw [beq_iff_eq, over_mk o (s.lo x hx)] at q
    exact .inl ⟨⟨x, hx, q, rfl⟩, List.mem_map.mpr ⟨x, hx, q⟩⟩
/-- whether knots are a way over all of ps -/
def isWay : List E → List Nat → Bool
  | l, a :: b :: r => if mk a b ∈ l then isWay (del l (mk a b)) (b :: r) else false
  | l, _ => l.isEmpty
theorem walks_isWay {n : Net} (o : Ok n) : ∀ {l : List Nat}, Some n l → ∀ w : List Nat, n.walks l w = isWay (l.map n.ends) w
  | [], _, [] => rfl
  | [], _, [_] => rfl
  | _ :: _, _, [] => rfl
  | _ :: _, _, [_] => rfl
  | l, s, a :: b :: r => by
    rw [isWay, Net.walks]
    rcases find_over o s a b with ⟨⟨x, hx, e, f⟩, h⟩ | ⟨f, h⟩
    · rw [f, if_pos h]
      show n.walks (l.filter fun y => y != x) (b :: r) = _
      rw [walks_isWay o (s.del x) (b :: r), map_del o s hx, e]
    · rw [f, if_neg h]
/-- the first way in the order of knots -/
def firstP (N : Nat) : Nat → List E → Nat → Option (List Nat)
  | _, [], k => some [k]
  | 0, _ :: _, _ => none
  | f + 1, e :: l, k => (List.range N).findSome? fun j => if mk k j ∈ e :: l then (firstP N f (del (e :: l) (mk k j)) j).map fun w => k :: w else none
theorem firstP_succ (N f : Nat) {l : List E} (h : l ≠ []) (k : Nat) : firstP N (f + 1) l k = (List.range N).findSome? fun j => if mk k j ∈ l then (firstP N f (del l (mk k j)) j).map fun w => k :: w else none := by
  cases l with
  | nil => exact absurd rfl h
  | cons e l => rfl
theorem first_firstP {n : Net} (o : Ok n) : ∀ (f : Nat) {l : List Nat}, Some n l → ∀ k : Nat, n.first f l k = firstP n.knots f (l.map n.ends) k
  | 0, [], _, _ => rfl
  | _ + 1, [], _, _ => rfl
  | 0, _ :: _, _, _ => rfl
  | f + 1, b :: r, s, k => by
    rw [firstP_succ _ _ (by simp), Net.first]
    · congr 1
      funext j
      rcases find_over o s k j with ⟨⟨x, hx, e, g⟩, h⟩ | ⟨g, h⟩
      · rw [g, if_pos h]
        show Option.map _ (n.first f ((b :: r).filter fun y => y != x) j) = _
        rw [first_firstP o f (s.del x) j, map_del o s hx, e]
      · rw [g, if_neg h]
    · simp
theorem firstP_some {N : Nat} : ∀ (f : Nat) {ps : List E}, Good N ps → ps.length ≤ f → ∀ k, ((firstP N f ps k).isSome = true ↔ HasT ps k)
  | f, [], _, _, k => by
    cases f <;> exact ⟨fun _ => .nil k, fun _ => rfl⟩
  | 0, _ :: _, _, h, _ => absurd h (by simp)
  | f + 1, e :: r, g, h, k => by
    rw [firstP_succ _ _ (by simp), List.findSome?_isSome_iff]
    constructor
    · rintro ⟨j, hj, q⟩
      by_cases m : mk k j ∈ e :: r
      · rw [if_pos m, Option.isSome_map] at q
        have l := del_length g.nd m
        exact .step _ m (mk_bt g m) ((firstP_some f (g.del _) (by rw [List.length_cons] at *; omega) j).mp q)
      · rw [if_neg m] at q
        cases q
    · intro q
      cases q with
      | @step _ _ j e' m t q =>
        have em := (bt_mk (g.lt _ m)).mp t
        subst em
        have l := del_length g.nd m
        refine ⟨j, List.mem_range.mpr (bt_lt g m t).2.1, ?_⟩
        rw [if_pos m, Option.isSome_map]
        exact (firstP_some f (g.del _) (by rw [List.length_cons] at *; omega) j).mpr q
/-- the knot that the earliest way takes next -/
structure Next (ps : List E) (k j : Nat) : Prop where
  mem : mk k j ∈ ps
  can : HasT (del ps (mk k j)) j
  low : ∀ i, i < j → mk k i ∈ ps → ¬ HasT (del ps (mk k i)) i
theorem findSome_low {α : Type} {f : Nat → Option α} : ∀ {N j : Nat} {x : α}, j < N → f j = some x → (∀ i, i < j → f i = none) → (List.range N).findSome? f = some x
  | N, j, x, hj, h, lo => by
    rw [show N = j + (N - j) by omega, List.range_add, List.findSome?_append]
    have a : (List.range j).findSome? f = none := by
      rw [List.findSome?_eq_none_iff]
      exact fun i hi => lo i (List.mem_range.mp hi)
    have b : N - j = (N - j - 1) + 1 := by omega
    rw [a, b, List.range_succ_eq_map, List.map_cons, List.findSome?_cons]
    show (match f (j + 0) with | some b => some b | none => _) = some x
    rw [Nat.add_zero, h]
theorem next_first {N f : Nat} {ps : List E} (g : Good N ps) (hf : ps.length ≤ f + 1) {k j : Nat} (x : Next ps k j) : ∃ w, firstP N (f + 1) ps k = some (k :: w) ∧ firstP N f (del ps (mk k j)) j = some w := by
  have l := del_length g.nd x.mem
  have q := (firstP_some f (g.del (mk k j)) (by omega) j).mpr x.can
  obtain ⟨w, hw⟩ := Option.isSome_iff_exists.mp q
  refine ⟨w, ?_, hw⟩
  have h0 : ps ≠ [] := fun z => by
    have := x.mem
    rw [z] at this
    cases this
  rw [firstP_succ _ _ h0]
  refine findSome_low (bt_lt g x.mem (mk_bt g x.mem)).2.1 ?_ fun i hi => ?_
  · rw [if_pos x.mem, hw]
    rfl
  · by_cases m : mk k i ∈ ps
    · have l := del_length g.nd m
      rw [if_pos m]
      cases c : firstP N f (del ps (mk k i)) i with
      | none => rfl
      | some w => exact absurd ((firstP_some f (g.del _) (by omega) i).mp (by rw [c]; rfl)) (x.low i hi m)
    · rw [if_neg m]
theorem firstP_head {N : Nat} : ∀ (f : Nat) {ps : List E} {k : Nat} {w : List Nat}, firstP N f ps k = some w → ∃ r, w = k :: r
  | f, [], k, w, h => by
    have : firstP N f [] k = some [k] := by cases f <;> rfl
    rw [this] at h
    exact ⟨[], (Option.some.inj h).symm⟩
  | 0, _ :: _, _, _, h => by cases h
  | f + 1, e :: l, k, w, h => by
    rw [firstP_succ _ _ (by simp)] at h
    obtain ⟨j, _, q⟩ := List.exists_of_findSome?_eq_some h
    by_cases m : mk k j ∈ e :: l
    · rw [if_pos m, Option.map_eq_some_iff] at q
      obtain ⟨a, _, rfl⟩ := q
      exact ⟨a, rfl⟩
    · rw [if_neg m] at q
      cases q
/-! what hangs together -/
theorem touch_of {n : Net} {a b v : Nat} (ha : (n.ends a).1 = v ∨ (n.ends a).2 = v) (hb : (n.ends b).1 = v ∨ (n.ends b).2 = v) : n.touch a b = true := by
  unfold Net.touch
  simp only [Bool.or_eq_true, beq_iff_eq]
  omega
def cnt (l s : List Nat) : Nat := (l.filter fun b => s.contains b).length
theorem grow_full {n : Net} {l : List Nat} {b0 : Nat} (h0 : b0 ∈ l) (q : Joined (l.map n.ends) (n.ends b0).1) : ∀ (f : Nat) (s : List Nat), b0 ∈ s → l.length ≤ f + cnt l s → ∀ b ∈ l, b ∈ n.grow l f s
  | 0, s, _, h, b, hb => by
    have e : (l.filter fun b => s.contains b).length = l.length := Nat.le_antisymm (List.length_filter_le _ _) (by unfold cnt at h; omega)
    have := List.length_filter_eq_length_iff.mp e b hb
    exact List.contains_iff_mem.mp this
  | f + 1, s, hs, h, b, hb => by
    show b ∈ n.grow l f (l.filter fun b => s.contains b || s.any fun c => n.touch b c)
    have sub : ∀ x, (l.filter fun b => s.contains b || s.any fun c => n.touch b c).contains x = true ↔ x ∈ l ∧ (x ∈ s ∨ ∃ c ∈ s, n.touch x c = true) := fun x => by
      rw [List.contains_iff_mem, List.mem_filter, Bool.or_eq_true, List.contains_iff_mem, List.any_eq_true]
    refine grow_full h0 q f _ ?_ ?_ b hb
    · exact List.contains_iff_mem.mp ((sub b0).mpr ⟨h0, .inl hs⟩)
    · by_cases cl : ∀ x ∈ l, (∃ c ∈ s, n.touch x c = true) → x ∈ s
      · have all : ∀ v, Reach (l.map n.ends) (n.ends b0).1 v → ∀ x ∈ l, ((n.ends x).1 = v ∨ (n.ends x).2 = v) → x ∈ s := fun v r => by
          induction r with
          | refl => exact fun x hx t => cl x hx ⟨b0, hs, touch_of t (.inl rfl)⟩
          | @step v u e _ m t ih =>
            intro x hx tx
            obtain ⟨y, hy, rfl⟩ := List.mem_map.mp m
            have ys := ih y hy (t.elim (fun z => .inl z.1) (fun z => .inr z.2))
            exact cl x hx ⟨y, ys, touch_of tx (t.elim (fun z => .inr z.2) (fun z => .inl z.1))⟩
        have e : cnt l (l.filter fun b => s.contains b || s.any fun c => n.touch b c) = l.length := by
          unfold cnt
          rw [List.length_filter_eq_length_iff]
          exact fun x hx => (sub x).mpr ⟨hx, .inl (all _ (q _ (List.mem_map.mpr ⟨x, hx, rfl⟩)) x hx (.inl rfl))⟩
        omega
      · obtain ⟨x, hx, ⟨c, hc, t⟩, no⟩ : ∃ x ∈ l, (∃ c ∈ s, n.touch x c = true) ∧ x ∉ s := by
          apply Classical.byContradiction
          intro z
          exact cl fun x hx t => Classical.byContradiction fun y => z ⟨x, hx, t, y⟩
        have lt : cnt l s < cnt l (l.filter fun b => s.contains b || s.any fun c => n.touch b c) := by
          unfold cnt
          rw [← List.countP_eq_length_filter, ← List.countP_eq_length_filter]
          have := grow_lt (l := l) (p := fun b => s.contains b) (q := fun x => (l.filter fun b => s.contains b || s.any fun c => n.touch b c).contains x) (fun y hy e => (sub y).mpr ⟨hy, .inl (List.contains_iff_mem.mp e)⟩) hx (Bool.eq_false_iff.mpr fun z => no (List.contains_iff_mem.mp z)) ((sub x).mpr ⟨hx, .inr ⟨c, hc, t⟩⟩)
          exact this
        omega
where
  grow_lt {l : List Nat} {p q : Nat → Bool} (h : ∀ y ∈ l, p y = true → q y = true) {x : Nat} (hx : x ∈ l) (h1 : p x = false) (h2 : q x = true) : l.countP p < l.countP q := by
    induction l with
    | nil => cases hx
    | cons a r ih =>
      rw [List.countP_cons, List.countP_cons]
      have le : r.countP p ≤ r.countP q := List.countP_mono_left fun y hy => h y (List.mem_cons_of_mem _ hy)
      rcases List.mem_cons.mp hx with rfl | hr
      · rw [if_neg (by rw [h1]; decide), if_pos h2]
        omega
      · have := ih (fun y hy => h y (List.mem_cons_of_mem _ hy)) hr
        have ha := h a List.mem_cons_self
        by_cases z : p a = true
        · rw [if_pos z, if_pos (ha z)]
          omega
        · rw [if_neg z]
          omega
theorem grow_form (n : Net) (l : List Nat) : ∀ (f : Nat) (s : List Nat), ∃ p : Nat → Bool, n.grow l (f + 1) s = l.filter p
  | 0, _ => ⟨_, rfl⟩
  | f + 1, s => grow_form n l f (l.filter fun b => s.contains b || s.any fun c => n.touch b c)
theorem joined_of {n : Net} {b : Nat} {r : List Nat} (q : Joined ((b :: r).map n.ends) (n.ends b).1) : n.joined (b :: r) = true := by
  have a := grow_full (n := n) (l := b :: r) (b0 := b) List.mem_cons_self q (b :: r).length [b] List.mem_cons_self (by omega)
  obtain ⟨p, hp⟩ := grow_form n (b :: r) r.length [b]
  show ((n.grow (b :: r) (b :: r).length [b]).length == (b :: r).length) = true
  rw [show (b :: r).length = r.length + 1 from rfl] at a ⊢
  rw [hp] at a ⊢
  rw [beq_iff_eq]
  have : (b :: r).filter p = b :: r := List.filter_eq_self.mpr fun x hx => (List.mem_filter.mp (a x hx)).2
  rw [this]
  rfl
/-- a way over all of ps: as the program looks -/
def HasWay (N : Nat) (ps : List E) : Prop := match ps with
  | [] => True
  | e :: _ => (oddK N ps).length ≤ 2 ∧ Joined ps e.1
theorem way_some {n : Net} (o : Ok n) {l : List Nat} (s : Some n l) (h : l ≠ []) : n.way l = (List.range n.knots).findSome? fun k => firstP n.knots l.length (l.map n.ends) k := by
  unfold Net.way
  rw [if_neg h]
  congr 1
  funext k
  exact first_firstP o l.length s k
theorem goes_iff {n : Net} (o : Ok n) {l : List Nat} (s : Some n l) : n.goes l = true ↔ HasWay n.knots (l.map n.ends) := by
  cases l with
  | nil => 
    refine ⟨fun _ => trivial, fun _ => ?_⟩
    unfold Net.goes
    have : n.odd [] = [] := by
      unfold Net.odd
      rw [List.filter_eq_nil_iff]
      intro k _
      show ¬ (0 % 2 == 1) = true
      decide
    rw [this]
    rfl
  | cons b r =>
    have g := s.good o
    unfold Net.goes
    rw [Bool.and_eq_true, Bool.and_eq_true, decide_eq_true_iff, odd_oddK, way_some o s (by simp), List.findSome?_isSome_iff]
    show _ ↔ (oddK n.knots ((b :: r).map n.ends)).length ≤ 2 ∧ Joined ((b :: r).map n.ends) (n.ends b).1
    have m : n.ends b ∈ (b :: r).map n.ends := List.mem_map.mpr ⟨b, List.mem_cons_self, rfl⟩
    have ll : ((b :: r).map n.ends).length ≤ (b :: r).length := by rw [List.length_map]; exact Nat.le_refl _
    constructor
    · rintro ⟨h2, _, k, _, q⟩
      refine ⟨h2, fun e he => ?_⟩
      have t := ((euler g).mp ((firstP_some _ g ll k).mp q)).2
      exact (t _ m).symm.trans (t e he)
    · rintro ⟨h2, q⟩
      refine ⟨h2, joined_of q, ?_⟩
      obtain ⟨k, hk, t⟩ := some_way g m h2 q
      exact ⟨k, List.mem_range.mpr hk, (firstP_some _ g ll k).mpr t⟩
/-- the first knot from which there's a way -/
theorem way_is {n : Net} (o : Ok n) {l : List Nat} (s : Some n l) (h : l ≠ []) {k : Nat} (hk : HasT (l.map n.ends) k) (lt : k < n.knots) (low : ∀ i, i < k → ¬ HasT (l.map n.ends) i) : n.way l = firstP n.knots l.length (l.map n.ends) k := by
  have g := s.good o
  have ll : (l.map n.ends).length ≤ l.length := by rw [List.length_map]; exact Nat.le_refl _
  rw [way_some o s h]
  obtain ⟨w, hw⟩ := Option.isSome_iff_exists.mp ((firstP_some _ g ll k).mpr hk)
  rw [hw]
  refine findSome_low lt hw fun i hi => ?_
  cases c : firstP n.knots l.length (l.map n.ends) i with
  | none => rfl
  | some w => exact absurd ((firstP_some _ g ll i).mp (by rw [c]; rfl)) (low i hi)
end Nm

namespace Nm
/-! what reached_from holds: the knots found so far -/
theorem nd_le : ∀ {l m : List Nat}, l.Nodup → (∀ x ∈ l, x ∈ m) → l.length ≤ m.length
  | [], _, _, _ => Nat.zero_le _
  | a :: l, m, nd, h => by
    have ha := h a List.mem_cons_self
    have nd2 := List.nodup_cons.mp nd
    have ih := nd_le (l := l) (m := m.erase a) nd2.2 fun x hx => (List.mem_erase_of_ne (fun e => nd2.1 (by rw [← e]; exact hx))).mpr (h x (List.mem_cons_of_mem _ hx))
    have := List.length_erase_of_mem ha
    have pos := List.length_pos_of_mem ha
    rw [List.length_cons]
    omega
structure Fnd (ps : List E) (N s : Nat) (R : List Nat) : Prop where
  nd : R.Nodup
  lo : ∀ v ∈ R, v < N
  st : s ∈ R
  re : ∀ v ∈ R, Reach ps s v
theorem Fnd.len {ps : List E} {N s : Nat} {R : List Nat} (h : Fnd ps N s R) : R.length ≤ N := by
  have := nd_le (m := List.range N) h.nd fun x hx => List.mem_range.mpr (h.lo x hx)
  rw [List.length_range] at this
  exact this
theorem Fnd.one {ps : List E} {N s : Nat} (h : s < N) : Fnd ps N s [s] :=
  ⟨by simp, fun v hv => by rw [List.mem_singleton.mp hv]; exact h, List.mem_singleton.mpr rfl, fun v hv => by rw [List.mem_singleton.mp hv]; exact .refl⟩
theorem Fnd.more {ps : List E} {N s : Nat} {R : List Nat} (g : Good N ps) (h : Fnd ps N s R) {v u : Nat} (hv : v ∈ R) {e : E} (he : e ∈ ps) (t : Bt e v u) (hu : u ∉ R) : Fnd ps N s (R ++ [u]) := by
  refine ⟨?_, fun x hx => ?_, List.mem_append_left _ h.st, fun x hx => ?_⟩
  · rw [List.nodup_append]
    refine ⟨h.nd, by simp, fun a ha b hb z => ?_⟩
    rw [List.mem_singleton] at hb
    subst hb
    subst z
    exact hu ha
  · rcases List.mem_append.mp hx with z | z
    · exact h.lo x z
    · rw [List.mem_singleton.mp z]
      exact (bt_lt g he t).2.1
  · rcases List.mem_append.mp hx with z | z
    · exact h.re x z
    · rw [List.mem_singleton.mp z]
      exact .step e (h.re v hv) he t
/-- all that the first bars lead to from v is found -/
def Led (qs : List E) (v : Nat) (R : List Nat) : Prop := ∀ e ∈ qs, ∀ u, Bt e v u → u ∈ R
theorem Led.mono {qs : List E} {v : Nat} {R : List Nat} (h : Led qs v R) (l : List Nat) : Led qs v (R ++ l) := fun e he u t => List.mem_append_left _ (h e he u t)
theorem Led.nil {v : Nat} {R : List Nat} : Led [] v R := fun _ h => absurd h (by simp)
theorem Led.snoc {qs : List E} {v : Nat} {R : List Nat} (h : Led qs v R) {e : E} (he : ∀ u, Bt e v u → u ∈ R) : Led (qs ++ [e]) v R := fun e' h' u t => by
  rcases List.mem_append.mp h' with z | z
  · exact h e' z u t
  · rw [List.mem_singleton.mp z] at t
    exact he u t
def Dealt (ps : List E) (at_ : Nat) (R : List Nat) : Prop := ∀ i v, i < at_ → R[i]? = some v → Led ps v R
theorem Dealt.mono {ps : List E} {k : Nat} {R : List Nat} (h : Dealt ps k R) (hk : k ≤ R.length) (l : List Nat) : Dealt ps k (R ++ l) := fun i v hi hv => by
  rw [List.getElem?_append_left (by omega)] at hv
  exact (h i v hi hv).mono l
theorem Dealt.zero {ps : List E} {R : List Nat} : Dealt ps 0 R := fun _ _ h => absurd h (Nat.not_lt_zero _)
theorem Dealt.succ {ps : List E} {k v : Nat} {R : List Nat} (h : Dealt ps k R) (hv : R[k]? = some v) (l : Led ps v R) : Dealt ps (k + 1) R := fun i x hi hx => by
  by_cases e : i = k
  · subst e
    rw [hv] at hx
    cases hx
    exact l
  · exact h i x (by omega) hx
/-- at the end: just what is reached -/
theorem reached_iff {ps : List E} {N s : Nat} {R : List Nat} (h : Fnd ps N s R) (d : Dealt ps R.length R) (v : Nat) : v ∈ R ↔ Reach ps s v := by
  refine ⟨h.re v, fun r => ?_⟩
  induction r with
  | refl => exact h.st
  | step e _ m t ih =>
    obtain ⟨i, hi, hv⟩ := List.mem_iff_getElem.mp ih
    exact d i _ hi (by rw [List.getElem?_eq_getElem hi, hv]) e m _ t
/-- a bar at v, by its knots -/
theorem bt_cases {e : E} {v u : Nat} (t : Bt e v u) : (e.1 = v ∧ u = e.2) ∨ (e.2 = v ∧ u = e.1) := by
  rcases t with ⟨a, b⟩ | ⟨a, b⟩
  · exact .inl ⟨a, b.symm⟩
  · exact .inr ⟨b, a.symm⟩
end Nm

namespace Nm
/-! the knots to which bars lead from one, rising -/
def steps (N : Nat) (ps : List E) (k : Nat) : List Nat := (List.range N).filter fun j => decide (mk k j ∈ ps)
theorem mem_steps {N : Nat} {ps : List E} (g : Good N ps) {k j : Nat} : j ∈ steps N ps k ↔ mk k j ∈ ps := by
  unfold steps
  rw [List.mem_filter, List.mem_range, decide_eq_true_iff]
  exact ⟨fun h => h.2, fun h => ⟨(bt_lt g h (mk_bt g h)).2.1, h⟩⟩
theorem steps_up (N : Nat) (ps : List E) (k : Nat) : (steps N ps k).Pairwise (· < ·) := List.pairwise_lt_range.filter _
def at_ (k : Nat) (e : E) : Bool := k == e.1 || k == e.2
theorem at_bt {k : Nat} {e : E} (h : at_ k e = true) : Bt e k (e.1 + e.2 - k) ∧ k ≤ e.1 + e.2 := by
  unfold at_ at h
  rw [Bool.or_eq_true, beq_iff_eq, beq_iff_eq] at h
  unfold Bt
  rcases h with h | h <;> omega
/-- as the program finds them -/
def neigh (ps : List E) (k : Nat) : List Int := (ps.filter (at_ k)).map fun e => (e.1 : Int) + (e.2 : Int) - (k : Int)
theorem neigh_nat (ps : List E) (k : Nat) : neigh ps k = ((ps.filter (at_ k)).map fun e => e.1 + e.2 - k).map fun (n : Nat) => (n : Int) := by
  unfold neigh
  rw [List.map_map]
  apply List.map_congr_left
  intro e he
  have := (at_bt (List.mem_filter.mp he).2).2
  show _ = ((e.1 + e.2 - k : Nat) : Int)
  omega
theorem neigh_perm {N : Nat} {ps : List E} (g : Good N ps) (k : Nat) : (neigh ps k).Perm ((steps N ps k).map fun (n : Nat) => (n : Int)) := by
  rw [neigh_nat]
  apply List.Perm.map
  rw [List.perm_ext_iff_of_nodup]
  · intro j
    rw [mem_steps g, List.mem_map]
    constructor
    · rintro ⟨e, he, rfl⟩
      obtain ⟨h1, h2⟩ := List.mem_filter.mp he
      rw [← (bt_mk (g.lt _ h1)).mp (at_bt h2).1]
      exact h1
    · intro h
      refine ⟨mk k j, List.mem_filter.mpr ⟨h, ?_⟩, ?_⟩
      · have t := mk_bt g h
        unfold at_
        rw [Bool.or_eq_true, beq_iff_eq, beq_iff_eq]
        rcases t with ⟨a, _⟩ | ⟨_, a⟩
        · exact .inl a.symm
        · exact .inr a.symm
      · have t := mk_bt g h
        unfold Bt at t
        omega
  · show List.Pairwise _ _
    rw [List.pairwise_map]
    refine List.Pairwise.imp_of_mem ?_ (g.nd.filter (at_ k))
    intro a b ha hb ne e
    obtain ⟨a1, a2⟩ := List.mem_filter.mp ha
    obtain ⟨b1, b2⟩ := List.mem_filter.mp hb
    apply ne
    rw [(bt_mk (g.lt _ a1)).mp (at_bt a2).1, (bt_mk (g.lt _ b1)).mp (at_bt b2).1, e]
  · exact (steps_up N ps k).imp fun h => Nat.ne_of_lt h
theorem sorted_steps {N : Nat} {ps : List E} (g : Good N ps) {k : Nat} {ns : List Int} (p : ns.Perm (neigh ps k)) (up : ns.Pairwise (· ≤ ·)) : ns = (steps N ps k).map fun (n : Nat) => (n : Int) := by
  refine List.Perm.eq_of_pairwise (le := (· ≤ ·)) (fun a b _ _ h1 h2 => Int.le_antisymm h1 h2) up ?_ (p.trans (neigh_perm g k))
  rw [List.pairwise_map]
  exact (steps_up N ps k).imp fun h => by omega
/-- the first of them from which it goes on is the next -/
theorem next_of {N : Nat} {ps : List E} (g : Good N ps) {k i j : Nat} (hj : (steps N ps k)[i]? = some j) (can : HasT (del ps (mk k j)) j) (low : ∀ x ∈ (steps N ps k).take i, ¬ HasT (del ps (mk k x)) x) : Next ps k j := by
  refine ⟨(mem_steps g).mp (List.mem_of_getElem? hj), can, fun x hx m => low x ?_⟩
  obtain ⟨a, ha, e⟩ := List.mem_iff_getElem.mp ((mem_steps g).mpr m)
  obtain ⟨hi, e2⟩ := List.getElem?_eq_some_iff.mp hj
  have : a < i := by
    apply Classical.byContradiction
    intro z
    have up := steps_up N ps k
    rw [List.pairwise_iff_getElem] at up
    by_cases c : a = i
    · subst c
      omega
    · have := up i a hi ha (by omega)
      omega
  rw [← e]
  exact List.mem_take_iff_getElem.mpr ⟨a, by omega, rfl⟩
theorem some_next {N : Nat} {ps : List E} (g : Good N ps) {k : Nat} (h : HasT ps k) (h0 : ps ≠ []) : ∃ j ∈ steps N ps k, HasT (del ps (mk k j)) j := by
  cases h with
  | nil => exact absurd rfl h0
  | @step _ _ j e m t r =>
    have em := (bt_mk (g.lt _ m)).mp t
    subst em
    exact ⟨j, (mem_steps g).mpr m, r⟩
theorem steps_of_way {N : Nat} {ps : List E} (g : Good N ps) {k : Nat} (h : HasT ps k) (h0 : ps ≠ []) : steps N ps k ≠ [] := by
  obtain ⟨j, hj, _⟩ := some_next g h h0
  intro z
  rw [z] at hj
  cases hj
end Nm

namespace Nm
open Uw24
/-! sets of bars -/
theorem some_cons (k b : Nat) (l : List Nat) : some_ (k + 1) (b :: l) = ((some_ k l).map fun r => b :: r) ++ some_ (k + 1) l := rfl
theorem some_nil (k : Nat) : some_ (k + 1) [] = [] := rfl
theorem some_zero (l : List Nat) : some_ 0 l = [[]] := by cases l <;> rfl
theorem some_sub : ∀ {k : Nat} {l s : List Nat}, s ∈ some_ k l → s.Sublist l ∧ s.length = k
  | 0, l, s, h => by
    rw [some_zero, List.mem_singleton] at h
    subst h
    exact ⟨List.nil_sublist _, rfl⟩
  | k + 1, [], s, h => by
    rw [some_nil] at h
    cases h
  | k + 1, b :: l, s, h => by
    rw [some_cons] at h
    rcases List.mem_append.mp h with z | z
    · obtain ⟨r, hr, rfl⟩ := List.mem_map.mp z
      obtain ⟨h1, h2⟩ := some_sub hr
      exact ⟨h1.cons_cons b, by rw [List.length_cons, h2]⟩
    · obtain ⟨h1, h2⟩ := some_sub z
      exact ⟨h1.cons b, h2⟩
theorem some_len : ∀ (k : Nat) (l : List Nat) (m : Nat), l.length ≤ m → (some_ k l).length ≤ (m + 1) ^ k
  | 0, l, m, _ => by
    rw [some_zero]
    exact Nat.le_refl _
  | k + 1, [], m, _ => Nat.zero_le _
  | k + 1, b :: l, 0, h => by simp at h
  | k + 1, b :: l, m + 1, h => by
    rw [List.length_cons] at h
    have h1 := some_len k l m (by omega)
    have h2 := some_len (k + 1) l m (by omega)
    rw [some_cons, List.length_append, List.length_map]
    have h3 : (m + 1) ^ k ≤ (m + 1 + 1) ^ k := Nat.pow_le_pow_left (by omega) k
    have h4 : (m + 1) ^ (k + 1) = (m + 1) ^ k * (m + 1) := rfl
    have h5 : (m + 1 + 1) ^ (k + 1) = (m + 1 + 1) ^ k * (m + 1 + 1) := rfl
    have h6 : (m + 1) ^ k * (m + 1) ≤ (m + 1 + 1) ^ k * (m + 1) := Nat.mul_le_mul_right _ h3
    rw [h5, Nat.mul_add]
    omega
theorem some_small {k : Nat} {l : List Nat} (hk : k ≤ 4) (h : l.length ≤ 24) : (some_ k l).length ≤ 390625 := by
  have a := some_len k l 24 h
  have b : (24 + 1) ^ k ≤ (24 + 1) ^ 4 := Nat.pow_le_pow_right (by omega) hk
  have c : (24 + 1) ^ 4 = 390625 := by decide
  omega
theorem up_nodup {l : List Nat} (h : l.Pairwise (· < ·)) : l.Nodup := h.imp fun h => Nat.ne_of_lt h
theorem sound_nodup (n : Net) : n.sound.Nodup := List.nodup_range.filter _
theorem mem_sound {n : Net} {b : Nat} : b ∈ n.sound ↔ b < n.bars ∧ b ∉ n.torn := by
  unfold Net.sound
  rw [List.mem_filter, List.mem_range, Bool.not_eq_true', ← Bool.not_eq_true, List.contains_iff_mem]
theorem sound_len {n : Net} (o : Ok n) : n.sound.length ≤ 24 := by
  have := List.length_filter_le (fun b => !n.torn.contains b) (List.range n.bars)
  rw [List.length_range] at this
  have := o.bars_le
  unfold Net.sound
  omega
theorem some_torn {n : Net} (o : Ok n) : Some n n.torn := ⟨up_nodup o.up, o.lo⟩
/-- torn and cut together -/
theorem some_with {n : Net} (o : Ok n) {k : Nat} {s : List Nat} (h : s ∈ some_ k n.sound) : Some n (n.torn ++ s) := by
  obtain ⟨sub, _⟩ := some_sub h
  refine ⟨?_, fun b hb => ?_⟩
  · rw [List.nodup_append]
    refine ⟨up_nodup o.up, (sound_nodup n).sublist sub, fun a ha b hb e => ?_⟩
    subst e
    exact (mem_sound.mp (sub.subset hb)).2 ha
  · rcases List.mem_append.mp hb with z | z
    · exact o.lo b z
    · exact (mem_sound.mp (sub.subset z)).1
/-- the fewest cuts, as the program finds them -/
def Few (n : Net) (ss : List (List Nat)) : Prop := (ss = [] ∧ ∀ k, k ≤ 4 → n.by_ k = []) ∨ (ss ≠ [] ∧ ∃ k, k ≤ 4 ∧ ss = n.by_ k ∧ ∀ i, i < k → n.by_ i = [])
end Nm

namespace Nm
open Uw24
/-! the desk's calls: what stays true; what a bar's list becomes -/
theorem insert_perm (b : Nat) : ∀ l : List Nat, (insert_ b l).Perm (l ++ [b])
  | [] => .refl _
  | c :: l => by
    unfold insert_
    by_cases h : b < c
    · rw [if_pos h]
      exact (List.perm_append_comm (l₁ := [b]) (l₂ := c :: l))
    · rw [if_neg h]
      exact (insert_perm b l).cons c
theorem insert_up (b : Nat) : ∀ l : List Nat, l.Pairwise (· < ·) → b ∉ l → (insert_ b l).Pairwise (· < ·)
  | [], _, _ => by simp [insert_]
  | c :: l, h, hb => by
    obtain ⟨h1, h2⟩ := List.pairwise_cons.mp h
    have n1 : b ≠ c := fun z => hb (by rw [z]; exact List.mem_cons_self)
    have n2 : b ∉ l := fun z => hb (List.mem_cons_of_mem _ z)
    unfold insert_
    by_cases lt : b < c
    · rw [if_pos lt, List.pairwise_cons]
      refine ⟨fun x hx => ?_, h⟩
      rcases List.mem_cons.mp hx with z | z
      · omega
      · have := h1 x z
        omega
    · rw [if_neg lt, List.pairwise_cons]
      refine ⟨fun x hx => ?_, insert_up b l h2 n2⟩
      have := (insert_perm b l).mem_iff.mp hx
      rcases List.mem_append.mp this with z | z
      · exact h1 x z
      · rw [List.mem_singleton.mp z]
        omega
/-- what sorted hands back -/
theorem sorted_insert {b : Nat} {l : List Nat} (up : l.Pairwise (· < ·)) (hb : b ∉ l) {ns : List Int} (p : ns.Perm ((l ++ [b]).map fun (n : Nat) => (n : Int))) (s : ns.Pairwise (· ≤ ·)) : ns = (insert_ b l).map fun (n : Nat) => (n : Int) := by
  refine List.Perm.eq_of_pairwise (le := (· ≤ ·)) (fun a b _ _ h1 h2 => Int.le_antisymm h1 h2) s ?_ (p.trans ((insert_perm b l).symm.map _))
  rw [List.pairwise_map]
  exact (insert_up b l up hb).imp fun h => by omega
theorem insert_len (b : Nat) (l : List Nat) : (insert_ b l).length = l.length + 1 := by
  rw [(insert_perm b l).length_eq, List.length_append]
  rfl
theorem drop_len {b : Nat} {l : List Nat} (up : l.Pairwise (· < ·)) (hb : b ∈ l) : (l.filter fun c => c != b).length = l.length - 1 := by
  have nd := up_nodup up
  rw [← nd.erase_eq_filter, List.length_erase_of_mem hb]
theorem Ok.tear {n : Net} (o : Ok n) {b : Nat} (hb : b < n.bars) (no : b ∉ n.torn) (t : n.torn.length < 8) : Ok { n with torn := insert_ b n.torn } := by
  refine ⟨o.w2, o.w4, o.h2, o.h4, insert_up b _ o.up no, fun x hx => ?_, ?_⟩
  · rcases List.mem_append.mp ((insert_perm b _).mem_iff.mp hx) with z | z
    · exact o.lo x z
    · rw [List.mem_singleton.mp z]
      exact hb
  · show (insert_ b n.torn).length ≤ 8
    rw [insert_len]
    omega
theorem Ok.mend {n : Net} (o : Ok n) (b : Nat) : Ok { n with torn := n.torn.filter fun c => c != b } := by
  refine ⟨o.w2, o.w4, o.h2, o.h4, o.up.filter _, fun x hx => o.lo x (List.mem_filter.mp hx).1, ?_⟩
  have := List.length_filter_le (fun c => c != b) n.torn
  have := o.t8
  show (n.torn.filter fun c => c != b).length ≤ 8
  omega
theorem step_begins {n : Net} {w h : Nat} : (¬ (2 ≤ w ∧ w ≤ 4 ∧ 2 ≤ h ∧ h ≤ 4) ∧ step n (.begins w h) = (n, ok (-1))) ∨ ((2 ≤ w ∧ w ≤ 4 ∧ 2 ≤ h ∧ h ≤ 4) ∧ step n (.begins w h) = (net w h, ok ((net w h).bars : Nat))) := by
  by_cases c : 2 ≤ w ∧ w ≤ 4 ∧ 2 ≤ h ∧ h ≤ 4
  · refine .inr ⟨c, ?_⟩
    show (if w < 2 ∨ 4 < w ∨ h < 2 ∨ 4 < h then _ else _) = _
    rw [if_neg (by omega)]
    rfl
  · refine .inl ⟨c, ?_⟩
    show (if w < 2 ∨ 4 < w ∨ h < 2 ∨ 4 < h then _ else _) = _
    rw [if_pos (by omega)]
theorem step_ok {n : Net} (o : Ok n) (c : Call) : Ok (step n c).1 := by
  cases c with
  | begins w h =>
    rcases step_begins (n := n) (w := w) (h := h) with ⟨_, e⟩ | ⟨⟨a, b, c, d⟩, e⟩
    · rw [e]
      exact o
    · rw [e]
      exact ⟨a, b, c, d, .nil, fun _ h => absurd h (by simp [net]), by show 0 ≤ 8; decide⟩
  | tear b =>
    unfold step
    by_cases h1 : n.bars ≤ b
    · simp only [if_pos h1]; exact o
    · simp only [if_neg h1]
      by_cases h2 : n.torn.contains b = true
      · simp only [if_pos h2]; exact o
      · simp only [if_neg h2]
        by_cases h3 : TORN ≤ n.torn.length
        · simp only [if_pos h3]; exact o
        · simp only [if_neg h3]
          exact o.tear (by omega) (fun z => h2 (List.contains_iff_mem.mpr z)) (by unfold TORN at h3; omega)
  | mend b =>
    unfold step
    by_cases h1 : n.bars ≤ b
    · simp only [if_pos h1]; exact o
    · simp only [if_neg h1]
      by_cases h2 : n.torn.contains b = false
      · simp only [if_pos h2]; exact o
      · simp only [if_neg h2]
        exact o.mend b
  | ends b =>
    unfold step
    by_cases h1 : n.bars ≤ b
    · simp only [if_pos h1]; exact o
    · simp only [if_neg h1]; exact o
  | odd => exact o
  | check w =>
    unfold step
    by_cases h1 : (w.all fun k => decide (k < n.knots)) = false
    · simp only [if_pos h1]; exact o
    · simp only [if_neg h1]; exact o
  | best => exact o
/-- what is answered, as a list -/
theorem out_ok (v : Int) : Uw24Neutral.out (ok v) = [v] := rfl
/-- best by what the program finds -/
theorem best_none {n : Net} (h : ∀ k, k ≤ 4 → n.by_ k = []) : n.best = none := by
  unfold Net.best
  rw [List.findSome?_eq_none_iff]
  intro k hk
  rw [List.mem_range] at hk
  rw [h k (by unfold MOST at hk; omega)]
theorem best_some {n : Net} {k : Nat} (hk : k ≤ 4) {s : List Nat} {r : List (List Nat)} (h : n.by_ k = s :: r) (low : ∀ i, i < k → n.by_ i = []) : n.best = some ⟨s, r.length + 1⟩ := by
  unfold Net.best
  refine findSome_low (j := k) (by unfold MOST; omega) ?_ fun i hi => ?_
  · rw [h]
  · rw [low i hi]
end Nm

namespace Nm
open Uw24 (Call Net)
/-! reading the calls -/
/-- which call is meant -/
inductive Says : Nat → List Nat → List Nat → Call → Prop
  | begins (x y : Nat) (ks : List Nat) : Says 0 [x, y] ks (.begins x y)
  | tear (x : Nat) (ks : List Nat) : Says 1 [x] ks (.tear x)
  | mend (x : Nat) (ks : List Nat) : Says 2 [x] ks (.mend x)
  | ends (x : Nat) (ks : List Nat) : Says 3 [x] ks (.ends x)
  | odd (ks : List Nat) : Says 4 [] ks .odd
  | check (ks : List Nat) : Says 5 [] ks (.check ks)
  | best (ks : List Nat) : Says 6 [] ks .best
abbrev up (l : List Nat) : List Int := l.map fun (n : Nat) => (n : Int)
theorem up_inj : ∀ {a b : List Nat}, up a = up b → a = b
  | [], [], _ => rfl
  | x :: a, y :: b, h => by
    have h1 : (x : Int) = (y : Int) := (List.cons.inj h).1
    rw [up_inj (List.cons.inj h).2]
    congr 1
    omega
theorem up_back (l : List Nat) : (up l).map Int.toNat = l := by
  rw [List.map_map]
  exact List.map_id l
theorem call_up {l : List Nat} {x : Call} (h : Uw24Neutral.callOf (up l) = some x) : Uw24Neutral.callIn l = some x := by
  unfold Uw24Neutral.callOf at h
  rw [up_back] at h
  by_cases c : (up l).all Uw24Neutral.nat = false
  · rw [if_pos c] at h
    cases h
  · rw [if_neg c] at h
    exact h
theorem up_ints {l : List Int} (h : ∀ x ∈ l, 0 ≤ x) : up (l.map Int.toNat) = l := by
  unfold up
  rw [List.map_map]
  conv => rhs; rw [← List.map_id l]
  apply List.map_congr_left
  intro x hx
  have := h x hx
  show ((x.toNat : Nat) : Int) = x
  omega
def wholesN : List Nat := [2, 1, 1, 1, 0, 0, 0]
/-- the number told by a call, as the spec reads it -/
abbrev head (c : List (List Int)) : List Int := (PyUw24.whole c).headD []
inductive One (k : Nat) (r : List Nat) (c : List (List Int)) (t : List Int) (x : Call) : Prop
  | plain (n : Nat) : k ≠ 5 → wholesN[k]? = some n → n ≤ r.length → t = up (r.drop n) → Says k (r.take n) [] x → One k r c t x
  | row (m : Nat) (r2 : List Nat) : k = 5 → r = m :: r2 → m ≤ r2.length → t = up (r2.drop m) → Says 5 [] (r2.take m) x → (r2.take m).length ≤ 30 → One k r c t x
theorem plain_call {k n : Nat} {r : List Nat} {c : List (List Int)} {t : List Int} (hs : PyUw24.shape (k : Int) = some (n, 0)) (h : PyFlat.call PyUw24.shape (up (k :: r)) = some (c, t)) : n ≤ r.length ∧ t = up (r.drop n) ∧ c = [up (k :: r.take n)] := by
  have h : PyFlat.call PyUw24.shape ((k : Int) :: up r) = some (c, t) := h
  unfold PyFlat.call at h
  dsimp only at h
  rw [hs] at h
  dsimp only at h
  by_cases l : (up r).length < n
  · rw [if_pos l] at h
    cases h
  · rw [if_neg l] at h
    have h : some (((k : Int) :: (up r).take n) :: ([] : List (List Int)), (up r).drop n) = some (c, t) := h
    have e := Prod.mk.inj (Option.some.inj h)
    rw [List.length_map] at l
    refine ⟨by omega, ?_, ?_⟩
    · rw [← e.2]
      unfold up
      rw [List.map_drop]
    · rw [← e.1]
      unfold up
      rw [List.map_cons, List.map_take]
theorem row_call {r : List Nat} {c : List (List Int)} {t : List Int} (h : PyFlat.call PyUw24.shape (up (5 :: r)) = some (c, t)) : ∃ m r2, r = m :: r2 ∧ m ≤ r2.length ∧ t = up (r2.drop m) ∧ c = [[5], up (r2.take m)] := by
  have h : PyFlat.call PyUw24.shape ((5 : Int) :: up r) = some (c, t) := h
  unfold PyFlat.call at h
  dsimp only at h
  rw [show PyUw24.shape 5 = some (0, 1) from rfl] at h
  dsimp only at h
  rw [if_neg (Nat.not_lt_zero _)] at h
  cases r with
  | nil => cases h
  | cons m r2 =>
    refine ⟨m, r2, rfl, ?_⟩
    have h : (match PyFlat.rows 1 (up (m :: r2)) with | none => none | some (xs, t) => some (([(5 : Int)] :: xs), t)) = some (c, t) := h
    have hr : PyFlat.row (up (m :: r2)) = if 0 ≤ (m : Int) ∧ (m : Int).toNat ≤ (up r2).length then some ((up r2).take (m : Int).toNat, (up r2).drop (m : Int).toNat) else none := rfl
    by_cases l : 0 ≤ (m : Int) ∧ (m : Int).toNat ≤ (up r2).length
    · rw [if_pos l] at hr
      have e1 : PyFlat.rows 1 (up (m :: r2)) = some ([(up r2).take m], (up r2).drop m) := by
        show (match PyFlat.row (up (m :: r2)) with | none => none | some (x, s) => match PyFlat.rows 0 s with | none => none | some (xs, t) => some (x :: xs, t)) = _
        rw [hr]
        rfl
      rw [e1] at h
      have e := Prod.mk.inj (Option.some.inj h)
      have l2 := l.2
      rw [List.length_map] at l2
      refine ⟨by omega, ?_, ?_⟩
      · rw [← e.2]
        unfold up
        rw [List.map_drop]
      · rw [← e.1]
        unfold up
        rw [List.map_take]
    · rw [if_neg l] at hr
      have e1 : PyFlat.rows 1 (up (m :: r2)) = none := by
        show (match PyFlat.row (up (m :: r2)) with | none => none | some (x, s) => match PyFlat.rows 0 s with | none => none | some (xs, t) => some (x :: xs, t)) = _
        rw [hr]
      rw [e1] at h
      cases h
theorem take2 {r : List Nat} (h : 2 ≤ r.length) : ∃ a b, r.take 2 = [a, b] := by
  match r, h with
  | a :: b :: r, _ => exact ⟨a, b, rfl⟩
theorem take1 {r : List Nat} (h : 1 ≤ r.length) : ∃ a, r.take 1 = [a] := by
  match r, h with
  | a :: r, _ => exact ⟨a, rfl⟩
theorem big_shape {k : Nat} (h : 7 ≤ k) : PyUw24.shape (k : Int) = none := by
  unfold PyUw24.shape
  rw [if_neg (by omega), if_neg (by omega), if_neg (by omega), if_neg (by omega), if_neg (by omega), if_neg (by omega), if_neg (by omega)]
theorem one_call {k : Nat} {r : List Nat} {c : List (List Int)} {t : List Int} (h : PyFlat.call PyUw24.shape (up (k :: r)) = some (c, t)) {x : Call} (hx : Uw24Neutral.callOf (head c) = some x) : One k r c t x := by
  by_cases big : 7 ≤ k
  · exfalso
    have h : PyFlat.call PyUw24.shape ((k : Int) :: up r) = some (c, t) := h
    unfold PyFlat.call at h
    dsimp only at h
    rw [big_shape big] at h
    cases h
  have : k = 0 ∨ k = 1 ∨ k = 2 ∨ k = 3 ∨ k = 4 ∨ k = 5 ∨ k = 6 := by omega
  rcases this with rfl | rfl | rfl | rfl | rfl | rfl | rfl
  · obtain ⟨h1, h2, rfl⟩ := plain_call (n := 2) rfl h
    obtain ⟨a, b, e⟩ := take2 h1
    rw [e] at hx
    have := call_up (l := [0, a, b]) hx
    cases this
    exact .plain 2 (by decide) rfl h1 h2 (by rw [e]; exact .begins a b [])
  · obtain ⟨h1, h2, rfl⟩ := plain_call (n := 1) rfl h
    obtain ⟨a, e⟩ := take1 h1
    rw [e] at hx
    have := call_up (l := [1, a]) hx
    cases this
    exact .plain 1 (by decide) rfl h1 h2 (by rw [e]; exact .tear a [])
  · obtain ⟨h1, h2, rfl⟩ := plain_call (n := 1) rfl h
    obtain ⟨a, e⟩ := take1 h1
    rw [e] at hx
    have := call_up (l := [2, a]) hx
    cases this
    exact .plain 1 (by decide) rfl h1 h2 (by rw [e]; exact .mend a [])
  · obtain ⟨h1, h2, rfl⟩ := plain_call (n := 1) rfl h
    obtain ⟨a, e⟩ := take1 h1
    rw [e] at hx
    have := call_up (l := [3, a]) hx
    cases this
    exact .plain 1 (by decide) rfl h1 h2 (by rw [e]; exact .ends a [])
  · obtain ⟨h1, h2, rfl⟩ := plain_call (n := 0) rfl h
    have := call_up (l := [4]) hx
    cases this
    exact .plain 0 (by decide) rfl h1 h2 (.odd [])
  · obtain ⟨m, r2, h1, h2, h3, rfl⟩ := row_call h
    have q := call_up (l := 5 :: r2.take m) hx
    have q : (if (r2.take m).length ≤ 30 then some (Call.check (r2.take m)) else none) = some x := q
    by_cases l : (r2.take m).length ≤ 30
    · rw [if_pos l] at q
      cases q
      exact .row m r2 rfl h1 h2 h3 (.check _) l
    · rw [if_neg l] at q
      cases q
  · obtain ⟨h1, h2, rfl⟩ := plain_call (n := 0) rfl h
    have := call_up (l := [6]) hx
    cases this
    exact .plain 0 (by decide) rfl h1 h2 (.best [])
/-! what is due from here on -/
abbrev stp (s : Net) (c : List (List Int)) : Net × List Int := Uw24Neutral.step s (c.headD [])
def due (n : Net) (rest : List (List (List Int))) : List Int := PyFlat.told (PyFlat.played stp n (rest.map PyUw24.whole))
theorem due_nil (n : Net) : due n [] = [] := rfl
theorem due_cons {n : Net} {c : List (List Int)} {rest : List (List (List Int))} {x : Call} (hx : Uw24Neutral.callOf (head c) = some x) : due n (c :: rest) = ((Uw24Neutral.out (Uw24.step n x).2).length : Int) :: (Uw24Neutral.out (Uw24.step n x).2 ++ due (Uw24.step n x).1 rest) := by
  have e : stp n (PyUw24.whole c) = ((Uw24.step n x).1, Uw24Neutral.out (Uw24.step n x).2) := by
    show (match Uw24Neutral.callOf (head c) with | none => (n, []) | some x => ((Uw24.step n x).1, Uw24Neutral.out (Uw24.step n x).2)) = _
    rw [hx]
  show PyFlat.told ((stp n (PyUw24.whole c)).2 :: PyFlat.played stp (stp n (PyUw24.whole c)).1 (rest.map PyUw24.whole)) = _
  rw [e]
  rfl
/-- the calls, one after another -/
theorem calls_nil {f : Nat} {rest : List (List (List Int))} (h : PyFlat.calls PyUw24.shape f [] = some rest) : rest = [] := by
  cases f <;> exact (Option.some.inj h).symm
theorem calls_cons {f : Nat} {p : Int} {r : List Int} {rest : List (List (List Int))} (h : PyFlat.calls PyUw24.shape f (p :: r) = some rest) : ∃ f' c t cs, PyFlat.call PyUw24.shape (p :: r) = some (c, t) ∧ PyFlat.calls PyUw24.shape f' t = some cs ∧ rest = c :: cs := by
  cases f with
  | zero => cases h
  | succ f =>
    have h : (match PyFlat.call PyUw24.shape (p :: r) with | none => none | some (c, t) => match PyFlat.calls PyUw24.shape f t with | none => none | some cs => some (c :: cs)) = some rest := h
    cases e : PyFlat.call PyUw24.shape (p :: r) with
    | none =>
      rw [e] at h
      cases h
    | some ct =>
      obtain ⟨c, t⟩ := ct
      rw [e] at h
      dsimp only at h
      cases e2 : PyFlat.calls PyUw24.shape f t with
      | none =>
        rw [e2] at h
        cases h
      | some cs =>
        rw [e2] at h
        exact ⟨f, c, t, cs, rfl, e2, (Option.some.inj h).symm⟩
/-- what is asked of the whole list -/
theorem asked_is {l : List Int} (h : PyUw24.answers_asked l = true) : ∃ raw, PyFlat.calls PyUw24.shape l.length l = some raw ∧ (∀ c ∈ raw, ∃ x, Uw24Neutral.callOf (head c) = some x) ∧ PyUw24.answers l = due Uw24.init raw ∧ (PyUw24.answers l).length ≤ 10000000 := by
  unfold PyUw24.answers_asked at h
  cases e : PyFlat.calls PyUw24.shape l.length l with
  | none =>
    rw [e] at h
    cases h
  | some raw =>
    rw [e] at h
    dsimp only at h
    simp only [Bool.and_eq_true] at h
    obtain ⟨⟨⟨⟨_, _⟩, _⟩, h4⟩, h5⟩ := h
    refine ⟨raw, rfl, fun c hc => ?_, ?_, ?_⟩
    · unfold Uw24Neutral.asked at h4
      rw [Bool.and_eq_true] at h4
      have := List.all_eq_true.mp h4.1 (head c) (List.mem_map.mpr ⟨PyUw24.whole c, List.mem_map.mpr ⟨c, hc, rfl⟩, rfl⟩)
      exact Option.isSome_iff_exists.mp this
    · unfold PyUw24.answers PyUw24.calls
      rw [e]
      rfl
    · unfold PyFlat.short at h5
      exact of_decide_eq_true h5
end Nm

namespace Nm
open PySem PySem.Spec PyProof.Rows L2
/-! ### the text by places -/
def topS (i : Nat) : Stmt := PySem.Challenge.pw_netmends_s01_answers.main.body.getD i (.Pass ⟨0, 0, 0, 0⟩)
abbrev sPInit : Stmt := inClass (topS 5) 0
abbrev sBarsOf : Stmt := topS 6
abbrev sIsPiece : Stmt := topS 7
abbrev sKnots : Stmt := topS 8
abbrev sDegrees : Stmt := topS 9
abbrev sOddKnots : Stmt := topS 10
abbrev sReached : Stmt := topS 11
abbrev sAreJoined : Stmt := topS 12
abbrev sCanGo : Stmt := topS 13
abbrev sHasWay : Stmt := topS 14
abbrev sWithout : Stmt := topS 15
abbrev sSteps : Stmt := topS 16
abbrev sNext : Stmt := topS 17
abbrev sEarliest : Stmt := topS 18
abbrev sIsWay : Stmt := topS 19
abbrev sPairsWith : Stmt := topS 20
abbrev sSetsOf : Stmt := topS 21
abbrev sSetsDo : Stmt := topS 22
abbrev sFewest : Stmt := topS 23
abbrev sDInit : Stmt := inClass (topS 32) 0
abbrev sBegins : Stmt := topS 33
abbrev sTear : Stmt := topS 34
abbrev sMend : Stmt := topS 35
abbrev sEnds : Stmt := topS 36
abbrev sOdd : Stmt := topS 37
abbrev sCheck : Stmt := topS 38
abbrev sBest : Stmt := topS 39
abbrev sAnswered : Stmt := topS 40
abbrev sAnswers : Stmt := topS 41
/-! ### a def that may be called by its name -/
structure Cal (P : Program) (w : World) (K : PySem.W.Frag) (mg : Str → Option Value) (base : Heap) (k : Nat) (x : Str) (sp : Sp) : Prop where
  ex : ∃ (f : Addr) (fd : FuncData) (ps : List Str), FnOk P w K mg base CX0 k f fd ps sp ∧ mg x = some (.ref f) ∧ PySem.W.keepIn K (.ref f) = true ∧ Binds K fd ps []
section
variable {X : Cx}
theorem pe_cal {k j : Nat} {x : Str} {sp : Sp} {p pos : Pos} {e : Expr} {es : List Expr} {t : TA} (c : Cal X.prog X.w X.K X.mg X.base k x sp) (hr : Room j X.A) (hk : k ≤ j) (hg : Gl X x) (ha : PA X (e :: es) t)
    (h1 : (x == ("__debug__" : Str)) = false := by decide) (h2 : starEach (e :: es) X.env = (false, eval e X.env) :: starEach es X.env := by rfl) (h3 : (backTo pos (starEach es X.env)).any (·.1) = false := by rfl) :
    PE X (.Call (.Name x p) (e :: es) [] pos) (tCall sp [] E0 t) := by
  obtain ⟨f, fd, ps, F, hm, kp, b⟩ := c.ex
  exact pe_call F (hr.mono hk) hg hm kp b .nil pass0 ha h1 h2 h3
end
/-! ### heaps -/
theorem _root_.L2.Same.put {H H' : Hp} {p : Addr} {o : HO} (s : Same H H') (h : H p = none) : Same H (upd H' p o) := fun b u q => by
  rw [upd_ne (ne_of_none q h)]
  exact s _ _ q
theorem _root_.L2.Same.add {H : Hp} {p : Addr} (o : HO) (h : H p = none) : Same H (upd H p o) := (Same.refl H).put h
/-- a natural number as a value -/
abbrev nv (n : Nat) : V := .int (n : Int)
theorem nv_inj {a b : Nat} : nv a = nv b ↔ a = b := by
  constructor
  · intro h
    exact Int.ofNat.inj (V.int.inj h)
  · rintro rfl
    rfl
theorem nv_map_inj : ∀ {a b : List Nat}, a.map nv = b.map nv → a = b
  | [], [], _ => rfl
  | x :: a, y :: b, h => by
    rw [List.map_cons, List.map_cons] at h
    rw [nv_inj.mp (List.cons.inj h).1, nv_map_inj (List.cons.inj h).2]
/-- a list of objects: f says what stands at each -/
def LL {α : Type} (f : α → HO) (H : Hp) (p : Addr) (xs : List α) : Prop := ∃ zs : List (Addr × α), H p = some (.lst (zs.map fun z => V.ref z.1)) ∧ (∀ z ∈ zs, H z.1 = some (f z.2)) ∧ zs.map (·.2) = xs
theorem LL.same {α : Type} {f : α → HO} {H H' : Hp} {p : Addr} {xs : List α} (s : Same H H') (h : LL f H p xs) : LL f H' p xs := by
  obtain ⟨zs, h1, h2, h3⟩ := h
  exact ⟨zs, s _ _ h1, fun z hz => s _ _ (h2 z hz), h3⟩
/-- .. whose objects are new since H0 -/
def LLN {α : Type} (f : α → HO) (H0 H : Hp) (p : Addr) (xs : List α) : Prop := ∃ zs : List (Addr × α), H p = some (.lst (zs.map fun z => V.ref z.1)) ∧ (∀ z ∈ zs, H0 z.1 = none ∧ H z.1 = some (f z.2)) ∧ zs.map (·.2) = xs
theorem LLN.ll {α : Type} {f : α → HO} {H0 H : Hp} {p : Addr} {xs : List α} (h : LLN f H0 H p xs) : LL f H p xs := by
  obtain ⟨zs, h1, h2, h3⟩ := h
  exact ⟨zs, h1, fun z hz => (h2 z hz).2, h3⟩
/-- .. that is none of its own objects -/
def LX {α : Type} (f : α → HO) (H : Hp) (p : Addr) (xs : List α) : Prop := ∃ zs : List (Addr × α), H p = some (.lst (zs.map fun z => V.ref z.1)) ∧ (∀ z ∈ zs, z.1 ≠ p ∧ H z.1 = some (f z.2)) ∧ zs.map (·.2) = xs
theorem LX.ll {α : Type} {f : α → HO} {H : Hp} {p : Addr} {xs : List α} (h : LX f H p xs) : LL f H p xs := by
  obtain ⟨zs, h1, h2, h3⟩ := h
  exact ⟨zs, h1, fun z hz => (h2 z hz).2, h3⟩
theorem LX.same {α : Type} {f : α → HO} {H H' : Hp} {p : Addr} {xs : List α} (s : Same H H') (h : LX f H p xs) : LX f H' p xs := by
  obtain ⟨zs, h1, h2, h3⟩ := h
  exact ⟨zs, s _ _ h1, fun z hz => ⟨(h2 z hz).1, s _ _ (h2 z hz).2⟩, h3⟩
theorem LX.nil {α : Type} {f : α → HO} {H : Hp} {p : Addr} (h : H p = some (.lst [])) : LX f H p [] := ⟨[], h, fun _ h => absurd h (by simp), rfl⟩
theorem LL.len {α : Type} {f : α → HO} {H : Hp} {p : Addr} {xs : List α} {vs : List V} (h : LL f H p xs) (e : H p = some (.lst vs)) : vs.length = xs.length := by
  obtain ⟨zs, h1, _, h3⟩ := h
  rw [e] at h1
  cases h1
  rw [← h3, List.length_map, List.length_map]
/-- xs.extend(ys) -/
theorem LX.ext {α : Type} {f : α → HO} {H0 H : Hp} {r d : Addr} {xs ys : List α} {o : HO} (h : LX f H r xs) (g : LLN f H0 H d ys) (h0 : H0 r = some o) : ∃ us ws : List V, H r = some (.lst us) ∧ H d = some (.lst ws) ∧ us.length = xs.length ∧ ws.length = ys.length ∧ LX f (upd H r (.lst (us ++ ws))) r (xs ++ ys) := by
  obtain ⟨zs, h1, h2, h3⟩ := h
  obtain ⟨zs', g1, g2, g3⟩ := g
  refine ⟨_, _, h1, g1, by rw [← h3, List.length_map, List.length_map], by rw [← g3, List.length_map, List.length_map], zs ++ zs', by rw [upd_same, List.map_append], fun z hz => ?_, by rw [List.map_append, h3, g3]⟩
  rcases List.mem_append.mp hz with a | a
  · exact ⟨(h2 z a).1, by rw [upd_ne (h2 z a).1]; exact (h2 z a).2⟩
  · have ne : z.1 ≠ r := fun e => by
      have := (g2 z a).1
      rw [e, h0] at this
      cases this
    exact ⟨ne, by rw [upd_ne ne]; exact (g2 z a).2⟩
def pairO (e : E) : HO := .tup [nv e.1, nv e.2]
def setO (s : List Nat) : HO := .lst (s.map nv)
/-- a list of pairs; a list of lists of numbers -/
abbrev PL (H : Hp) (p : Addr) (ps : List E) : Prop := LL pairO H p ps
abbrev SL (H : Hp) (p : Addr) (ss : List (List Nat)) : Prop := LL setO H p ss
abbrev IL (H : Hp) (p : Addr) (ns : List Nat) : Prop := H p = some (.lst (ns.map nv))
/-! ### comprehensions: over a list, over a range; what is taken over, what is made -/
section
variable {K : PySem.W.Frag} {a : Addr} {g : TG} {tt : TT} {te : TE} {vs : List Nat} {σ : L2.St} {H1 : Hp} {D : Addr} {Qd : Hp → Prop}
theorem take_snoc {α : Type} {l : List α} {i : Nat} {x : α} (h : l[i]? = some x) : l.take (i + 1) = l.take i ++ [x] := by
  rw [List.take_add_one, h]
  rfl
theorem filter_snoc {α : Type} {l : List α} {i : Nat} {x : α} (p : α → Bool) (h : l[i]? = some x) : (l.take (i + 1)).filter p = (l.take i).filter p ++ (if p x = true then [x] else []) := by
  rw [take_snoc h, List.filter_append]
  congr 1
  cases c : p x <;> simp [c]
theorem map_at {α β : Type} {f : α → β} {l : List α} {i : Nat} {y : β} (h : (l.map f)[i]? = some y) : ∃ x, l[i]? = some x ∧ f x = y := by
  rw [List.getElem?_map] at h
  cases e : l[i]? with
  | none =>
    rw [e] at h
    cases h
  | some x =>
    rw [e] at h
    exact ⟨x, rfl, Option.some.inj h⟩
/-- over a list: its items (or what is read of them) are taken over -/
theorem lc_keep {α : Type} {zs : List α} {val : α → V} (keep : α → Bool) (out : α → V) (hS : SqL K H1 a (zs.map val)) (hD : H1 D = none) (sz : zs.length < sizeLine)
    (turn : ∀ z ∈ zs, ∀ H, Same H1 H → ∀ (Ty : V → Hp → Prop) (Tn : Hp → Prop), (∀ H', keep z = true → Same H H' → Ty (out z) H') → (∀ H', keep z = false → Same H H' → Tn H') →
      g (val z) (wipe σ vs) H fun σ2 H2 => wipe σ2 vs = wipe σ vs ∧ tt σ2 H2 fun b H3 => if b = true then te σ2 H3 Ty else Tn H3)
    (done : ∀ H, Same H1 H → H D = some (.lst ((zs.filter keep).map out)) → Qd H) :
    ∃ W : Nat → Nat → Hp → Prop, (∃ m, W 0 m (upd H1 D (.lst []))) ∧ ∀ i m H, W i m H →
      ((Itl K a).stop i H ∧ Qd H) ∨ ((Itl K a).go i H ∧ ∃ Nx : Hp → Prop, (∀ H', Nx H' → ∃ m', m' < m ∧ W (i + 1) m' H') ∧ ∀ x H', (Itl K a).yld i H x H' → g x (wipe σ vs) H' fun σ2 H2 => wipe σ2 vs = wipe σ vs ∧ tt σ2 H2 fun b H3 =>
        if b = true then te σ2 H3 fun y H4 => ∃ acc, H4 D = some (.lst acc) ∧ acc.length < sizeLine ∧ Nx (upd H4 D (.lst (acc ++ [y]))) else Nx H3) := by
  refine lc_list (K := K) (a := a) (xs := zs.map val) (fun i H => Same H1 H ∧ H D = some (.lst (((zs.take i).filter keep).map out))) ⟨Same.add _ hD, upd_same⟩ (fun i H _ q => q.1.seq hS) ?_ ?_
  · intro i x H hx ⟨s1, eD⟩
    obtain ⟨z, hz, rfl⟩ := map_at hx
    refine turn z (List.mem_of_getElem? hz) H s1 _ _ (fun H' k s2 => ⟨_, s2 _ _ eD, ?_, (s1.trans s2).put hD, ?_⟩) (fun H' k s2 => ⟨s1.trans s2, ?_⟩)
    · rw [List.length_map]
      exact Nat.lt_of_le_of_lt (List.length_filter_le _ _) (Nat.lt_of_le_of_lt (List.length_take_le' _ _) sz)
    · rw [upd_same, filter_snoc keep hz, if_pos k, List.map_append]
      rfl
    · rw [filter_snoc keep hz, if_neg (by rw [k]; decide), List.append_nil]
      exact s2 _ _ eD
  · intro H ⟨s1, eD⟩
    rw [List.length_map, List.take_length] at eD
    exact done H s1 eD
/-- over a list: a new object for each -/
theorem lc_make {α β : Type} {f : β → HO} {zs : List α} {val : α → V} (keep : α → Bool) (out : α → β) (hS : SqL K H1 a (zs.map val)) (hD : H1 D = none) (sz : zs.length < sizeLine)
    (turn : ∀ z ∈ zs, ∀ H, Same H1 H → ∀ (Ty : V → Hp → Prop) (Tn : Hp → Prop), (∀ H' p, keep z = true → Same H H' → H p = none → H' p = some (f (out z)) → Ty (.ref p) H') → (∀ H', keep z = false → Same H H' → Tn H') →
      g (val z) (wipe σ vs) H fun σ2 H2 => wipe σ2 vs = wipe σ vs ∧ tt σ2 H2 fun b H3 => if b = true then te σ2 H3 Ty else Tn H3)
    (done : ∀ H, Same H1 H → LLN f H1 H D ((zs.filter keep).map out) → Qd H) :
    ∃ W : Nat → Nat → Hp → Prop, (∃ m, W 0 m (upd H1 D (.lst []))) ∧ ∀ i m H, W i m H →
      ((Itl K a).stop i H ∧ Qd H) ∨ ((Itl K a).go i H ∧ ∃ Nx : Hp → Prop, (∀ H', Nx H' → ∃ m', m' < m ∧ W (i + 1) m' H') ∧ ∀ x H', (Itl K a).yld i H x H' → g x (wipe σ vs) H' fun σ2 H2 => wipe σ2 vs = wipe σ vs ∧ tt σ2 H2 fun b H3 =>
        if b = true then te σ2 H3 fun y H4 => ∃ acc, H4 D = some (.lst acc) ∧ acc.length < sizeLine ∧ Nx (upd H4 D (.lst (acc ++ [y]))) else Nx H3) := by
  refine lc_list (K := K) (a := a) (xs := zs.map val) (fun i H => Same H1 H ∧ ∃ ws : List (Addr × β), H D = some (.lst (ws.map fun z => V.ref z.1)) ∧ (∀ z ∈ ws, z.1 ≠ D ∧ H1 z.1 = none ∧ H z.1 = some (f z.2)) ∧ ws.map (·.2) = ((zs.take i).filter keep).map out)
    ⟨Same.add _ hD, [], upd_same, fun _ h => absurd h (by simp), rfl⟩ (fun i H _ q => q.1.seq hS) ?_ ?_
  · intro i x H hx ⟨s1, ws, eD, hw, ew⟩
    obtain ⟨z, hz, rfl⟩ := map_at hx
    refine turn z (List.mem_of_getElem? hz) H s1 _ _ (fun H' p k s2 np hp => ⟨_, s2 _ _ eD, ?_, (s1.trans s2).put hD, ws ++ [(p, out z)], ?_, ?_, ?_⟩) (fun H' k s2 => ⟨s1.trans s2, ws, s2 _ _ eD, fun z hz => ⟨(hw z hz).1, (hw z hz).2.1, s2 _ _ (hw z hz).2.2⟩, ?_⟩)
    · have l := congrArg List.length ew
      rw [List.length_map, List.length_map] at l
      rw [List.length_map, l]
      exact Nat.lt_of_le_of_lt (List.length_filter_le _ _) (Nat.lt_of_le_of_lt (List.length_take_le' _ _) sz)
    · rw [upd_same, List.map_append]
      rfl
    · intro y hy
      rcases List.mem_append.mp hy with h | h
      · exact ⟨(hw y h).1, (hw y h).2.1, by rw [upd_ne (hw y h).1]; exact s2 _ _ (hw y h).2.2⟩
      · rw [List.mem_singleton] at h
        subst h
        have ne : p ≠ D := (ne_of_none eD np).symm
        exact ⟨ne, s1.free np, by rw [upd_ne ne]; exact hp⟩
    · rw [filter_snoc keep hz, if_pos k, List.map_append, List.map_append, ew]
      rfl
    · rw [filter_snoc keep hz, if_neg (by rw [k]; decide), List.append_nil]
      exact ew
  · intro H ⟨s1, ws, eD, hw, ew⟩
    rw [List.length_map, List.take_length] at ew
    exact done H s1 ⟨ws, eD, fun z hz => (hw z hz).2, ew⟩
theorem range_at {n i : Nat} (h : i < n) : (List.range n)[i]? = some i := by
  rw [List.getElem?_range h]
/-- over range(n): the numbers (or what is read of them) are taken over -/
theorem lr_keep {n : Nat} (keep : Nat → Bool) (out : Nat → V) (hD : H1 D = none) (sz : n < sizeLine)
    (turn : ∀ i, i < n → ∀ H, Same H1 H → ∀ (Ty : V → Hp → Prop) (Tn : Hp → Prop), (∀ H', keep i = true → Same H H' → Ty (out i) H') → (∀ H', keep i = false → Same H H' → Tn H') →
      g (nv i) (wipe σ vs) H fun σ2 H2 => wipe σ2 vs = wipe σ vs ∧ tt σ2 H2 fun b H3 => if b = true then te σ2 H3 Ty else Tn H3)
    (done : ∀ H, Same H1 H → H D = some (.lst (((List.range n).filter keep).map out)) → Qd H) :
    ∃ W : Nat → Nat → Hp → Prop, (∃ m, W 0 m (upd H1 D (.lst []))) ∧ ∀ i m H, W i m H →
      ((Itr 0 n).stop i H ∧ Qd H) ∨ ((Itr 0 n).go i H ∧ ∃ Nx : Hp → Prop, (∀ H', Nx H' → ∃ m', m' < m ∧ W (i + 1) m' H') ∧ ∀ x H', (Itr 0 n).yld i H x H' → g x (wipe σ vs) H' fun σ2 H2 => wipe σ2 vs = wipe σ vs ∧ tt σ2 H2 fun b H3 =>
        if b = true then te σ2 H3 fun y H4 => ∃ acc, H4 D = some (.lst acc) ∧ acc.length < sizeLine ∧ Nx (upd H4 D (.lst (acc ++ [y]))) else Nx H3) := by
  refine lc_range (lo := 0) (n := n) (fun i H => Same H1 H ∧ H D = some (.lst ((((List.range n).take i).filter keep).map out))) ⟨Same.add _ hD, upd_same⟩ ?_ ?_
  · intro i H hi ⟨s1, eD⟩
    have hz := range_at hi
    rw [Int.zero_add]
    refine turn i hi H s1 _ _ (fun H' k s2 => ⟨_, s2 _ _ eD, ?_, (s1.trans s2).put hD, ?_⟩) (fun H' k s2 => ⟨s1.trans s2, ?_⟩)
    · rw [List.length_map]
      refine Nat.lt_of_le_of_lt (List.length_filter_le _ _) (Nat.lt_of_le_of_lt (List.length_take_le' _ _) ?_)
      rw [List.length_range]
      exact sz
    · rw [upd_same, filter_snoc keep hz, if_pos k, List.map_append]
      rfl
    · rw [filter_snoc keep hz, if_neg (by rw [k]; decide), List.append_nil]
      exact s2 _ _ eD
  · intro H ⟨s1, eD⟩
    rw [List.take_of_length_le (by rw [List.length_range]; exact Nat.le_refl _)] at eD
    exact done H s1 eD
/-- over range(n): a new object for each -/
theorem lr_make {β : Type} {f : β → HO} {n : Nat} (out : Nat → β) (hD : H1 D = none) (sz : n < sizeLine)
    (turn : ∀ i, i < n → ∀ H, Same H1 H → ∀ (Ty : V → Hp → Prop) (Tn : Hp → Prop), (∀ H' p, Same H H' → H p = none → H' p = some (f (out i)) → Ty (.ref p) H') →
      g (nv i) (wipe σ vs) H fun σ2 H2 => wipe σ2 vs = wipe σ vs ∧ tt σ2 H2 fun b H3 => if b = true then te σ2 H3 Ty else Tn H3)
    (done : ∀ H, Same H1 H → LLN f H1 H D ((List.range n).map out) → Qd H) :
    ∃ W : Nat → Nat → Hp → Prop, (∃ m, W 0 m (upd H1 D (.lst []))) ∧ ∀ i m H, W i m H →
      ((Itr 0 n).stop i H ∧ Qd H) ∨ ((Itr 0 n).go i H ∧ ∃ Nx : Hp → Prop, (∀ H', Nx H' → ∃ m', m' < m ∧ W (i + 1) m' H') ∧ ∀ x H', (Itr 0 n).yld i H x H' → g x (wipe σ vs) H' fun σ2 H2 => wipe σ2 vs = wipe σ vs ∧ tt σ2 H2 fun b H3 =>
        if b = true then te σ2 H3 fun y H4 => ∃ acc, H4 D = some (.lst acc) ∧ acc.length < sizeLine ∧ Nx (upd H4 D (.lst (acc ++ [y]))) else Nx H3) := by
  refine lc_range (lo := 0) (n := n) (fun i H => Same H1 H ∧ ∃ ws : List (Addr × β), H D = some (.lst (ws.map fun z => V.ref z.1)) ∧ (∀ z ∈ ws, z.1 ≠ D ∧ H1 z.1 = none ∧ H z.1 = some (f z.2)) ∧ ws.map (·.2) = ((List.range n).take i).map out)
    ⟨Same.add _ hD, [], upd_same, fun _ h => absurd h (by simp), rfl⟩ ?_ ?_
  · intro i H hi ⟨s1, ws, eD, hw, ew⟩
    have hz := range_at hi
    rw [Int.zero_add]
    refine turn i hi H s1 _ _ (fun H' p s2 np hp => ⟨_, s2 _ _ eD, ?_, (s1.trans s2).put hD, ws ++ [(p, out i)], ?_, ?_, ?_⟩)
    · have l := congrArg List.length ew
      rw [List.length_map, List.length_map] at l
      rw [List.length_map, l]
      refine Nat.lt_of_le_of_lt (List.length_take_le' _ _) ?_
      rw [List.length_range]
      exact sz
    · rw [upd_same, List.map_append]
      rfl
    · intro y hy
      rcases List.mem_append.mp hy with h | h
      · exact ⟨(hw y h).1, (hw y h).2.1, by rw [upd_ne (hw y h).1]; exact s2 _ _ (hw y h).2.2⟩
      · rw [List.mem_singleton] at h
        subst h
        have ne : p ≠ D := (ne_of_none eD np).symm
        exact ⟨ne, s1.free np, by rw [upd_ne ne]; exact hp⟩
    · rw [take_snoc hz, List.map_append, List.map_append, ew]
      rfl
  · intro H ⟨s1, ws, eD, hw, ew⟩
    rw [List.take_of_length_le (by rw [List.length_range]; exact Nat.le_refl _)] at ew
    exact done H s1 ⟨ws, eD, fun z hz => (hw z hz).2, ew⟩
end
end Nm

namespace Nm
open PySem PySem.Spec PyProof.Rows L2
/-- what the top has written: constants, built-in names, classes -/
structure Tx (K : PySem.W.Frag) (mg : Str → Option Value) (CP CD : Addr) : Prop where
  cp : Cls K CP
  cd : Cls K CD
  pW : NoAttr K CP "wide"
  pH : NoAttr K CP "high"
  pB : NoAttr K CP "bars"
  pT : NoAttr K CP "torn"
  dP : NoAttr K CD "piece"
  gP : mg "Piece" = some (.ref CP)
  gD : mg "Desk" = some (.ref CD)
  range : mg "range" = none
  len : mg "len" = none
  min : mg "min" = none
  max : mg "max" = none
  sorted : mg "sorted" = none
  list : mg "list" = none
  int : mg "int" = none
  least : ∃ t, mg "LEAST" = some (.int 2 t)
  most : ∃ t, mg "MOST" = some (.int 4 t)
  mostTorn : ∃ t, mg "MOST_TORN" = some (.int 8 t)
  mostCut : ∃ t, mg "MOST_CUT" = some (.int 4 t)
  notRight : ∃ t, mg "NOT_RIGHT" = some (.int (-1) t)
  noBar : ∃ t, mg "NO_BAR" = some (.int (-2) t)
  soAlready : ∃ t, mg "SO_ALREADY" = some (.int (-4) t)
  full : ∃ t, mg "FULL" = some (.int (-5) t)
  cannot : ∃ t, mg "CANNOT" = some (.int (-6) t)
  check : ∃ t, mg "CHECK" = some (.int 5 t)
  wholes : ∃ wa, mg "WHOLES" = some (.ref wa) ∧ ∀ H, SqT K H wa ([2, 1, 1, 1, 0, 0, 0].map nv)
theorem ix_nat {n j : Nat} (h : j < n) : ixN n (j : Int) = some j := by
  unfold ixN
  rw [if_pos (Int.natCast_nonneg _), if_pos (Int.ofNat_lt.mpr h)]
  rfl
section
variable {X : Cx}
theorem pe_gl {x : Str} {i : Int} {pos : Pos} (hg : Gl X x) (h : ∃ t, X.mg x = some (.int i t)) (hd : (x == ("__debug__" : Str)) = false := by decide) : PE X (.Name x pos) (tC (.int i)) := by
  obtain ⟨t, h⟩ := h
  exact pe_glob hg h ⟨_, rfl⟩ hd
end
section
variable {P : Program} {w : World} {K : PySem.W.Frag} {mg : Str → Option Value} {base : Heap} {CP CD : Addr}
/-! ### is_piece -/
def spIsPiece : Sp := fun vs H Q _ => ∃ (a b : Nat), vs = [nv a, nv b] ∧ Q (.bl (decide (2 ≤ a ∧ a ≤ 4 ∧ 2 ≤ b ∧ b ≤ 4))) H
theorem scIsPiece : FnScope ["wide", "high"] ["wide", "high"] (defScope sIsPiece) := ⟨rfl, rfl, rfl, by decide +kernel, rfl, by decide +kernel, by decide +kernel⟩
theorem ok_isPiece {f : Addr} {fd : FuncData} (F : Fun K "is_piece" "is_piece" sIsPiece f fd) (T : Tx K mg CP CD) : FnOk P w K mg base CX0 1 f fd ["wide", "high"] spIsPiece := by
  refine F.ok scIsPiece (fun vs H Q E h => ?_) (fun cdv A outer s H vs Q E hr h => ?_)
  · obtain ⟨a, b, rfl, _⟩ := h
    rfl
  · obtain ⟨a, b, rfl, q⟩ := h
    refine ⟨_, pss_one (ps_ret (pe_and (pe_chain op_le op_le (pe_gl (by rfl) T.least) (pv 0) (pe_gl (by rfl) T.most)) (pe_one (pe_chain op_le op_le (pe_gl (by rfl) T.least) (pv 1) (pe_gl (by rfl) T.most))))), ?_⟩
    refine ⟨_, rfl, 2, a, rfl, rfl, _, rfl, ite2 (fun c => ?_) fun c => ?_⟩
    · refine ⟨a, 4, rfl, rfl, _, rfl, ite2 (fun c2 => ?_) fun c2 => ?_⟩
      · refine ⟨_, rfl, 2, b, rfl, rfl, _, rfl, ite2 (fun c3 => ?_) fun c3 => ?_⟩
        · refine ⟨b, 4, rfl, rfl, ?_⟩
          have c := of_decide_eq_true c
          have c2 := of_decide_eq_true c2
          have c3 := of_decide_eq_true c3
          have e : decide (2 ≤ a ∧ a ≤ 4 ∧ 2 ≤ b ∧ b ≤ 4) = decide ((b : Int) ≤ 4) := by
            rw [decide_eq_decide]
            omega
          rw [e] at q
          exact q
        · rw [decide_eq_false (fun z => c3 (decide_eq_true (by omega)))] at q
          exact q
      · rw [decide_eq_false (fun z => c2 (decide_eq_true (by omega)))] at q
        exact q
    · rw [decide_eq_false (fun z => c (decide_eq_true (by omega)))] at q
      exact ⟨_, rfl, q⟩
/-! ### pieces in the heap -/
def pF (n : Uw24.Net) (b t : Addr) : List (Str × V) := [("wide", nv n.wide), ("high", nv n.high), ("bars", .ref b), ("torn", .ref t)]
/-- a piece: its bars are n's, all of them; its torn ones are n's -/
structure PieceAt (CP : Addr) (H : Hp) (p : Addr) (n : Uw24.Net) (b t : Addr) : Prop where
  ins : ∃ dx, H p = some (.ins CP dx (pF n b t))
  bars : PL H b ((List.range n.bars).map n.ends)
  torn : IL H t n.torn
theorem PieceAt.same {H H' : Hp} {p : Addr} {n : Uw24.Net} {b t : Addr} (s : Same H H') (h : PieceAt CP H p n b t) : PieceAt CP H' p n b t := by
  obtain ⟨dx, hi⟩ := h.ins
  exact ⟨⟨dx, s _ _ hi⟩, h.bars.same s, s _ _ h.torn⟩
theorem lk_here {k : Str} {v : V} {r : List (Str × V)} : List.lookup k ((k, v) :: r) = some v := by
  have e : (k == k) = true := beq_self_eq_true k
  simp only [List.lookup, e]
theorem lk_past {k g : Str} {v : V} {r : List (Str × V)} (h : (k == g) = false) : List.lookup k ((g, v) :: r) = List.lookup k r := by
  simp only [List.lookup, h]
theorem put_here {f : Str} {v x : V} {r : List (Str × V)} : putF f v ((f, x) :: r) = (f, v) :: r := if_pos rfl
theorem put_past {f g : Str} {v x : V} {r : List (Str × V)} (h : ¬ g = f) : putF f v ((g, x) :: r) = (g, x) :: putF f v r := if_neg h
theorem pF_wide (n : Uw24.Net) (b t : Addr) : (pF n b t).lookup ("wide" : Str) = some (nv n.wide) := lk_here
theorem pF_high (n : Uw24.Net) (b t : Addr) : (pF n b t).lookup ("high" : Str) = some (nv n.high) := (lk_past (by decide +kernel)).trans lk_here
theorem pF_bars (n : Uw24.Net) (b t : Addr) : (pF n b t).lookup ("bars" : Str) = some (.ref b) := (lk_past (by decide +kernel)).trans ((lk_past (by decide +kernel)).trans lk_here)
theorem pF_torn (n : Uw24.Net) (b t : Addr) : (pF n b t).lookup ("torn" : Str) = some (.ref t) := (lk_past (by decide +kernel)).trans ((lk_past (by decide +kernel)).trans ((lk_past (by decide +kernel)).trans lk_here))
theorem pF_put (n : Uw24.Net) (b t t' : Addr) (l : List Nat) : putF "torn" (.ref t') (pF n b t) = pF { n with torn := l } b t' :=
  (put_past (by decide +kernel)).trans (congrArg _ ((put_past (by decide +kernel)).trans (congrArg _ ((put_past (by decide +kernel)).trans (congrArg _ put_here)))))
/-! ### how_many_knots -/
def spKnots (CP : Addr) : Sp := fun vs H Q _ => ∃ (p b t : Addr) (n : Uw24.Net), vs = [.ref p] ∧ PieceAt CP H p n b t ∧ Ok n ∧ Q (nv n.knots) H
theorem scKnots : FnScope ["piece"] ["piece"] (defScope sKnots) := ⟨rfl, rfl, rfl, by decide +kernel, rfl, by decide +kernel, by decide +kernel⟩
theorem ok_knots {f : Addr} {fd : FuncData} (F : Fun K "how_many_knots" "how_many_knots" sKnots f fd) (T : Tx K mg CP CD) : FnOk P w K mg base CX0 1 f fd ["piece"] (spKnots CP) := by
  refine F.ok scKnots (fun vs H Q E h => ?_) (fun cdv A outer s H vs Q E hr h => ?_)
  · obtain ⟨p, b, t, n, rfl, _⟩ := h
    rfl
  · obtain ⟨p, b, t, n, rfl, hp, o, q⟩ := h
    obtain ⟨dx, hi⟩ := hp.ins
    refine ⟨_, pss_one (ps_ret (pe_op op_mul (pe_fld (pv 0) rfl) (pe_fld (pv 0) rfl))), ?_⟩
    refine ⟨_, rfl, p, CP, dx, _, _, rfl, hi, T.cp, T.pW, pF_wide _ _ _, _, rfl, p, CP, dx, _, _, rfl, hi, T.cp, T.pH, pF_high _ _ _, n.wide, n.high, rfl, rfl, ?_, ?_⟩
    · left
      have := o.w4
      constructor <;> omega
    · exact q
/-! ### degrees -/
theorem deg_snoc {N : Nat} {ps : List E} (g : Good N ps) {i : Nat} {e : E} (h : ps[i]? = some e) (v : Nat) : deg (ps.take (i + 1)) v = deg (ps.take i) v + ind e.1 v + ind e.2 v := by
  have lt := g.lt e (List.mem_of_getElem? h)
  rw [take_snoc h]
  have p : (ps.take i ++ [e]).Perm (e :: ps.take i) := List.perm_append_comm
  rw [← deg_cons lt]
  exact p.countP_eq _
/-- two counts more -/
theorem count_up {N : Nat} {d d' : Nat → Nat} {a b : Nat} (ha : a < N) (hb : b < N) (ne : a ≠ b) (h : ∀ v, d' v = d v + ind a v + ind b v) :
    ((((List.range N).map d).map nv).set a (.int ((d a : Int) + 1))).set b (.int ((d b : Int) + 1)) = ((List.range N).map d').map nv := by
  apply List.ext_getElem?
  intro j
  rw [List.getElem?_set, List.getElem?_set]
  simp only [List.length_set, List.length_map, List.length_range, List.getElem?_map]
  by_cases jb : b = j
  · subst jb
    rw [if_pos rfl, if_pos hb, List.getElem?_range hb]
    show _ = some (nv (d' b))
    rw [h b, ind_same, ind_ne ne] <;> rfl
  · rw [if_neg jb]
    by_cases ja : a = j
    · subst ja
      rw [if_pos rfl, if_pos ha, List.getElem?_range ha]
      show _ = some (nv (d' a))
      rw [h a, ind_same, ind_ne (fun z => ne z.symm)] <;> rfl
    · rw [if_neg ja]
      by_cases hj : j < N
      · rw [List.getElem?_range hj]
        show some (nv (d j)) = some (nv (d' j))
        rw [h j, ind_ne ja, ind_ne jb] <;> rfl
      · rw [List.getElem?_eq_none (by rw [List.length_range]; omega)]
        rfl
def spDegrees (K : PySem.W.Frag) : Sp := fun vs H Q _ => ∃ (p : Addr) (ps : List E) (N : Nat), vs = [.ref p, nv N] ∧ PL H p ps ∧ Good N ps ∧ N ≤ 16 ∧ ∀ H' r, Same H H' → IL H' r ((List.range N).map (deg ps)) → Q (.ref r) H'
theorem scDegrees : FnScope ["pairs", "many", "found", "a", "b"] ["pairs", "many"] (defScope sDegrees) := ⟨rfl, rfl, rfl, by decide +kernel, rfl, by decide +kernel, by decide +kernel⟩
theorem rep_zero : ∀ N : Nat, (List.replicate N ([nv 0] : List V)).flatten = ((List.range N).map (deg [])).map nv
  | 0 => rfl
  | N + 1 => by
    rw [List.replicate_succ', List.flatten_append, rep_zero N, List.range_succ, List.map_append, List.map_append]
    rfl
theorem ok_degrees {f : Addr} {fd : FuncData} (F : Fun K "degrees" "degrees" sDegrees f fd) (T : Tx K mg CP CD) : FnOk P w K mg base CX0 1 f fd ["pairs", "many"] (spDegrees K) := by
  refine F.ok scDegrees (fun vs H Q E h => ?_) (fun cdv A outer s H vs Q E hr h => ?_)
  · obtain ⟨p, ps, N, rfl, _⟩ := h
    rfl
  · obtain ⟨p, ps, N, rfl, hp, g, hN, q⟩ := h
    obtain ⟨zs, z1, z2, z3⟩ := hp
    refine ⟨_, pss_cons (ps_set (i := 2) scDegrees.nd rfl (.inl rfl) (pe_op op_rep (pe_lst (pa_cons pe_int pa_nil)) (pv 1)))
      (pss_cons (ps_for PassesOwn.never rfl (pi_list (pv 0)) (pg_tup rfl (pgs_cons (pg_name (i := 3) scDegrees.nd rfl (.inl rfl)) (pgs_cons (pg_name (i := 4) scDegrees.nd rfl (.inl rfl)) pgs_nil)))
        (pss_cons (ps_asg (pe_op op_add (pe_ix ix_list (pv 2) (pv 3) (fun _ _ => rfl)) pe_int) (pg_sub (pv 2) (pv 3) set_list))
        (pss_one (ps_asg (pe_op op_add (pe_ix ix_list (pv 2) (pv 4) (fun _ _ => rfl)) pe_int) (pg_sub (pv 2) (pv 4) set_list)))))
      (pss_one (ps_ret (pv 2)))), ?_⟩
    refine ⟨(by show 1 ≤ sizeLine; decide), fun l hl => ?_⟩
    have s1 : Same H (upd H l (.lst [nv 0])) := Same.add _ hl
    have e1 : (upd H l (.lst [nv 0])) l = some (.lst [nv 0]) := upd_same
    generalize upd H l (.lst [nv 0]) = H1 at s1 e1 ⊢
    refine ⟨_, rfl, l, N, _, rfl, rfl, e1, by omega, by omega, ?_, fun r hr => ?_⟩
    · show 1 * (N : Int).toNat ≤ 2 ^ 24
      omega
    have rz : (List.replicate (N : Int).toNat ([nv 0] : List V)).flatten = ((List.range N).map (deg [])).map nv := rep_zero N
    rw [rz]
    have s2 : Same H (upd H1 r (.lst (((List.range N).map (deg [])).map nv))) := s1.trans (Same.add _ hr)
    have nr : H r = none := s1.free hr
    have e2 : (upd H1 r (.lst (((List.range N).map (deg [])).map nv))) r = some (.lst (((List.range N).map (deg [])).map nv)) := upd_same
    generalize upd H1 r (.lst (((List.range N).map (deg [])).map nv)) = H2 at s2 e2 ⊢
    refine ⟨_, rfl, p, rfl, ⟨_, s2.seq (SqL.of z1)⟩, for_list (K := K) (a := p) (xs := zs.map fun z => V.ref z.1) (fun i σ H' => ∃ y3 y4, σ = [some (.ref p), some (nv N), some (.ref r), y3, y4] ∧ Same H H' ∧ IL H' r ((List.range N).map (deg (ps.take i))))
      ⟨none, none, rfl, s2, e2⟩ (fun i σ H' _ ⟨_, _, _, s2, _⟩ => s2.seq (SqL.of z1)) ?_ ?_⟩
    · rintro i x σ H' hx ⟨y3, y4, rfl, s3, e3⟩
      obtain ⟨z, hz, rfl⟩ := map_at hx
      have he : ps[i]? = some z.2 := by rw [← z3, List.getElem?_map, hz]; rfl
      have lt := g.lt _ (List.mem_of_getElem? he)
      have lo := g.lo _ (List.mem_of_getElem? he)
      have hd : H' z.1 = some (pairO z.2) := s3 _ _ (z2 z (List.mem_of_getElem? hz))
      have at1 : atI (((List.range N).map (deg (ps.take i))).map nv) (z.2.1 : Int) = some (nv (deg (ps.take i) z.2.1)) := atI_nat (by
        rw [List.getElem?_map, List.getElem?_map, List.getElem?_range (by omega)]
        rfl)
      refine ⟨z.1, _, rfl, SqT.of hd, rfl, _, _, rfl, _, _, rfl, rfl, ?_⟩
      refine ⟨_, rfl, _, rfl, r, _, _, _, rfl, rfl, SqL.of e3, at1, _, _, rfl, rfl, _, rfl, _, rfl, r, _, _, _, rfl, rfl, e3, ix_nat (by simp; omega), ?_⟩
      dsimp only
      generalize he4 : (((List.range N).map (deg (ps.take i))).map nv).set z.2.1 (.int ((deg (ps.take i) z.2.1 : Int) + 1)) = xs4
      have e4 : (upd H' r (.lst xs4)) r = some (.lst xs4) := upd_same
      have s4 : Same H (upd H' r (.lst xs4)) := s3.put nr
      generalize upd H' r (.lst xs4) = H4 at s4 e4 ⊢
      have at2 : atI xs4 (z.2.2 : Int) = some (nv (deg (ps.take i) z.2.2)) := atI_nat (by
        rw [← he4, List.getElem?_set_ne (by omega), List.getElem?_map, List.getElem?_map, List.getElem?_range (by omega)]
        rfl)
      refine ⟨_, rfl, _, rfl, r, _, _, _, rfl, rfl, SqL.of e4, at2, _, _, rfl, rfl, _, rfl, _, rfl, r, _, _, _, rfl, rfl, e4, ix_nat (by rw [← he4]; simp; omega), ?_⟩
      refine ⟨_, _, rfl, s4.put nr, ?_⟩
      show upd H4 r _ r = some (.lst _)
      rw [← count_up (d := deg (ps.take i)) (d' := deg (ps.take (i + 1))) (a := z.2.1) (b := z.2.2) (by omega) lo (by omega) (deg_snoc g he), he4]
      exact upd_same
    · rintro σ H' ⟨y3, y4, rfl, s3, e3⟩
      rw [List.take_of_length_le (by rw [← z3, List.length_map, List.length_map]; exact Nat.le_refl _)] at e3
      exact ⟨_, rfl, q _ r s3 e3⟩
end
end Nm

namespace Nm
open PySem PySem.Spec PyProof.Rows L2
section
variable {P : Program} {w : World} {K : PySem.W.Frag} {mg : Str → Option Value} {base : Heap} {CP CD : Addr}
/-! ### bars_of -/
def flatRow (w y : Nat) : List E := (List.range (w - 1)).map fun x => (y * w + x, y * w + x + 1)
def upRow (w y : Nat) : List E := (List.range w).map fun x => (y * w + x, y * w + x + w)
theorem flatMap_succ {α : Type} (f : Nat → List α) (i : Nat) : (List.range (i + 1)).flatMap f = (List.range i).flatMap f ++ f i := by
  rw [List.range_succ, List.flatMap_append, List.flatMap_singleton]
theorem flatMap_len {α : Type} (f : Nat → List α) (c : Nat) (h : ∀ y, (f y).length ≤ c) : ∀ i, ((List.range i).flatMap f).length ≤ i * c
  | 0 => by simp
  | i + 1 => by
    rw [flatMap_succ, List.length_append, Nat.add_mul, Nat.one_mul]
    exact Nat.add_le_add (flatMap_len f c h i) (h i)
theorem cast_row (i a x : Nat) : ((0 + (i : Int)) * (a : Int) + (x : Int)) = ((i * a + x : Nat) : Int) := by
  rw [Int.zero_add, Int.natCast_add, Int.natCast_mul]
def spBars : Sp := fun vs H Q _ => ∃ (a b : Nat), vs = [nv a, nv b] ∧ 2 ≤ a ∧ a ≤ 4 ∧ 2 ≤ b ∧ b ≤ 4 ∧ ∀ H' p, Same H H' → H p = none → PL H' p (barsP a b) → Q (.ref p) H'
theorem scBarsOf : FnScope ["wide", "high", "found", "y", "x"] ["wide", "high"] (defScope sBarsOf) := ⟨rfl, rfl, rfl, by decide +kernel, rfl, by decide +kernel, by decide +kernel⟩
theorem ok_barsOf {f : Addr} {fd : FuncData} (F : Fun K "bars_of" "bars_of" sBarsOf f fd) (T : Tx K mg CP CD) : FnOk P w K mg base CX0 1 f fd ["wide", "high"] spBars := by
  refine F.ok scBarsOf (fun vs H Q E h => ?_) (fun cdv A outer s H vs Q E hr h => ?_)
  · obtain ⟨a, b, rfl, _⟩ := h
    rfl
  · obtain ⟨a, b, rfl, a2, a4, b2, b4, q⟩ := h
    refine ⟨_, pss_cons (ps_set (i := 2) scBarsOf.nd rfl (.inl rfl) (pe_lst pa_nil))
      (pss_cons (ps_for PassesOwn.never rfl (pi_range1 (by rfl) T.range (pa_cons (pv 1) pa_nil)) (pg_name (i := 3) scBarsOf.nd rfl (.inr rfl))
        (pss_one (ps_expr (pe_bm PySem.F.plainAttrs_list PySem.F.slot_list_extend PySem.F.type_list_extend mt_extend (pv 2) (pa_cons
          (pe_lc (own := [("x", 4)]) (g := gName 4) (tt := tYes) rfl scBarsOf.nd (pi_range1 (by rfl) T.range (pa_cons (pe_op op_sub (pv 0) pe_int) pa_nil)) (blkOk_by (N := ["wide", "high", "found", "y", "x"]) (sc := defScope sBarsOf) (by decide +kernel))
            (fun _ _ _ _ _ => pg_name (i := 4) scBarsOf.nd rfl (.inl rfl)) (fun _ _ _ _ _ => pts_nil)
            (fun _ _ _ _ _ => pe_tup (pa_cons (pe_op op_add (pe_op op_mul (pv 3) (pv 0)) (pv 4)) (pa_cons (pe_op op_add (pe_op op_add (pe_op op_mul (pv 3) (pv 0)) (pv 4)) pe_int) pa_nil)))) pa_nil)))))
      (pss_cons (ps_for PassesOwn.never rfl (pi_range1 (by rfl) T.range (pa_cons (pe_op op_sub (pv 1) pe_int) pa_nil)) (pg_name (i := 3) scBarsOf.nd rfl (.inr rfl))
        (pss_one (ps_expr (pe_bm PySem.F.plainAttrs_list PySem.F.slot_list_extend PySem.F.type_list_extend mt_extend (pv 2) (pa_cons
          (pe_lc (own := [("x", 4)]) (g := gName 4) (tt := tYes) rfl scBarsOf.nd (pi_range1 (by rfl) T.range (pa_cons (pv 0) pa_nil)) (blkOk_by (N := ["wide", "high", "found", "y", "x"]) (sc := defScope sBarsOf) (by decide +kernel))
            (fun _ _ _ _ _ => pg_name (i := 4) scBarsOf.nd rfl (.inl rfl)) (fun _ _ _ _ _ => pts_nil)
            (fun _ _ _ _ _ => pe_tup (pa_cons (pe_op op_add (pe_op op_mul (pv 3) (pv 0)) (pv 4)) (pa_cons (pe_op op_add (pe_op op_add (pe_op op_mul (pv 3) (pv 0)) (pv 4)) (pv 0)) pa_nil)))) pa_nil)))))
      (pss_one (ps_ret (pv 2))))), ?_⟩
    refine ⟨Nat.zero_le _, fun r hr => ?_⟩
    have s1 : Same H (upd H r (.lst [])) := Same.add _ hr
    have e1 : LX pairO (upd H r (.lst [])) r [] := .nil upd_same
    generalize upd H r (.lst []) = H1 at s1 e1 ⊢
    have ew : ((a : Int) - 1).toNat = a - 1 := by omega
    have eh : ((b : Int) - 1).toNat = b - 1 := by omega
    have sz1 : ∀ i, ((List.range i).flatMap (flatRow a)).length ≤ i * 3 := flatMap_len _ _ fun y => by unfold flatRow; rw [List.length_map, List.length_range]; omega
    have sz2 : ∀ i, ((List.range i).flatMap (upRow a)).length ≤ i * 4 := flatMap_len _ _ fun y => by unfold upRow; rw [List.length_map, List.length_range]; omega
    have big : sizeLine = 16777216 := rfl
    refine ⟨_, rfl, b, rfl, by omega, by omega, for_range (lo := 0) (n := b) (fun i σ H' => ∃ y3, σ = [some (nv a), some (nv b), some (.ref r), y3, none] ∧ Same H H' ∧ LX pairO H' r ((List.range i).flatMap (flatRow a)))
      ⟨none, rfl, s1, e1⟩ ?_ ?_⟩
    · rintro i σ H' hi ⟨y3, rfl, s2, e2⟩
      have e2r := e2
      obtain ⟨zs, z1, z2, z3⟩ := e2r
      refine ⟨_, rfl, .inl ⟨rfl, _, SqL.of z1⟩, _, rfl, _, _, rfl, rfl, _, rfl, by omega, by omega, fun D hD => lr_make (f := pairO) (n := ((a : Int) - 1).toNat) (fun x => (i * a + x, i * a + x + 1)) hD (by omega) ?_ ?_⟩
      · intro x hx H3 s3 Ty Tn k
        refine ⟨rfl, ?_⟩
        refine ⟨_, rfl, _, rfl, _, _, rfl, rfl, .inl (by omega), _, rfl, _, _, rfl, rfl, _, rfl, _, rfl, _, _, rfl, rfl, .inl (by omega), _, rfl, _, _, rfl, rfl, _, _, rfl, rfl, (by show 2 ≤ sizeLine; decide), fun p hp => ?_⟩
        refine k _ p (Same.add _ hp) hp (upd_same.trans (congrArg (fun l => some (HO.tup l)) ?_))
        show [V.int ((0 + (i : Int)) * (a : Int) + (x : Int)), V.int ((0 + (i : Int)) * (a : Int) + (x : Int) + 1)] = _
        rw [cast_row]
        rfl
      · intro H3 s3 e3
        rw [ew] at e3
        obtain ⟨us, ws, h1, h2, l1, l2, e4⟩ := (e2.same s3).ext (ys := flatRow a i) e3 z1
        have b1 := sz1 i
        have b2 := sz1 (i + 1)
        rw [flatMap_succ, List.length_append] at b2
        refine ⟨r, D, us, ws, rfl, rfl, h1, h2, by omega, some (.int (0 + (i : Int))), rfl, (s2.trans s3).put hr, ?_⟩
        rw [flatMap_succ]
        exact e4
    · rintro σ H' ⟨y3, rfl, s2, e2⟩
      refine ⟨_, rfl, _, _, rfl, rfl, _, rfl, by omega, by omega, for_range (lo := 0) (n := ((b : Int) - 1).toNat) (fun i σ H' => ∃ y3, σ = [some (nv a), some (nv b), some (.ref r), y3, none] ∧ Same H H' ∧ LX pairO H' r ((List.range b).flatMap (flatRow a) ++ (List.range i).flatMap (upRow a)))
        ⟨y3, rfl, s2, by simpa using e2⟩ ?_ ?_⟩
      · rintro i σ H' hi ⟨y3, rfl, s2, e2⟩
        have e2r := e2
        obtain ⟨zs, z1, z2, z3⟩ := e2r
        refine ⟨_, rfl, .inl ⟨rfl, _, SqL.of z1⟩, _, rfl, _, rfl, by omega, by omega, fun D hD => lr_make (f := pairO) (n := a) (fun x => (i * a + x, i * a + x + a)) hD (by omega) ?_ ?_⟩
        · intro x hx H3 s3 Ty Tn k
          refine ⟨rfl, ?_⟩
          refine ⟨_, rfl, _, rfl, _, _, rfl, rfl, .inl (by omega), _, rfl, _, _, rfl, rfl, _, rfl, _, rfl, _, _, rfl, rfl, .inl (by omega), _, rfl, _, _, rfl, rfl, _, rfl, _, _, rfl, rfl, (by show 2 ≤ sizeLine; decide), fun p hp => ?_⟩
          refine k _ p (Same.add _ hp) hp (upd_same.trans (congrArg (fun l => some (HO.tup l)) ?_))
          show [V.int ((0 + (i : Int)) * (a : Int) + (x : Int)), V.int ((0 + (i : Int)) * (a : Int) + (x : Int) + (a : Int))] = _
          rw [cast_row]
          rfl
        · intro H3 s3 e3
          obtain ⟨us, ws, h1, h2, l1, l2, e4⟩ := (e2.same s3).ext (ys := upRow a i) e3 z1
          have b1 := sz1 b
          have b2 := sz2 (i + 1)
          rw [flatMap_succ, List.length_append] at b2
          rw [List.length_append] at l1
          refine ⟨r, D, us, ws, rfl, rfl, h1, h2, by omega, some (.int (0 + (i : Int))), rfl, (s2.trans s3).put hr, ?_⟩
          rw [flatMap_succ, ← List.append_assoc]
          exact e4
      · rintro σ H' ⟨y3, rfl, s2, e2⟩
        rw [eh] at e2
        exact ⟨_, rfl, q _ r s2 hr e2.ll⟩
end
end Nm

namespace Nm
open PySem PySem.Spec PyProof.Rows L2
section
variable {P : Program} {w : World} {K : PySem.W.Frag} {mg : Str → Option Value} {base : Heap} {CP CD : Addr}
theorem LL.other {α : Type} {f : α → HO} {H : Hp} {p q : Addr} {xs : List α} {o u : HO} (h : LL f H q xs) (hp : H p = some u) (d : ∀ b, f b ≠ u) (d2 : ∀ vs, HO.lst vs ≠ u) : LL f (upd H p o) q xs := by
  obtain ⟨zs, h1, h2, h3⟩ := h
  exact ⟨zs, by rw [upd_ne (ne_of h1 hp (d2 _))]; exact h1, fun z hz => by rw [upd_ne (ne_of (h2 z hz) hp (d _))]; exact h2 z hz, h3⟩
/-! ### Piece.__init__ -/
def spPInit (CP : Addr) : Sp := fun vs H Q _ => ∃ (p dx : Addr) (a b : Nat), vs = [.ref p, nv a, nv b] ∧ H p = some (.ins CP dx []) ∧ 2 ≤ a ∧ a ≤ 4 ∧ 2 ≤ b ∧ b ≤ 4 ∧
  ∀ H' l t, H l = none → H t = none → PieceAt CP H' p (net a b) l t → (∀ c o, H c = some o → c ≠ p → H' c = some o) → Q .non H'
theorem scPInit : FnScope ["self", "wide", "high"] ["self", "wide", "high"] (defScope sPInit) := ⟨rfl, rfl, rfl, by decide +kernel, rfl, by decide +kernel, by decide +kernel⟩
theorem net_ok {a b : Nat} (a2 : 2 ≤ a) (a4 : a ≤ 4) (b2 : 2 ≤ b) (b4 : b ≤ 4) : Ok (net a b) := ⟨a2, a4, b2, b4, .nil, fun _ h => absurd h (by simp [net]), by show 0 ≤ 8; decide⟩
theorem ok_pInit {f : Addr} {fd : FuncData} (F : Fun K "__init__" "Piece.__init__" sPInit f fd) (T : Tx K mg CP CD) (cB : Cal P w K mg base 1 "bars_of" spBars) : FnOk P w K mg base CX0 2 f fd ["self", "wide", "high"] (spPInit CP) := by
  refine F.ok scPInit (fun vs H Q E h => ?_) (fun cdv A outer s H vs Q E hr h => ?_)
  · obtain ⟨p, dx, a, b, rfl, _⟩ := h
    rfl
  · obtain ⟨p, dx, a, b, rfl, hp, a2, a4, b2, b4, q⟩ := h
    refine ⟨_, pss_cons (ps_fld (pv 0) (pv 1) rfl) (pss_cons (ps_fld (pv 0) (pv 2) rfl)
      (pss_cons (ps_fld (pv 0) (pe_cal cB hr (by decide) (by rfl) (pa_cons (pv 1) (pa_cons (pv 2) pa_nil))) rfl) (pss_one (ps_fld (pv 0) (pe_lst pa_nil) rfl)))), ?_⟩
    refine ⟨_, rfl, _, rfl, p, CP, dx, [], rfl, hp, T.cp, T.pW, (by show 0 < 1000; decide), ?_⟩
    refine ⟨_, rfl, _, rfl, p, CP, dx, _, rfl, upd_same, T.cp, T.pH, (by show 1 < 1000; decide), ?_⟩
    have e2 : (upd (upd H p (.ins CP dx (putF "wide" (nv a) []))) p (.ins CP dx (putF "high" (nv b) (putF "wide" (nv a) [])))) p = some (.ins CP dx [("wide", nv a), ("high", nv b)]) := by
      rw [upd_same, show putF "wide" (nv a) [] = ([("wide", nv a)] : List (Str × V)) from rfl, put_past (by decide +kernel)]
      rfl
    have s2 : ∀ c o, H c = some o → c ≠ p → (upd (upd H p (.ins CP dx (putF "wide" (nv a) []))) p (.ins CP dx (putF "high" (nv b) (putF "wide" (nv a) [])))) c = some o := fun c o h n => by
      rw [upd_ne n, upd_ne n]
      exact h
    generalize upd (upd H p (.ins CP dx (putF "wide" (nv a) []))) p (.ins CP dx (putF "high" (nv b) (putF "wide" (nv a) []))) = H2 at s2 e2 ⊢
    refine ⟨_, rfl, _, rfl, a, b, rfl, a2, a4, b2, b4, fun H3 l s3 nl hl => ?_⟩
    have e3 := s3 _ _ e2
    have nl0 : H l = none := by
      cases z : H l with
      | none => rfl
      | some o =>
        by_cases y : l = p
        · rw [y, e2] at nl
          cases nl
        · rw [s2 _ _ z y] at nl
          cases nl
    refine ⟨_, rfl, p, CP, dx, _, rfl, e3, T.cp, T.pB, (by show 2 < 1000; decide), ?_⟩
    have e4 : (upd H3 p (.ins CP dx (putF "bars" (.ref l) [("wide", nv a), ("high", nv b)]))) p = some (.ins CP dx [("wide", nv a), ("high", nv b), ("bars", .ref l)]) := by
      rw [upd_same, put_past (by decide +kernel), put_past (by decide +kernel)]
      rfl
    have s4 : ∀ c o, H c = some o → c ≠ p → (upd H3 p (.ins CP dx (putF "bars" (.ref l) [("wide", nv a), ("high", nv b)]))) c = some o := fun c o h n => by
      rw [upd_ne n]
      exact s3 _ _ (s2 c o h n)
    have l4 : PL (upd H3 p (.ins CP dx (putF "bars" (.ref l) [("wide", nv a), ("high", nv b)]))) l (barsP a b) := hl.other e3 (fun b z => by cases z) (fun vs z => by cases z)
    generalize upd H3 p (.ins CP dx (putF "bars" (.ref l) [("wide", nv a), ("high", nv b)])) = H4 at s4 e4 l4 ⊢
    refine ⟨Nat.zero_le _, fun t ht => ?_⟩
    have nt0 : H t = none := by
      cases z : H t with
      | none => rfl
      | some o =>
        by_cases y : t = p
        · rw [y, e4] at ht
          cases ht
        · rw [s4 _ _ z y] at ht
          cases ht
    have s5 : Same H4 (upd H4 t (.lst [])) := Same.add _ ht
    have e5 : (upd H4 t (.lst [])) t = some (.lst []) := upd_same
    have p5 := s5 _ _ e4
    have l5 := l4.same s5
    generalize upd H4 t (.lst []) = H5 at s5 e5 p5 l5 ⊢
    refine ⟨_, rfl, p, CP, dx, _, rfl, p5, T.cp, T.pT, (by show 3 < 1000; decide), ?_⟩
    refine q _ l t nl0 nt0 ⟨⟨dx, ?_⟩, ?_, ?_⟩ fun c o h n => ?_
    · rw [upd_same, put_past (by decide +kernel), put_past (by decide +kernel), put_past (by decide +kernel)]
      rfl
    · have o := net_ok a2 a4 b2 b4
      have := l5.other (o := .ins CP dx (putF "torn" (.ref t) [("wide", nv a), ("high", nv b), ("bars", .ref l)])) p5 (fun b z => by cases z) (fun vs z => by cases z)
      rw [show barsP a b = barsP (net a b).wide (net a b).high from rfl, o.barsP] at this
      exact this
    · show upd H5 p _ t = some (.lst [])
      rw [upd_ne (ne_of e5 p5 (by intro z; cases z))]
      exact e5
    · rw [upd_ne n]
      exact s5 _ _ (s4 c o h n)
/-! ### odd_knots -/
def spOddKnots : Sp := fun vs H Q _ => ∃ (p : Addr) (ps : List E) (N : Nat), vs = [.ref p, nv N] ∧ PL H p ps ∧ Good N ps ∧ N ≤ 16 ∧ ∀ H' r, Same H H' → IL H' r (oddK N ps) → Q (.ref r) H'
theorem scOddKnots : FnScope ["pairs", "many", "counts", "knot"] ["pairs", "many"] (defScope sOddKnots) := ⟨rfl, rfl, rfl, by decide +kernel, rfl, by decide +kernel, by decide +kernel⟩
theorem mod_one (d : Nat) : decide (V.int ((d : Int) % 2) = V.int 1) = (d % 2 == 1) := by
  have : (V.int ((d : Int) % 2) = V.int 1) ↔ d % 2 = 1 := by
    rw [V.int.injEq]
    omega
  rw [show (d % 2 == 1) = decide (d % 2 = 1) from rfl, decide_eq_decide]
  exact this
theorem ok_oddKnots {f : Addr} {fd : FuncData} (F : Fun K "odd_knots" "odd_knots" sOddKnots f fd) (T : Tx K mg CP CD) (cD : Cal P w K mg base 1 "degrees" (spDegrees K)) : FnOk P w K mg base CX0 2 f fd ["pairs", "many"] spOddKnots := by
  refine F.ok scOddKnots (fun vs H Q E h => ?_) (fun cdv A outer s H vs Q E hr h => ?_)
  · obtain ⟨p, ps, N, rfl, _⟩ := h
    rfl
  · obtain ⟨p, ps, N, rfl, hp, g, hN, q⟩ := h
    refine ⟨_, pss_cons (ps_set (i := 2) scOddKnots.nd rfl (.inr rfl) (pe_cal cD hr (by decide) (by rfl) (pa_cons (pv 0) (pa_cons (pv 1) pa_nil))))
      (pss_one (ps_ret (pe_lc (own := [("knot", 3)]) (g := gName 3) rfl scOddKnots.nd (pi_range1 (by rfl) T.range (pa_cons (pv 1) pa_nil)) (blkOk_by (N := ["pairs", "many", "counts", "knot"]) (sc := defScope sOddKnots) (by decide +kernel))
        (fun _ _ _ _ _ => pg_name (i := 3) scOddKnots.nd rfl (.inl rfl)) (fun _ _ _ _ _ => pts_one (pt_cmpR op_eq (pe_op op_mod (pe_ix (r := rIxL K) ix_list (pv 2) (pv 3) (fun _ _ => rfl)) pe_int) pe_int (nomark _)))
        (fun _ _ _ _ _ => pv 3)))), ?_⟩
    refine ⟨_, rfl, _, rfl, p, ps, N, rfl, hp, g, hN, fun H1 c s1 e1 => ?_⟩
    refine ⟨_, rfl, N, rfl, by omega, by omega, fun D hD => lr_keep (n := N) (fun k => deg ps k % 2 == 1) nv hD (by show N < 16777216; omega) ?_ ?_⟩
    · intro i hi H2 s2 Ty Tn ky kn
      refine ⟨rfl, ?_⟩
      refine ⟨_, rfl, _, rfl, c, _, _, _, rfl, rfl, SqL.of (s2 _ _ e1), atI_nat (by rw [List.getElem?_map, List.getElem?_map, List.getElem?_range hi]; rfl), _, _, rfl, rfl, (by show (0 : Int) < 2; decide), rfl, _, rfl, ?_⟩
      dsimp only
      rw [mod_one]
      refine ite2 (fun z => ⟨_, rfl, ky _ z (Same.refl _)⟩) fun z => kn _ (Bool.eq_false_iff.mpr z) (Same.refl _)
    · intro H2 s2 e2
      exact q _ _ (s1.trans s2) e2
end
end Nm

namespace Nm
open PySem PySem.Spec PyProof.Rows L2
section
variable {P : Program} {w : World} {K : PySem.W.Frag} {mg : Str → Option Value} {base : Heap} {CP CD : Addr}
theorem inV_nv (a : Nat) : ∀ R : List Nat, inV (nv a) (R.map nv) = decide (a ∈ R)
  | [] => by
    rw [decide_eq_false (by simp)]
    rfl
  | x :: R => by
    have ih := inV_nv a R
    show (((x : Int) == (a : Int)) || inV (nv a) (R.map nv)) = _
    rw [ih, Bool.eq_iff_iff, Bool.or_eq_true, beq_iff_eq, decide_eq_true_iff, decide_eq_true_iff, List.mem_cons]
    constructor
    · rintro (h | h)
      · exact .inl (by omega)
      · exact .inr h
    · rintro (h | h)
      · exact .inl (by omega)
      · exact .inr h
theorem notIn_nv (a : Nat) (R : List Nat) : V.bl (if true = true then !inV (nv a) (R.map nv) else inV (nv a) (R.map nv)) = V.bl (!decide (a ∈ R)) := by
  rw [inV_nv, if_pos rfl]
theorem in_nv (a : Nat) (R : List Nat) : V.bl (if false = true then !inV (nv a) (R.map nv) else inV (nv a) (R.map nv)) = V.bl (decide (a ∈ R)) := by
  rw [inV_nv, if_neg (by decide)]
theorem flat_nv (R : List Nat) : (R.map nv).all flatV = true := by
  rw [List.all_eq_true]
  intro x hx
  obtain ⟨n, _, rfl⟩ := List.mem_map.mp hx
  rfl
theorem nv_dec (a b : Nat) : decide (nv a = nv b) = decide (a = b) := by
  rw [decide_eq_decide]
  exact nv_inj
/-! ### reached_from -/
def spReached : Sp := fun vs H Q _ => ∃ (p : Addr) (ps : List E) (N s : Nat), vs = [.ref p, nv s] ∧ PL H p ps ∧ Good N ps ∧ N ≤ 16 ∧ s < N ∧ ∀ H' r R, Same H H' → IL H' r R → (∀ v, v ∈ R ↔ Reach ps s v) → Q (.ref r) H'
theorem scReached : FnScope ["pairs", "start", "found", "at", "a", "b"] ["pairs", "start"] (defScope sReached) := ⟨rfl, rfl, rfl, by decide +kernel, rfl, by decide +kernel, by decide +kernel⟩
theorem ok_reached {f : Addr} {fd : FuncData} (F : Fun K "reached_from" "reached_from" sReached f fd) (T : Tx K mg CP CD) : FnOk P w K mg base CX0 1 f fd ["pairs", "start"] spReached := by
  refine F.ok scReached (fun vs H Q E h => ?_) (fun cdv A outer s H vs Q E hr h => ?_)
  · obtain ⟨p, ps, N, s, rfl, _⟩ := h
    rfl
  · obtain ⟨p, ps, N, s0, rfl, hp, g, hN, hs, q⟩ := h
    obtain ⟨zs, z1, z2, z3⟩ := hp
    refine ⟨_, pss_cons (ps_set (i := 2) scReached.nd rfl (.inl rfl) (pe_lst (pa_cons (pv 1) pa_nil)))
      (pss_cons (ps_set (i := 3) scReached.nd rfl (.inl rfl) pe_int)
      (pss_cons (ps_while PassesOwn.never (pt_cmpR op_lt (pv 3) (pe_callB call_len_seq (by rfl) T.len PySem.boot_len (pa_cons (pv 2) pa_nil)) (nomark _))
        (pss_cons (ps_for PassesOwn.never rfl (pi_list (pv 0)) (pg_tup rfl (pgs_cons (pg_name (i := 4) scReached.nd rfl (.inl rfl)) (pgs_cons (pg_name (i := 5) scReached.nd rfl (.inl rfl)) pgs_nil)))
          (pss_one (ps_if (PW.pt (pw_and (pt_cmpR op_eq (pv 4) (pe_ix ix_list (pv 2) (pv 3) (fun _ _ => rfl)) (nomark _)) (pw_and1 (pt_cmpR op_notIn_seq (pv 5) (pv 2) (by rfl)))))
            (pss_one (ps_expr (pe_bm PySem.F.plainAttrs_list PySem.F.slot_list_append PySem.F.type_list_append mt_append (pv 2) (pa_cons (pv 5) pa_nil))))
            (pss_one (ps_if (PW.pt (pw_and (pt_cmpR op_eq (pv 5) (pe_ix ix_list (pv 2) (pv 3) (fun _ _ => rfl)) (nomark _)) (pw_and1 (pt_cmpR op_notIn_seq (pv 4) (pv 2) (by rfl)))))
              (pss_one (ps_expr (pe_bm PySem.F.plainAttrs_list PySem.F.slot_list_append PySem.F.type_list_append mt_append (pv 2) (pa_cons (pv 4) pa_nil)))) pss_nil)))))
        (pss_one (ps_set (i := 3) scReached.nd rfl (.inl rfl) (pe_op op_add (pv 3) pe_int)))))
      (pss_one (ps_ret (pv 2))))), ?_⟩
    refine ⟨_, rfl, (by show 1 ≤ sizeLine; decide), fun r nr => ?_⟩
    have s1 : Same H (upd H r (.lst [nv s0])) := Same.add _ nr
    have e1 : IL (upd H r (.lst [nv s0])) r [s0] := upd_same
    generalize upd H r (.lst [nv s0]) = H1 at s1 e1 ⊢
    have big : sizeLine = 16777216 := rfl
    refine ⟨fun m σ H' => ∃ R k y4 y5, σ = [some (.ref p), some (nv s0), some (.ref r), some (nv k), y4, y5] ∧ Same H H' ∧ IL H' r R ∧ Fnd ps N s0 R ∧ k ≤ R.length ∧ Dealt ps k R ∧ m = N - k,
      ⟨N - 0, [s0], 0, none, none, rfl, s1, e1, .one hs, Nat.zero_le _, .zero, rfl⟩, ?_⟩
    rintro m σ H' ⟨R, k, y4, y5, rfl, s2, e2, fn, hk, dl, rfl⟩
    refine ⟨_, rfl, _, rfl, r, _, rfl, .inl (SqL.of e2), _, _, rfl, rfl, _, rfl, ite2 (fun c => ?_) fun c => ?_⟩
    · have c := of_decide_eq_true c
      have ck : k < R.length := by
        rw [List.length_map] at c
        omega
      have fl := fn.len
      obtain ⟨v, hv⟩ : ∃ v, R[k]? = some v := ⟨_, List.getElem?_eq_getElem ck⟩
      refine ⟨fun σ' H' => ∃ R k' y4 y5, σ' = [some (.ref p), some (nv s0), some (.ref r), some (nv k'), y4, y5] ∧ Same H H' ∧ IL H' r R ∧ Fnd ps N s0 R ∧ k' ≤ R.length ∧ Dealt ps k' R ∧ k' = k + 1, ?_, ?_⟩
      · rintro σ' H' ⟨R', k', y4, y5, h1, h2, h3, h4, h5, h6, rfl⟩
        exact ⟨N - (k + 1), by omega, R', k + 1, y4, y5, h1, h2, h3, h4, h5, h6, rfl⟩
      refine ⟨_, rfl, p, rfl, ⟨_, s2.seq (SqL.of z1)⟩, for_list (K := K) (a := p) (xs := zs.map fun z => V.ref z.1)
        (fun j σ H' => ∃ R' l y4 y5, σ = [some (.ref p), some (nv s0), some (.ref r), some (nv k), y4, y5] ∧ Same H H' ∧ IL H' r R' ∧ Fnd ps N s0 R' ∧ R' = R ++ l ∧ Dealt ps k R' ∧ Led (ps.take j) v R')
        ⟨R, [], y4, y5, rfl, s2, e2, fn, by simp, dl, .nil⟩ (fun i σ H' _ ⟨_, _, _, _, _, s, _⟩ => s.seq (SqL.of z1)) ?_ ?_⟩
      · rintro j x σ H' hx ⟨R', l, y4, y5, rfl, s3, e3, fn3, rl, dl3, ld⟩
        obtain ⟨z, hz, rfl⟩ := map_at hx
        have he : ps[j]? = some z.2 := by rw [← z3, List.getElem?_map, hz]; rfl
        have hm := List.mem_of_getElem? he
        have lt := g.lt _ hm
        have hd : H' z.1 = some (pairO z.2) := s3 _ _ (z2 z (List.mem_of_getElem? hz))
        have hv' : R'[k]? = some v := by rw [rl, List.getElem?_append_left ck, hv]
        have hvm := List.mem_of_getElem? hv'
        have kl : k ≤ R'.length := by rw [rl, List.length_append]; omega
        have at1 : atI (R'.map nv) (k : Int) = some (nv v) := atI_nat (by rw [List.getElem?_map, hv']; rfl)
        have small : (R'.map nv).length < sizeLine := by
          have := fn3.len
          rw [List.length_map]
          omega
        refine ⟨z.1, _, rfl, SqT.of hd, rfl, _, _, rfl, _, _, rfl, rfl, ?_⟩
        -- what follows where nothing is found
        have skip : (∀ u, Bt z.2 v u → u ∈ R') → ∀ σ2, σ2 = [some (V.ref p), some (nv s0), some (V.ref r), some (nv k), some (nv z.2.1), some (nv z.2.2)] → ∃ R' l y4 y5, σ2 = [some (.ref p), some (nv s0), some (.ref r), some (nv k), y4, y5] ∧ Same H H' ∧ IL H' r R' ∧ Fnd ps N s0 R' ∧ R' = R ++ l ∧ Dealt ps k R' ∧ Led (ps.take (j + 1)) v R' := fun hu σ2 e =>
          ⟨R', l, _, _, e, s3, e3, fn3, rl, dl3, by rw [take_snoc he]; exact ld.snoc hu⟩
        have take : ∀ u, Bt z.2 v u → u ∉ R' → (∀ u', Bt z.2 v u' → u' = u) → ∀ σ2, σ2 = [some (V.ref p), some (nv s0), some (V.ref r), some (nv k), some (nv z.2.1), some (nv z.2.2)] → ∃ R2 l y4 y5, σ2 = [some (.ref p), some (nv s0), some (.ref r), some (nv k), y4, y5] ∧ Same H (upd H' r (.lst (R'.map nv ++ [nv u]))) ∧ IL (upd H' r (.lst (R'.map nv ++ [nv u]))) r R2 ∧ Fnd ps N s0 R2 ∧ R2 = R ++ l ∧ Dealt ps k R2 ∧ Led (ps.take (j + 1)) v R2 := fun u t hu un σ2 e =>
          ⟨R' ++ [u], l ++ [u], _, _, e, s3.put nr, by show upd H' r _ r = _; rw [upd_same, List.map_append]; rfl, fn3.more g hvm hm t hu, by rw [rl, List.append_assoc], dl3.mono kl _, by
            rw [take_snoc he]
            exact (ld.mono _).snoc fun u' t' => by rw [un u' t']; exact List.mem_append_right _ (List.mem_singleton.mpr rfl)⟩
        -- elif b == found[at] and a not in found
        have els : (z.2.1 = v → z.2.2 ∈ R') → tIfS (tAnd (tTest (tOp rEq (tVar 5) (tOp (rIxL K) (tVar 2) (tVar 3)))) (tTest (tOp (rIn K true) (tVar 4) (tVar 2))))
            (tDrop (tBM K "list" rAppend (tVar 2) (tCons (tVar 4) tNil))) tNext
            { nx := fun σ H' => ∃ R' l y4 y5, σ = [some (.ref p), some (nv s0), some (.ref r), some (nv k), y4, y5] ∧ Same H H' ∧ IL H' r R' ∧ Fnd ps N s0 R' ∧ R' = R ++ l ∧ Dealt ps k R' ∧ Led (ps.take (j + 1)) v R', rt := Q, bk := fun _ _ => False, ct := fun _ _ => False } [some (V.ref p), some (nv s0), some (V.ref r), some (nv k), some (nv z.2.1), some (nv z.2.2)] H' := fun h1 => by
          refine ⟨_, rfl, _, rfl, _, rfl, r, _, _, _, rfl, rfl, SqL.of e3, at1, rfl, _, rfl, ?_⟩
          rw [nv_dec]
          by_cases cb : z.2.2 = v
          · rw [decide_eq_true cb]
            refine ⟨_, rfl, _, rfl, r, _, rfl, .inl (SqL.of e3), rfl, flat_nv _, !decide (z.2.1 ∈ R'), notIn_nv _ _, ?_⟩
            by_cases ca : z.2.1 ∈ R'
            · rw [decide_eq_true ca]
              exact skip (fun u t => by
                rcases bt_cases t with ⟨x1, x2⟩ | ⟨x1, x2⟩
                · omega
                · rw [x2]; exact ca) _ rfl
            · rw [decide_eq_false ca]
              refine ⟨_, rfl, .inl ⟨rfl, _, SqL.of e3⟩, _, rfl, r, _, _, rfl, rfl, e3, small, ?_⟩
              exact take z.2.1 (.inr ⟨rfl, cb⟩) ca (fun u' t' => by
                rcases bt_cases t' with ⟨x1, x2⟩ | ⟨x1, x2⟩
                · omega
                · exact x2) _ rfl
          · rw [decide_eq_false cb]
            exact skip (fun u t => by
              rcases bt_cases t with ⟨x1, x2⟩ | ⟨x1, x2⟩
              · rw [x2]; exact h1 x1
              · exact absurd x1 cb) _ rfl
        refine ⟨_, rfl, _, rfl, _, rfl, r, _, _, _, rfl, rfl, SqL.of e3, at1, rfl, _, rfl, ?_⟩
        rw [nv_dec]
        by_cases ca : z.2.1 = v
        · rw [decide_eq_true ca]
          refine ⟨_, rfl, _, rfl, r, _, rfl, .inl (SqL.of e3), rfl, flat_nv _, !decide (z.2.2 ∈ R'), notIn_nv _ _, ?_⟩
          by_cases cb : z.2.2 ∈ R'
          · rw [decide_eq_true cb]
            exact els fun _ => cb
          · rw [decide_eq_false cb]
            refine ⟨_, rfl, .inl ⟨rfl, _, SqL.of e3⟩, _, rfl, r, _, _, rfl, rfl, e3, small, ?_⟩
            exact take z.2.2 (.inl ⟨ca, rfl⟩) cb (fun u' t' => by
              rcases bt_cases t' with ⟨x1, x2⟩ | ⟨x1, x2⟩
              · exact x2
              · omega) _ rfl
        · rw [decide_eq_false ca]
          exact els fun h => absurd h ca
      · rintro σ H' ⟨R', l, y4, y5, rfl, s3, e3, fn3, rl, dl3, ld⟩
        rw [List.take_of_length_le (by rw [← z3, List.length_map, List.length_map]; exact Nat.le_refl _)] at ld
        have hv' : R'[k]? = some v := by rw [rl, List.getElem?_append_left ck, hv]
        refine ⟨_, rfl, _, _, rfl, rfl, R', k + 1, y4, y5, rfl, s3, e3, fn3, ?_, dl3.succ hv' ld, rfl⟩
        rw [rl, List.length_append]
        omega
    · have c : ¬ (k : Int) < ((R.map nv).length : Int) := fun z => c (decide_eq_true z)
      have ck : k = R.length := by
        rw [List.length_map] at c
        omega
      subst ck
      exact ⟨_, rfl, q _ r R s2 e2 (reached_iff fn dl)⟩
end
end Nm

namespace Nm
open PySem PySem.Spec PyProof.Rows L2
/-! ### pairs, lists as data -/
def pdE (e : E) : PyData := .tuple [.int e.1, .int e.2]
def pdN (n : Nat) : PyData := .int n
def pdS (s : List Nat) : PyData := .list (s.map pdN)
theorem all_lay {α : Type} {f : α → PyData} (h : ∀ x, (f x).canLay0 = true) : ∀ l : List α, PyData.canLayAll0 (l.map f) = true
  | [] => by simp only [List.map_nil, PyData.canLayAll0]
  | x :: l => by simp only [List.map_cons, PyData.canLayAll0, h x, all_lay h l, Bool.and_true]
theorem all_deep {α : Type} {f : α → PyData} {n : Nat} (h : ∀ x, (f x).depth ≤ n) : ∀ l : List α, PyData.depthAll (l.map f) ≤ n
  | [] => by simp only [List.map_nil, PyData.depthAll]; omega
  | x :: l => by
    have a := h x
    have b := all_deep h l
    simp only [List.map_cons, PyData.depthAll]
    omega
theorem shaped_list {α : Type} {f : α → PyData} {n : Nat} (hn : n ≤ 63) (h1 : ∀ x, (f x).canLay0 = true) (h2 : ∀ x, (f x).depth ≤ n) (l : List α) : SeqAt.shaped (.list (l.map f)) = true := by
  unfold SeqAt.shaped
  rw [Bool.and_eq_true, decide_eq_true_iff]
  have d := all_deep h2 l
  refine ⟨by simp only [PyData.canLay0]; exact all_lay h1 l, by simp only [PyData.depth]; omega⟩
theorem layE (e : E) : (pdE e).canLay0 = true := by simp only [pdE, PyData.canLay0, PyData.canLayAll0, Bool.and_self]
theorem deepE (e : E) : (pdE e).depth ≤ 1 := by simp only [pdE, PyData.depth, PyData.depthAll]; omega
theorem layN (n : Nat) : (pdN n).canLay0 = true := by simp only [pdN, PyData.canLay0]
theorem deepN (n : Nat) : (pdN n).depth ≤ 0 := by simp only [pdN, PyData.depth]; omega
theorem layS (s : List Nat) : (pdS s).canLay0 = true := by simp only [pdS, PyData.canLay0]; exact all_lay layN s
theorem deepS (s : List Nat) : (pdS s).depth ≤ 1 := by
  have := all_deep deepN s
  simp only [pdS, PyData.depth]
  omega
theorem shapedE (e : E) : SeqAt.shaped (pdE e) = true := by
  unfold SeqAt.shaped
  have := deepE e
  rw [Bool.and_eq_true, decide_eq_true_iff]
  exact ⟨layE e, by omega⟩
theorem shaped_pairs (ps : List E) : SeqAt.shaped (.list (ps.map pdE)) = true := shaped_list (by decide) layE deepE ps
theorem shaped_nums (ns : List Nat) : SeqAt.shaped (.list (ns.map pdN)) = true := shaped_list (n := 0) (by decide) layN deepN ns
theorem shaped_sets (ss : List (List Nat)) : SeqAt.shaped (.list (ss.map pdS)) = true := shaped_list (by decide) layS deepS ss
theorem shaped_nil : SeqAt.shaped (.list []) = true := shaped_nums []
theorem eqv_nil (ds : List PyData) : PyData.eqv (.list ds) (.list []) = ds.isEmpty := by
  cases ds <;> simp only [PyData.eqv, PyData.eqvAll, List.isEmpty_nil, List.isEmpty_cons]
theorem eqv_pair (a b : E) : PyData.eqv (pdE a) (pdE b) = decide (a = b) := by
  simp only [pdE, PyData.eqv, PyData.eqvAll, Bool.and_true]
  rw [Bool.eq_iff_iff, Bool.and_eq_true, beq_iff_eq, beq_iff_eq, decide_eq_true_iff]
  constructor
  · rintro ⟨h1, h2⟩
    exact Prod.ext (by omega) (by omega)
  · rintro rfl
    exact ⟨rfl, rfl⟩
theorem dp_nil {K : PySem.W.Frag} {H : Hp} {p : Addr} (h : H p = some (.lst [])) : Dp K H (.ref p) (.list []) := .lst (SqL.of h) .nil
theorem dp_nums {K : PySem.W.Frag} {H : Hp} : ∀ ns : List Nat, DpAll K H (ns.map nv) (ns.map pdN)
  | [] => .nil
  | n :: r => .cons (.int _) (dp_nums r)
theorem dp_IL {K : PySem.W.Frag} {H : Hp} {p : Addr} {ns : List Nat} (h : IL H p ns) : Dp K H (.ref p) (.list (ns.map pdN)) := .lst (SqL.of h) (dp_nums ns)
theorem dp_pair {K : PySem.W.Frag} {H : Hp} {p : Addr} {e : E} (h : H p = some (pairO e)) : Dp K H (.ref p) (pdE e) := .tup (SqT.of h) (.cons (.int _) (.cons (.int _) .nil))
theorem dp_all {α : Type} {f : α → HO} {g : α → PyData} {K : PySem.W.Frag} {H : Hp} (k : ∀ p x, H p = some (f x) → Dp K H (.ref p) (g x)) : ∀ zs : List (Addr × α), (∀ z ∈ zs, H z.1 = some (f z.2)) → DpAll K H (zs.map fun z => V.ref z.1) ((zs.map (·.2)).map g)
  | [], _ => .nil
  | z :: zs, h => .cons (k z.1 z.2 (h z List.mem_cons_self)) (dp_all k zs fun y hy => h y (List.mem_cons_of_mem _ hy))
theorem dp_PL {K : PySem.W.Frag} {H : Hp} {p : Addr} {ps : List E} (h : PL H p ps) : Dp K H (.ref p) (.list (ps.map pdE)) := by
  obtain ⟨zs, h1, h2, h3⟩ := h
  rw [← h3]
  exact .lst (SqL.of h1) (dp_all (fun _ _ => dp_pair) zs h2)
theorem dp_SL {K : PySem.W.Frag} {H : Hp} {p : Addr} {ss : List (List Nat)} (h : SL H p ss) : Dp K H (.ref p) (.list (ss.map pdS)) := by
  obtain ⟨zs, h1, h2, h3⟩ := h
  rw [← h3]
  exact .lst (SqL.of h1) (dp_all (fun _ _ h => dp_IL h) zs h2)
section
variable {P : Program} {w : World} {K : PySem.W.Frag} {mg : Str → Option Value} {base : Heap} {CP CD : Addr}
/-! ### are_joined -/
def spJoined : Sp := fun vs H Q _ => ∃ (p : Addr) (ps : List E) (N s : Nat), vs = [.ref p, nv s] ∧ PL H p ps ∧ Good N ps ∧ N ≤ 16 ∧ s < N ∧ ps.length ≤ 100 ∧ ∀ H' (b : Bool), Same H H' → (b = true ↔ Joined ps s) → Q (.bl b) H'
theorem scAreJoined : FnScope ["pairs", "start", "found", "pair"] ["pairs", "start"] (defScope sAreJoined) := ⟨rfl, rfl, rfl, by decide +kernel, rfl, by decide +kernel, by decide +kernel⟩
theorem ok_areJoined {f : Addr} {fd : FuncData} (F : Fun K "are_joined" "are_joined" sAreJoined f fd) (T : Tx K mg CP CD) (cR : Cal P w K mg base 1 "reached_from" spReached) : FnOk P w K mg base CX0 2 f fd ["pairs", "start"] spJoined := by
  refine F.ok scAreJoined (fun vs H Q E h => ?_) (fun cdv A outer s H vs Q E hr h => ?_)
  · obtain ⟨p, ps, N, s, rfl, _⟩ := h
    rfl
  · obtain ⟨p, ps, N, s0, rfl, hp, g, hN, hs, hl, q⟩ := h
    refine ⟨_, pss_cons (ps_set (i := 2) scAreJoined.nd rfl (.inr rfl) (pe_cal cR hr (by decide) (by rfl) (pa_cons (pv 0) (pa_cons (pv 1) pa_nil))))
      (pss_one (ps_ret (pe_cmpR (op_eqD hr.units) (pe_lc (own := [("pair", 3)]) (g := gName 3) rfl scAreJoined.nd (pi_list (pv 0)) (blkOk_by (N := ["pairs", "start", "found", "pair"]) (sc := defScope sAreJoined) (by decide +kernel))
        (fun _ _ _ _ _ => pg_name (i := 3) scAreJoined.nd rfl (.inl rfl)) (fun _ _ _ _ _ => pts_one (pt_cmpR (r := rIn K true) op_notIn_seq (pe_ix (r := rIxT K) ix_tup (pv 3) pe_int (fun _ _ => rfl)) (pv 2) (by rfl)))
        (fun _ _ _ _ _ => pv 3)) (pe_lst pa_nil) (nomark _)))), ?_⟩
    refine ⟨_, rfl, _, rfl, p, ps, N, s0, rfl, hp, g, hN, hs, fun H1 c R s1 e1 hR => ?_⟩
    have hp1 := hp.same s1
    obtain ⟨zs, z1, z2, z3⟩ := hp1
    have hlz : zs.length = ps.length := by rw [← z3, List.length_map]
    have big : sizeLine = 16777216 := rfl
    refine ⟨_, rfl, p, rfl, ⟨_, SqL.of z1⟩, fun D hD => lc_keep (zs := zs) (val := fun z => V.ref z.1) (fun z => !decide (z.2.1 ∈ R)) (fun z => V.ref z.1) (SqL.of z1) hD (by omega) ?_ ?_⟩
    · intro z hz H2 s2 Ty Tn ky kn
      refine ⟨rfl, ?_⟩
      refine ⟨_, rfl, z.1, _, _, _, rfl, rfl, SqT.of (s2 _ _ (z2 z hz)), atI_nat (j := 0) rfl, _, rfl, c, _, rfl, .inl (SqL.of (s2 _ _ e1)), rfl, flat_nv _, _, notIn_nv _ _, ?_⟩
      exact ite2 (fun y => ⟨_, rfl, ky _ y (Same.refl _)⟩) fun y => kn _ (Bool.eq_false_iff.mpr y) (Same.refl _)
    · intro H2 s2 e2
      refine ⟨Nat.zero_le _, fun o ho => ?_⟩
      have s3 : Same H2 (upd H2 o (.lst [])) := Same.add _ ho
      have e3 : (upd H2 o (.lst [])) o = some (.lst []) := upd_same
      generalize upd H2 o (.lst []) = H3 at s3 e3 ⊢
      have pl : PL H3 D ((zs.filter fun z => !decide (z.2.1 ∈ R)).map (·.2)) := ⟨_, s3 _ _ e2, fun z hz => s3 _ _ (s2 _ _ (z2 z (List.mem_filter.mp hz).1)), rfl⟩
      refine ⟨_, _, dp_PL pl, dp_nil e3, shaped_pairs _, shaped_nil, ?_⟩
      rw [eqv_nil]
      refine q _ _ (s1.trans (s2.trans s3)) ?_
      rw [List.isEmpty_iff, List.map_eq_nil_iff, List.map_eq_nil_iff, List.filter_eq_nil_iff]
      constructor
      · intro h e he
        rw [← z3] at he
        obtain ⟨z, hz, rfl⟩ := List.mem_map.mp he
        have := h z hz
        rw [Bool.not_eq_true', decide_eq_false_iff_not, Classical.not_not] at this
        exact (hR _).mp this
      · intro h z hz
        rw [Bool.not_eq_true', decide_eq_false_iff_not, Classical.not_not]
        exact (hR _).mpr (h z.2 (by rw [← z3]; exact List.mem_map.mpr ⟨z, hz, rfl⟩))
/-! ### can_go_from -/
def spCanGo : Sp := fun vs H Q _ => ∃ (p : Addr) (ps : List E) (N s : Nat), vs = [.ref p, nv N, nv s] ∧ PL H p ps ∧ Good N ps ∧ N ≤ 16 ∧ s < N ∧ ps.length ≤ 100 ∧ ∀ H' (b : Bool), Same H H' → (b = true ↔ HasT ps s) → Q (.bl b) H'
theorem scCanGo : FnScope ["pairs", "many", "start", "odd"] ["pairs", "many", "start"] (defScope sCanGo) := ⟨rfl, rfl, rfl, by decide +kernel, rfl, by decide +kernel, by decide +kernel⟩
theorem nil_map {α β : Type} (f : α → β) (l : List α) : (l.map f).isEmpty = l.isEmpty := by cases l <;> rfl
theorem ok_canGo {f : Addr} {fd : FuncData} (F : Fun K "can_go_from" "can_go_from" sCanGo f fd) (T : Tx K mg CP CD) (cO : Cal P w K mg base 2 "odd_knots" spOddKnots) (cJ : Cal P w K mg base 2 "are_joined" spJoined) : FnOk P w K mg base CX0 3 f fd ["pairs", "many", "start"] spCanGo := by
  refine F.ok scCanGo (fun vs H Q E h => ?_) (fun cdv A outer s H vs Q E hr h => ?_)
  · obtain ⟨p, ps, N, s, rfl, _⟩ := h
    rfl
  · obtain ⟨p, ps, N, s0, rfl, hp, g, hN, hs, hl, q⟩ := h
    refine ⟨_, pss_cons (ps_set (i := 3) scCanGo.nd rfl (.inl rfl) (pe_cal cO hr (by decide) (by rfl) (pa_cons (pv 0) (pa_cons (pv 1) pa_nil))))
      (pss_one (ps_ret (pe_and (pe_or (pe_cmpR (op_eqD hr.units) (pv 3) (pe_lst pa_nil) (nomark _))
        (pe_one (pe_and (pe_cmpR op_eq (pe_callB call_len_seq (by rfl) T.len PySem.boot_len (pa_cons (pv 3) pa_nil)) pe_int (nomark _)) (pe_one (pe_cmpR op_in_seq (pv 2) (pv 3) (by rfl))))))
        (pe_one (pe_cal cJ hr (by decide) (by rfl) (pa_cons (pv 0) (pa_cons (pv 2) pa_nil))))))), ?_⟩
    refine ⟨_, rfl, _, rfl, p, ps, N, rfl, hp, g, hN, fun H1 o s1 e1 => ?_⟩
    refine ⟨_, rfl, Nat.zero_le _, fun d hd => ?_⟩
    have s2 : Same H (upd H1 d (.lst [])) := s1.trans (Same.add _ hd)
    have e2 : (upd H1 d (.lst [])) d = some (.lst []) := upd_same
    have e3 : IL (upd H1 d (.lst [])) o (oddK N ps) := (Same.add _ hd) _ _ e1
    generalize upd H1 d (.lst []) = H2 at s2 e2 e3 ⊢
    refine ⟨_, _, dp_IL e3, dp_nil e2, shaped_nums _, shaped_nil, ?_⟩
    rw [eqv_nil, nil_map]
    have fin : ((oddK N ps = [] ∨ (oddK N ps).length = 2 ∧ s0 ∈ oddK N ps)) → tCall spJoined [] E0 (tCons (tVar 0) (tCons (tVar 2) tNil)) [some (.ref p), some (nv N), some (nv s0), some (.ref o)] H2 Q := fun h =>
      ⟨_, rfl, _, rfl, p, ps, N, s0, rfl, hp.same s2, g, hN, hs, hl, fun H3 b s3 hb => q _ b (s2.trans s3) (hb.trans ⟨fun j => (euler g).mpr ⟨(par_iff g).mpr h, j⟩, fun t => ((euler g).mp t).2⟩)⟩
    have no : ¬ ((oddK N ps = [] ∨ (oddK N ps).length = 2 ∧ s0 ∈ oddK N ps)) → Q (.bl false) H2 := fun h => q _ false s2 ⟨(fun z => by cases z), fun t => absurd ((par_iff g).mp ((euler g).mp t).1) h⟩
    refine ⟨_, rfl, ite2 (fun c => ?_) fun c => ?_⟩
    · exact ⟨_, rfl, fin (.inl (List.isEmpty_iff.mp c))⟩
    · have c1 : oddK N ps ≠ [] := fun z => c (List.isEmpty_iff.mpr z)
      refine ⟨_, rfl, o, _, rfl, .inl (SqL.of e3), rfl, _, rfl, ite2 (fun c2 => ?_) fun c2 => ?_⟩
      · have c3 : (oddK N ps).length = 2 := by
          have := V.int.inj (of_decide_eq_true c2)
          rw [List.length_map] at this
          omega
        refine ⟨_, rfl, _, rfl, o, _, rfl, .inl (SqL.of e3), rfl, flat_nv _, _, in_nv _ _, ite2 (fun c4 => ?_) fun c4 => ?_⟩
        · exact fin (.inr ⟨c3, of_decide_eq_true c4⟩)
        · exact no fun h => h.elim c1 fun h => c4 (decide_eq_true h.2)
      · have c3 : (oddK N ps).length ≠ 2 := fun z => c2 (decide_eq_true (by rw [List.length_map, z]; rfl))
        exact ⟨_, rfl, no fun h => h.elim c1 fun h => c3 h.1⟩
end
end Nm

namespace Nm
open PySem PySem.Spec PyProof.Rows L2
section
variable {P : Program} {w : World} {K : PySem.W.Frag} {mg : Str → Option Value} {base : Heap} {CP CD : Addr}
/-! ### has_way -/
def spHasWay : Sp := fun vs H Q _ => ∃ (p : Addr) (ps : List E) (N : Nat), vs = [.ref p, nv N] ∧ PL H p ps ∧ Good N ps ∧ N ≤ 16 ∧ ps.length ≤ 100 ∧ ∀ H' (b : Bool), Same H H' → (b = true ↔ HasWay N ps) → Q (.bl b) H'
theorem scHasWay : FnScope ["pairs", "many"] ["pairs", "many"] (defScope sHasWay) := ⟨rfl, rfl, rfl, by decide +kernel, rfl, by decide +kernel, by decide +kernel⟩
theorem ok_hasWay {f : Addr} {fd : FuncData} (F : Fun K "has_way" "has_way" sHasWay f fd) (T : Tx K mg CP CD) (cO : Cal P w K mg base 2 "odd_knots" spOddKnots) (cJ : Cal P w K mg base 2 "are_joined" spJoined) : FnOk P w K mg base CX0 3 f fd ["pairs", "many"] spHasWay := by
  refine F.ok scHasWay (fun vs H Q E h => ?_) (fun cdv A outer s H vs Q E hr h => ?_)
  · obtain ⟨p, ps, N, rfl, _⟩ := h
    rfl
  · obtain ⟨p, ps, N, rfl, hp, g, hN, hl, q⟩ := h
    refine ⟨_, pss_one (ps_ret (pe_or (pe_cmpR (op_eqD hr.units) (pv 0) (pe_lst pa_nil) (nomark _))
      (pe_one (pe_and (pe_cmpR op_le (pe_callB call_len_seq (by rfl) T.len PySem.boot_len (pa_cons (pe_cal cO hr (by decide) (by rfl) (pa_cons (pv 0) (pa_cons (pv 1) pa_nil))) pa_nil)) pe_int (nomark _))
        (pe_one (pe_cal cJ hr (by decide) (by rfl) (pa_cons (pv 0) (pa_cons (pe_ix ix_tup (pe_ix ix_list (pv 0) pe_int (fun _ _ => rfl)) pe_int (fun _ _ => rfl)) pa_nil)))))))), ?_⟩
    refine ⟨_, rfl, Nat.zero_le _, fun d hd => ?_⟩
    have s2 : Same H (upd H d (.lst [])) := Same.add _ hd
    have e2 : (upd H d (.lst [])) d = some (.lst []) := upd_same
    generalize upd H d (.lst []) = H2 at s2 e2 ⊢
    refine ⟨_, _, dp_PL (hp.same s2), dp_nil e2, shaped_pairs _, shaped_nil, ?_⟩
    rw [eqv_nil, nil_map]
    refine ⟨_, rfl, ite2 (fun c => ?_) fun c => ?_⟩
    · have c := List.isEmpty_iff.mp c
      subst c
      exact q _ _ s2 ⟨fun _ => trivial, fun _ => rfl⟩
    · cases ps with
      | nil => exact absurd rfl c
      | cons e0 ps =>
        refine ⟨_, rfl, _, rfl, p, _, N, rfl, hp.same s2, g, hN, fun H3 o s3 e3 => ?_⟩
        have s4 := s2.trans s3
        refine ⟨o, _, rfl, .inl (SqL.of e3), _, _, rfl, rfl, _, rfl, ite2 (fun c2 => ?_) fun c2 => ?_⟩
        · have c3 : (oddK N (e0 :: ps)).length ≤ 2 := by
            have := of_decide_eq_true c2
            rw [List.length_map] at this
            omega
          have hp4 := hp.same s4
          obtain ⟨zs, z1, z2, z3⟩ := id hp4
          cases zs with
          | nil => cases z3
          | cons z zs =>
            have ez : z.2 = e0 := (List.cons.inj z3).1
            have hz : H3 z.1 = some (pairO e0) := by
              rw [← ez]
              exact z2 z List.mem_cons_self
            have m0 := g.lt _ List.mem_cons_self
            have l0 := g.lo _ List.mem_cons_self
            refine ⟨_, rfl, _, rfl, p, _, _, _, rfl, rfl, SqL.of z1, atI_nat (j := 0) rfl, z.1, _, _, _, rfl, rfl, SqT.of hz, atI_nat (j := 0) rfl, p, _, N, e0.1, rfl, hp4, g, hN, by omega, hl, fun H5 b s5 hb => ?_⟩
            exact q _ b (s4.trans s5) (hb.trans ⟨fun j => ⟨c3, j⟩, fun h => h.2⟩)
        · refine q _ false s4 ⟨(fun z => by cases z), fun h => absurd (decide_eq_true ?_) c2⟩
          have := h.1
          rw [List.length_map]
          omega
/-! ### without -/
theorem min_nv (a b : Nat) : (if (b : Int) < (a : Int) then (b : Int) else (a : Int)) = ((min a b : Nat) : Int) := by
  split <;> omega
theorem max_nv (a b : Nat) : (if (b : Int) > (a : Int) then (b : Int) else (a : Int)) = ((max a b : Nat) : Int) := by
  split <;> omega
theorem mk_tup (a b : Nat) : HO.tup [.int (if (b : Int) < (a : Int) then (b : Int) else (a : Int)), .int (if (b : Int) > (a : Int) then (b : Int) else (a : Int))] = pairO (mk a b) := by
  rw [min_nv, max_nv]
  rfl
theorem ne_dec (a b : E) : (!decide (a = b)) = (a != b) := by
  rw [Bool.eq_iff_iff, bne_iff_ne, Bool.not_eq_true', decide_eq_false_iff_not]
def spWithout : Sp := fun vs H Q _ => ∃ (p : Addr) (ps : List E) (a b : Nat), vs = [.ref p, nv a, nv b] ∧ PL H p ps ∧ ps.length ≤ 100 ∧ ∀ H' r, Same H H' → PL H' r (del ps (mk a b)) → Q (.ref r) H'
theorem scWithout : FnScope ["pairs", "one", "other", "pair"] ["pairs", "one", "other"] (defScope sWithout) := ⟨rfl, rfl, rfl, by decide +kernel, rfl, by decide +kernel, by decide +kernel⟩
theorem ok_without {f : Addr} {fd : FuncData} (F : Fun K "without" "without" sWithout f fd) (T : Tx K mg CP CD) : FnOk P w K mg base CX0 1 f fd ["pairs", "one", "other"] spWithout := by
  refine F.ok scWithout (fun vs H Q E h => ?_) (fun cdv A outer s H vs Q E hr h => ?_)
  · obtain ⟨p, ps, a, b, rfl, _⟩ := h
    rfl
  · obtain ⟨p, ps, a, b, rfl, hp, hl, q⟩ := h
    obtain ⟨zs, z1, z2, z3⟩ := hp
    have hlz : zs.length = ps.length := by rw [← z3, List.length_map]
    have big : sizeLine = 16777216 := rfl
    refine ⟨_, pss_one (ps_ret (pe_lc (own := [("pair", 3)]) (g := gName 3) rfl scWithout.nd (pi_list (pv 0)) (blkOk_by (N := ["pairs", "one", "other", "pair"]) (sc := defScope sWithout) (by decide +kernel))
        (fun _ _ _ _ _ => pg_name (i := 3) scWithout.nd rfl (.inl rfl))
        (fun _ _ _ _ _ => pts_one (pt_cmpR (r := rNeD K) (op_neD hr.units) (pv 3) (pe_tup (pa_cons (pe_callB (call_min2 rfl) (by rfl) T.min (by decide +kernel) (pa_cons (pv 1) (pa_cons (pv 2) pa_nil))) (pa_cons (pe_callB (call_max2 rfl) (by rfl) T.max (by decide +kernel) (pa_cons (pv 1) (pa_cons (pv 2) pa_nil))) pa_nil))) (nomark _)))
        (fun _ _ _ _ _ => pv 3))), ?_⟩
    refine ⟨_, rfl, p, rfl, ⟨_, SqL.of z1⟩, fun D hD => lc_keep (zs := zs) (val := fun z => V.ref z.1) (fun z => z.2 != mk a b) (fun z => V.ref z.1) (SqL.of z1) hD (by omega) ?_ ?_⟩
    · intro z hz H2 s2 Ty Tn ky kn
      refine ⟨rfl, ?_⟩
      refine ⟨_, rfl, _, rfl, _, rfl, a, b, rfl, _, rfl, _, rfl, a, b, rfl, (by show 2 ≤ sizeLine; decide), fun t ht => ?_⟩
      dsimp only
      rw [mk_tup]
      have s3 : Same H2 (upd H2 t (pairO (mk a b))) := Same.add _ ht
      have e3 : (upd H2 t (pairO (mk a b))) t = some (pairO (mk a b)) := upd_same
      generalize upd H2 t (pairO (mk a b)) = H3 at s3 e3 ⊢
      refine ⟨_, _, dp_pair (s3 _ _ (s2 _ _ (z2 z hz))), dp_pair e3, shapedE _, shapedE _, _, rfl, ?_⟩
      rw [eqv_pair, ne_dec]
      exact ite2 (fun y => ⟨_, rfl, ky _ y s3⟩) fun y => kn _ (Bool.eq_false_iff.mpr y) s3
    · intro H2 s2 e2
      refine q _ _ s2 ⟨_, e2, fun z hz => s2 _ _ (z2 z (List.mem_filter.mp hz).1), ?_⟩
      rw [← z3]
      unfold del
      rw [List.filter_map]
      rfl
/-! ### steps_from -/
def spSteps : Sp := fun vs H Q _ => ∃ (p : Addr) (ps : List E) (N k : Nat), vs = [.ref p, nv k] ∧ PL H p ps ∧ Good N ps ∧ ps.length ≤ 100 ∧ ∀ H' r, Same H H' → IL H' r (steps N ps k) → Q (.ref r) H'
theorem scSteps : FnScope ["pairs", "knot", "a", "b"] ["pairs", "knot"] (defScope sSteps) := ⟨rfl, rfl, rfl, by decide +kernel, rfl, by decide +kernel, by decide +kernel⟩
theorem at_in (k : Nat) (e : E) : decide (k ∈ [e.1, e.2]) = at_ k e := by
  unfold at_
  rw [Bool.eq_iff_iff, decide_eq_true_iff, Bool.or_eq_true, beq_iff_eq, beq_iff_eq]
  simp
theorem ok_steps {f : Addr} {fd : FuncData} (F : Fun K "steps_from" "steps_from" sSteps f fd) (T : Tx K mg CP CD) : FnOk P w K mg base CX0 1 f fd ["pairs", "knot"] spSteps := by
  refine F.ok scSteps (fun vs H Q E h => ?_) (fun cdv A outer s H vs Q E hr h => ?_)
  · obtain ⟨p, ps, N, k, rfl, _⟩ := h
    rfl
  · obtain ⟨p, ps, N, k, rfl, hp, g, hl, q⟩ := h
    obtain ⟨zs, z1, z2, z3⟩ := hp
    have hlz : zs.length = ps.length := by rw [← z3, List.length_map]
    have big : sizeLine = 16777216 := rfl
    refine ⟨_, pss_one (ps_ret (pe_callB cr_sortedI (by rfl) T.sorted (by decide +kernel) (pa_cons (pe_lc (own := [("a", 2), ("b", 3)]) (g := gTup K 2 (gCons (gName 2) (gCons (gName 3) gNil))) rfl scSteps.nd (pi_list (pv 0)) (blkOk_by (N := ["pairs", "knot", "a", "b"]) (sc := defScope sSteps) (by decide +kernel))
        (fun _ _ _ _ _ => pg_tup rfl (pgs_cons (pg_name (i := 2) scSteps.nd rfl (.inl rfl)) (pgs_cons (pg_name (i := 3) scSteps.nd rfl (.inl rfl)) pgs_nil)))
        (fun _ _ _ _ _ => pts_one (pt_cmpR (r := rIn K false) op_in_seq (pv 1) (pe_tup (pa_cons (pv 2) (pa_cons (pv 3) pa_nil))) (by rfl)))
        (fun _ _ _ _ _ => pe_op op_sub (pe_op op_add (pv 2) (pv 3)) (pv 1))) pa_nil))), ?_⟩
    refine ⟨_, rfl, p, rfl, ⟨_, SqL.of z1⟩, fun D hD => lc_keep (zs := zs) (val := fun z => V.ref z.1) (fun z => at_ k z.2) (fun z => .int ((z.2.1 : Int) + (z.2.2 : Int) - (k : Int))) (SqL.of z1) hD (by omega) ?_ ?_⟩
    · intro z hz H2 s2 Ty Tn ky kn
      refine ⟨z.1, _, rfl, SqT.of (s2 _ _ (z2 z hz)), rfl, _, _, rfl, _, _, rfl, rfl, rfl, ?_⟩
      refine ⟨_, rfl, _, rfl, _, rfl, (by show 2 ≤ sizeLine; decide), fun t ht => ?_⟩
      refine ⟨t, _, rfl, .inr (SqT.of upd_same), rfl, rfl, _, in_nv k [z.2.1, z.2.2], ?_⟩
      rw [at_in]
      refine ite2 (fun y => ?_) fun y => kn _ (Bool.eq_false_iff.mpr y) (Same.add _ ht)
      exact ⟨_, rfl, _, rfl, _, _, rfl, rfl, _, rfl, _, _, rfl, rfl, ky _ y (Same.add _ ht)⟩
    · intro H2 s2 e2
      have en : ((zs.filter fun z => at_ k z.2).map fun z => V.int ((z.2.1 : Int) + (z.2.2 : Int) - (k : Int))) = (neigh ps k).map V.int := by
        rw [← z3]
        unfold neigh
        rw [List.filter_map, List.map_map, List.map_map]
        rfl
      rw [en] at e2
      refine ⟨D, _, rfl, SqL.of e2, fun ns' r pm up hr => ?_⟩
      have e := sorted_steps g pm up
      refine q _ r (s2.trans (Same.add _ hr)) ?_
      show upd H2 r _ r = _
      rw [upd_same, e, List.map_map]
      rfl
/-! ### next_knot -/
def spNext : Sp := fun vs H Q _ => ∃ (p : Addr) (ps : List E) (N k : Nat), vs = [.ref p, nv N, nv k] ∧ PL H p ps ∧ Good N ps ∧ N ≤ 16 ∧ ps.length ≤ 100 ∧ HasT ps k ∧ ps ≠ [] ∧ ∀ H' j, Same H H' → Next ps k j → Q (nv j) H'
theorem scNext : FnScope ["pairs", "many", "knot", "other"] ["pairs", "many", "knot"] (defScope sNext) := ⟨rfl, rfl, rfl, by decide +kernel, rfl, by decide +kernel, by decide +kernel⟩
theorem ok_next {f : Addr} {fd : FuncData} (F : Fun K "next_knot" "next_knot" sNext f fd) (T : Tx K mg CP CD) (cS : Cal P w K mg base 1 "steps_from" spSteps) (cG : Cal P w K mg base 3 "can_go_from" spCanGo) (cW : Cal P w K mg base 1 "without" spWithout) : FnOk P w K mg base CX0 4 f fd ["pairs", "many", "knot"] spNext := by
  refine F.ok scNext (fun vs H Q E h => ?_) (fun cdv A outer s H vs Q E hr h => ?_)
  · obtain ⟨p, ps, N, k, rfl, _⟩ := h
    rfl
  · obtain ⟨p, ps, N, k, rfl, hp, g, hN, hl, ht, h0, q⟩ := h
    refine ⟨_, pss_cons (ps_for PassesOwn.never rfl (pi_list (pe_cal cS hr (by decide) (by rfl) (pa_cons (pv 0) (pa_cons (pv 2) pa_nil)))) (pg_name (i := 3) scNext.nd rfl (.inl rfl))
        (pss_one (ps_if (pt_val (pe_cal cG hr (by decide) (by rfl) (pa_cons (pe_cal cW hr (by decide) (by rfl) (pa_cons (pv 0) (pa_cons (pv 2) (pa_cons (pv 3) pa_nil)))) (pa_cons (pv 1) (pa_cons (pv 3) pa_nil))))) (pss_one (ps_ret (pv 3))) pss_nil)))
      (pss_one (ps_ret (pv 2))), ?_⟩
    refine ⟨_, rfl, _, rfl, p, ps, N, k, rfl, hp, g, hl, fun H1 o s1 e1 => ?_⟩
    refine ⟨o, rfl, ⟨_, SqL.of e1⟩, for_list (K := K) (a := o) (xs := (steps N ps k).map nv) (fun i σ H' => ∃ y3, σ = [some (.ref p), some (nv N), some (nv k), y3] ∧ Same H H' ∧ Same H1 H' ∧ ∀ x ∈ (steps N ps k).take i, ¬ HasT (del ps (mk k x)) x)
      ⟨none, rfl, s1, Same.refl _, fun _ h => absurd h (by simp)⟩ (fun i σ H' _ ⟨_, _, _, s, _⟩ => s.seq (SqL.of e1)) ?_ ?_⟩
    · rintro i x σ H' hx ⟨y3, rfl, s2, s3, low⟩
      obtain ⟨j, hj, rfl⟩ := map_at hx
      have hm := (mem_steps g).mp (List.mem_of_getElem? hj)
      have hb := bt_lt g hm (mk_bt g hm)
      have dl := del_length g.nd hm
      refine ⟨_, rfl, _, rfl, _, rfl, p, ps, k, j, rfl, hp.same s2, hl, fun H2 r s4 hr4 => ?_⟩
      refine ⟨_, rfl, _, rfl, r, _, N, j, rfl, hr4, g.del _, hN, hb.2.1, by omega, fun H5 b s5 hb5 => ?_⟩
      refine ⟨b, rfl, ite2 (fun c => ?_) fun c => ?_⟩
      · exact ⟨_, rfl, q _ j (s2.trans (s4.trans s5)) (next_of g hj (hb5.mp c) low)⟩
      · refine ⟨_, rfl, s2.trans (s4.trans s5), s3.trans (s4.trans s5), fun x hx => ?_⟩
        rw [take_snoc hj] at hx
        rcases List.mem_append.mp hx with z | z
        · exact low x z
        · rw [List.mem_singleton.mp z]
          exact fun t => c (hb5.mpr t)
    · rintro σ H' ⟨y3, rfl, s2, s3, low⟩
      rw [List.take_of_length_le (by rw [List.length_map]; exact Nat.le_refl _)] at low
      obtain ⟨j, hj, t⟩ := some_next g ht h0
      exact absurd t (low j hj)
end
end Nm

namespace Nm
open PySem PySem.Spec PyProof.Rows L2
theorem filter_head {p : Nat → Bool} {N k : Nat} {r : List Nat} (h : (List.range N).filter p = k :: r) : p k = true ∧ k < N ∧ ∀ i, i < k → p i = false := by
  obtain ⟨l1, l2, e, no, pk, _⟩ := List.filter_eq_cons_iff.mp h
  have len := congrArg List.length e
  rw [List.length_range, List.length_append, List.length_cons] at len
  have hk : k = l1.length := by
    have a : (List.range N)[l1.length]? = some k := by rw [e, List.getElem?_append_right (Nat.le_refl _), Nat.sub_self]; rfl
    rw [List.getElem?_range (by omega)] at a
    exact (Option.some.inj a).symm
  refine ⟨pk, by omega, fun i hi => ?_⟩
  have b : (List.range N)[i]? = some i := List.getElem?_range (by omega)
  rw [e, List.getElem?_append_left (by omega)] at b
  exact Bool.eq_false_iff.mpr (no i (List.mem_of_getElem? b))
/-- the earliest way over ps -/
def EW (N : Nat) (ps : List E) (w : List Nat) : Prop := (ps = [] ∧ w = []) ∨ (ps ≠ [] ∧ ∃ k, k < N ∧ HasT ps k ∧ (∀ i, i < k → ¬ HasT ps i) ∧ firstP N ps.length ps k = some w)
theorem PL.over {H : Hp} {l r : Addr} {qs : List E} {xs : List V} {k : Nat} {o : HO} (h : PL H l qs) (e : H r = some (.lst (xs ++ [nv k]))) : PL (upd H r o) l qs := by
  obtain ⟨zs, h1, h2, h3⟩ := h
  refine ⟨zs, ?_, fun z hz => ?_, h3⟩
  · rw [upd_ne (ne_of h1 e (fun c => ?_))]
    · exact h1
    · have c := HO.lst.inj c
      have m : nv k ∈ zs.map fun z => V.ref z.1 := by
        rw [c]
        exact List.mem_append_right _ (List.mem_singleton.mpr rfl)
      obtain ⟨z, _, q⟩ := List.mem_map.mp m
      cases q
  · rw [upd_ne (ne_of (h2 z hz) e (fun c => by cases c))]
    exact h2 z hz
section
variable {P : Program} {w : World} {K : PySem.W.Frag} {mg : Str → Option Value} {base : Heap} {CP CD : Addr}
/-! ### earliest_way -/
def spEarliest : Sp := fun vs H Q _ => ∃ (p : Addr) (ps : List E) (N : Nat), vs = [.ref p, nv N] ∧ PL H p ps ∧ Good N ps ∧ N ≤ 16 ∧ ps.length ≤ 100 ∧ HasWay N ps ∧ ∀ H' r u, Same H H' → IL H' r u → EW N ps u → Q (.ref r) H'
theorem scEarliest : FnScope ["pairs", "many", "starts", "found", "left", "knot"] ["pairs", "many"] (defScope sEarliest) := ⟨rfl, rfl, rfl, by decide +kernel, rfl, by decide +kernel, by decide +kernel⟩
theorem ok_earliest {f : Addr} {fd : FuncData} (F : Fun K "earliest_way" "earliest_way" sEarliest f fd) (T : Tx K mg CP CD) (cS : Cal P w K mg base 1 "steps_from" spSteps) (cG : Cal P w K mg base 3 "can_go_from" spCanGo) (cN : Cal P w K mg base 4 "next_knot" spNext) (cW : Cal P w K mg base 1 "without" spWithout) : FnOk P w K mg base CX0 5 f fd ["pairs", "many"] spEarliest := by
  refine F.ok scEarliest (fun vs H Q E h => ?_) (fun cdv A outer s H vs Q E hr h => ?_)
  · obtain ⟨p, ps, N, rfl, _⟩ := h
    rfl
  · obtain ⟨p, ps, N, rfl, hp, g, hN, hl, hw, q⟩ := h
    refine ⟨_, pss_cons (ps_if (pt_cmpR (op_eqD hr.units) (pv 0) (pe_lst pa_nil) (nomark _)) (pss_one (ps_ret (pe_lst pa_nil))) pss_nil)
      (pss_cons (ps_setLc (i := 2) (own := [("knot", 5)]) (g := gName 5) rfl scEarliest.nd rfl rfl (sw_true rfl rfl rfl (by decide +kernel)) (pi_range1 (by rfl) T.range (pa_cons (pv 1) pa_nil)) (blkOk_by (N := ["pairs", "many", "starts", "found", "left", "knot"]) (sc := defScope sEarliest) (by decide +kernel))
          (fun _ _ _ _ _ => pg_name (i := 5) scEarliest.nd rfl (.inl rfl))
          (fun _ _ _ _ _ => pts_one (PW.pt (pw_and (pt_cmpR (r := rNeD K) (op_neD hr.units) (pe_cal cS hr (by decide) (by rfl) (pa_cons (pv 0) (pa_cons (pv 5) pa_nil))) (pe_lst pa_nil) (nomark _)) (pw_and1 (pt_val (pe_cal cG hr (by decide) (by rfl) (pa_cons (pv 0) (pa_cons (pv 1) (pa_cons (pv 5) pa_nil)))))))))
          (fun _ _ _ _ _ => pv 5))
      (pss_cons (ps_set (i := 3) scEarliest.nd rfl (.inl rfl) (pe_lst (pa_cons (pe_ix ix_list (pv 2) pe_int (fun _ _ => rfl)) pa_nil)))
      (pss_cons (ps_set (i := 4) scEarliest.nd rfl (.inl rfl) (pe_callTy call_list_of (by rfl) T.list (by decide +kernel) (pa_cons (pv 0) pa_nil)))
      (pss_cons (ps_while PassesOwn.never (pt_cmpR (op_neD hr.units) (pv 4) (pe_lst pa_nil) (nomark _))
        (pss_cons (ps_set (i := 5) scEarliest.nd rfl (.inl rfl) (pe_cal cN hr (by decide) (by rfl) (pa_cons (pv 4) (pa_cons (pv 1) (pa_cons (pe_ix ix_list (pv 3) (pe_un un_neg pe_int) (fun _ _ => rfl)) pa_nil)))))
        (pss_cons (ps_set (i := 4) scEarliest.nd rfl (.inl rfl) (pe_cal cW hr (by decide) (by rfl) (pa_cons (pv 4) (pa_cons (pe_ix ix_list (pv 3) (pe_un un_neg pe_int) (fun _ _ => rfl)) (pa_cons (pv 5) pa_nil)))))
        (pss_one (ps_expr (pe_bm PySem.F.plainAttrs_list PySem.F.slot_list_append PySem.F.type_list_append mt_append (pv 3) (pa_cons (pv 5) pa_nil)))))))
      (pss_one (ps_ret (pv 3))))))), ?_⟩
    have big : sizeLine = 16777216 := rfl
    refine ⟨_, rfl, Nat.zero_le _, fun d hd => ?_⟩
    have s2 : Same H (upd H d (.lst [])) := Same.add _ hd
    have e2 : (upd H d (.lst [])) d = some (.lst []) := upd_same
    generalize upd H d (.lst []) = H2 at s2 e2 ⊢
    refine ⟨_, _, dp_PL (hp.same s2), dp_nil e2, shaped_pairs _, shaped_nil, _, rfl, ?_⟩
    rw [eqv_nil, nil_map]
    refine ite2 (fun c => ?_) fun c => ?_
    · have c := List.isEmpty_iff.mp c
      refine ⟨Nat.zero_le _, fun r nr => q _ r [] (s2.trans (Same.add _ nr)) upd_same (.inl ⟨c, rfl⟩)⟩
    have h0 : ps ≠ [] := fun z => c (List.isEmpty_iff.mpr z)
    obtain ⟨kf, hkf⟩ : ∃ kf : Nat → Bool, ∀ i, kf i = true ↔ HasT ps i := by
      classical
      exact ⟨fun i => decide (HasT ps i), fun i => decide_eq_true_iff⟩
    refine ⟨_, rfl, N, rfl, by omega, by omega, fun D hD => lr_keep (n := N) kf nv hD (by omega) ?_ ?_⟩
    · intro i hi H3 s3 Ty Tn ky kn
      refine ⟨rfl, ?_⟩
      refine ⟨_, rfl, _, rfl, p, ps, N, i, rfl, hp.same (s2.trans s3), g, hl, fun H4 r s4 e4 => ?_⟩
      refine ⟨Nat.zero_le _, fun d2 hd2 => ?_⟩
      have s5 : Same H4 (upd H4 d2 (.lst [])) := Same.add _ hd2
      have e5 : (upd H4 d2 (.lst [])) d2 = some (.lst []) := upd_same
      generalize upd H4 d2 (.lst []) = H5 at s5 e5 ⊢
      refine ⟨_, _, dp_IL (s5 _ _ e4), dp_nil e5, shaped_nums _, shaped_nil, _, rfl, ?_⟩
      rw [eqv_nil, nil_map]
      refine ite2 (fun c2 => ?_) fun c2 => ?_
      · refine ⟨_, rfl, _, rfl, _, rfl, p, ps, N, i, rfl, hp.same (s2.trans (s3.trans (s4.trans s5))), g, hN, hi, hl, fun H6 b s6 hb => ⟨b, rfl, ?_⟩⟩
        refine ite2 (fun c3 => ⟨_, rfl, ky _ ((hkf i).mpr (hb.mp c3)) (s4.trans (s5.trans s6))⟩) fun c3 => kn _ (Bool.eq_false_iff.mpr fun z => c3 (hb.mpr ((hkf i).mp z))) (s4.trans (s5.trans s6))
      · refine kn _ (Bool.eq_false_iff.mpr fun z => c2 ?_) (s4.trans s5)
        have := steps_of_way g ((hkf i).mp z) h0
        rw [Bool.not_eq_true', Bool.eq_false_iff]
        exact fun y => this (List.isEmpty_iff.mp y)
    · intro H3 s3 e3
      obtain ⟨k, hkN, hk, klo, rest, hst⟩ : ∃ k, k < N ∧ HasT ps k ∧ (∀ i, i < k → ¬ HasT ps i) ∧ ∃ rest, (List.range N).filter kf = k :: rest := by
        cases ec : (List.range N).filter kf with
        | nil =>
          obtain ⟨e0, ps', rfl⟩ := List.exists_cons_of_ne_nil h0
          obtain ⟨k, h1, h2⟩ := some_way g List.mem_cons_self hw.1 hw.2
          have := List.filter_eq_nil_iff.mp ec k (List.mem_range.mpr h1)
          exact absurd ((hkf k).mpr h2) this
        | cons k rest =>
          obtain ⟨h1, h2, h3⟩ := filter_head ec
          exact ⟨k, h2, (hkf k).mp h1, fun i hi t => absurd ((hkf i).mpr t) (by rw [h3 i hi]; decide), rest, rfl⟩
      rw [hst] at e3
      refine ⟨_, rfl, D, _, _, _, rfl, rfl, SqL.of e3, atI_nat (j := 0) rfl, (by show 1 ≤ sizeLine; decide), fun r nr => ?_⟩
      have s4 : Same H (upd H3 r (.lst [nv k])) := (s2.trans s3).trans (Same.add _ nr)
      have nr0 : H r = none := (s2.trans s3).free nr
      have e4 : (upd H3 r (.lst [nv k])) r = some (.lst (([] : List Nat).map nv ++ [nv k])) := upd_same
      generalize upd H3 r (.lst [nv k]) = H4 at s4 e4 ⊢
      obtain ⟨zs, z1, z2, z3⟩ := hp.same s4
      refine ⟨_, rfl, p, _, rfl, .inl (SqL.of z1), fun l nl => ?_⟩
      have s5 : Same H4 (upd H4 l (.lst (zs.map fun z => V.ref z.1))) := Same.add _ nl
      have p5 : PL (upd H4 l (.lst (zs.map fun z => V.ref z.1))) l ps := ⟨zs, upd_same, fun z hz => s5 _ _ (z2 z hz), z3⟩
      generalize upd H4 l (.lst (zs.map fun z => V.ref z.1)) = H5 at s5 p5 ⊢
      obtain ⟨u, hu⟩ := Option.isSome_iff_exists.mp ((firstP_some ps.length g (Nat.le_refl _) k).mpr hk)
      obtain ⟨u', rfl⟩ := firstP_head _ hu
      refine ⟨fun m σ H' => ∃ pre k' w' l y5 qs, σ = [some (.ref p), some (nv N), some (.ref D), some (.ref r), some (.ref l), y5] ∧ Same H H' ∧ H' r = some (.lst ((pre : List Nat).map nv ++ [nv k'])) ∧ PL H' l qs ∧ Good N qs ∧ pre.length + qs.length = ps.length ∧ firstP N qs.length qs k' = some (k' :: w') ∧ k :: u' = pre ++ k' :: w' ∧ k' < N ∧ m = qs.length,
        ⟨ps.length, [], k, u', l, none, ps, rfl, s4.trans s5, s5 _ _ e4, p5, g, by simp, hu, rfl, hkN, rfl⟩, ?_⟩
      rintro m σ H' ⟨pre, k', w', l, y5, qs, rfl, s6, e6, p6, g6, hlen, hf, hwhole, hk', rfl⟩
      refine ⟨_, rfl, Nat.zero_le _, fun d3 hd3 => ?_⟩
      have s7 : Same H' (upd H' d3 (.lst [])) := Same.add _ hd3
      have e7 : (upd H' d3 (.lst [])) d3 = some (.lst []) := upd_same
      generalize upd H' d3 (.lst []) = H7 at s7 e7 ⊢
      refine ⟨_, _, dp_PL (p6.same s7), dp_nil e7, shaped_pairs _, shaped_nil, _, rfl, ?_⟩
      rw [eqv_nil, nil_map]
      refine ite2 (fun c2 => ?_) fun c2 => ?_
      · have hq : qs ≠ [] := fun z => by rw [z] at c2; cases c2
        have ht : HasT qs k' := (firstP_some qs.length g6 (Nat.le_refl _) k').mp (by rw [hf]; rfl)
        refine ⟨fun σ' H'' => ∃ m', m' < qs.length ∧ ∃ pre k' w' l y5 qs, σ' = [some (.ref p), some (nv N), some (.ref D), some (.ref r), some (.ref l), y5] ∧ Same H H'' ∧ H'' r = some (.lst ((pre : List Nat).map nv ++ [nv k'])) ∧ PL H'' l qs ∧ Good N qs ∧ pre.length + qs.length = ps.length ∧ firstP N qs.length qs k' = some (k' :: w') ∧ k :: u' = pre ++ k' :: w' ∧ k' < N ∧ m' = qs.length, fun _ _ h => h, ?_⟩
        have a7 := s7 _ _ e6
        refine ⟨_, rfl, _, rfl, _, rfl, 1, rfl, r, _, _, _, rfl, rfl, SqL.of a7, atI_last _ _, l, qs, N, k', rfl, p6.same s7, g6, hN, by omega, ht, hq, fun H8 j s8 nx => ?_⟩
        have a8 := s8 _ _ a7
        refine ⟨_, rfl, _, rfl, 1, rfl, r, _, _, _, rfl, rfl, SqL.of a8, atI_last _ _, _, rfl, l, qs, k', j, rfl, (p6.same s7).same s8, by omega, fun H9 l' s9 p9 => ?_⟩
        have a9 := s9 _ _ a8
        have dl := del_length g6.nd nx.mem
        refine ⟨_, rfl, .inl ⟨rfl, _, SqL.of a9⟩, _, rfl, r, _, _, rfl, rfl, a9, ?_, ?_⟩
        · rw [List.length_append, List.length_map, List.length_singleton]
          omega
        · obtain ⟨w2, f1, f2⟩ := next_first (f := (del qs (mk k' j)).length) g6 (by omega) nx
          rw [← dl, hf] at f1
          have f3 := (List.cons.inj (Option.some.inj f1)).2
          obtain ⟨w3, rfl⟩ := firstP_head _ f2
          refine ⟨(del qs (mk k' j)).length, by omega, pre ++ [k'], j, w3, l', some (nv j), del qs (mk k' j), rfl, (s6.trans (s7.trans (s8.trans s9))).put nr0, ?_, p9.over a9, g6.del _, ?_, f2, ?_, (bt_lt g6 nx.mem (mk_bt g6 nx.mem)).2.1, rfl⟩
          · rw [upd_same, List.map_append]
            rfl
          · rw [List.length_append, List.length_singleton]
            omega
          · rw [hwhole, f3, List.append_assoc]
            rfl
      · have hq : qs = [] := by
          rw [Bool.not_eq_true', Bool.not_eq_false] at c2
          exact List.isEmpty_iff.mp c2
        subst hq
        have hw' : w' = [] := by
          have : firstP N ([] : List Nm.E).length [] k' = some [k'] := rfl
          rw [this] at hf
          exact (List.cons.inj (Option.some.inj hf)).2.symm
        subst hw'
        refine ⟨_, rfl, q _ r (k :: u') (s6.trans s7) ?_ (.inr ⟨h0, k, hkN, hk, klo, hu⟩)⟩
        rw [hwhole]
        show H7 r = some (.lst ((pre ++ [k']).map nv))
        rw [List.map_append]
        exact s7 _ _ e6
end
end Nm

namespace Nm
open PySem PySem.Spec PyProof.Rows L2
theorem erase_map {α β : Type} (f : α → β) : ∀ (l : List α) (j : Nat), (l.map f).eraseIdx j = (l.eraseIdx j).map f
  | [], _ => rfl
  | _ :: _, 0 => rfl
  | x :: l, j + 1 => congrArg (f x :: ·) (erase_map f l j)
theorem erase_del : ∀ {ps : List E} {j : Nat} {e : E}, ps.Nodup → ps[j]? = some e → ps.eraseIdx j = del ps e
  | [], _, _, _, h => by simp at h
  | p :: ps, 0, e, nd, h => by
    have h : p = e := Option.some.inj h
    subst h
    show ps = _
    unfold del
    rw [List.filter_cons_of_neg (by simp)]
    refine (List.filter_eq_self.mpr fun x hx => ?_).symm
    rw [bne_iff_ne]
    rintro rfl
    exact (List.nodup_cons.mp nd).1 hx
  | p :: ps, j + 1, e, nd, h => by
    have h : ps[j]? = some e := h
    show p :: ps.eraseIdx j = _
    rw [erase_del (List.nodup_cons.mp nd).2 h]
    unfold del
    rw [List.filter_cons_of_pos]
    rw [bne_iff_ne]
    rintro rfl
    exact (List.nodup_cons.mp nd).1 (List.mem_of_getElem? h)
/-! ### l.remove(pair), the pair among them -/
section
variable {X : Cx}
def rRemE (x : V) (xs : List V) (H : Hp) (Q : VK) : Prop := ∃ (a t : Addr) (zs : List (Addr × E)) (e : E) (j : Nat), x = V.ref a ∧ xs = [V.ref t] ∧ H a = some (.lst (zs.map fun z => V.ref z.1)) ∧ (∀ z ∈ zs, H z.1 = some (pairO z.2)) ∧ H t = some (pairO e) ∧
  (zs.map (·.2))[j]? = some e ∧ (∀ m, m < j → (zs.map (·.2))[m]? ≠ some e) ∧ Q .non (upd H a (.lst ((zs.eraseIdx j).map fun z => V.ref z.1)))
theorem mt_removeE (room : X.A.units + 65 < cLine) : MtR X "list.remove" rRemE := by
  rintro pins s σ H _ _ v us Q I rx rxs ⟨a, t, zs, e, j, rfl, rfl, hH, hz, ht, hj, hno, q⟩
  cases rx
  obtain ⟨uy, rfl, ry⟩ := Vals.one rxs
  obtain ⟨bs, reads1⟩ := Dp.reads I (pdE e) (V.ref t) uy (dp_pair ht) ry
  obtain ⟨fits, its, cap, rels, hlen, here⟩ := I.lstM hH
  obtain ⟨as, readsL⟩ := Dp.readsAll I ((zs.map (·.2)).map pdE) _ its (dp_all (fun _ _ => dp_pair) zs hz) rels
  have lay : PyData.canLayAll0 ((zs.map (·.2)).map pdE) = true := all_lay layE _
  have same : its.map (SeqAt.readOf s.heap) = (zs.map (·.2)).map pdE := SeqAt.readsAll_map _ its as lay readsL
  have long : its.length = (zs.map (·.2)).length := by
    have := congrArg List.length same
    rw [List.length_map, List.length_map] at this
    exact this
  have here_at : ∀ (m : Nat) (hm : m < its.toArray.size), ∃ hm2 : m < (zs.map (·.2)).length, SeqAt.readOf s.heap its.toArray[m] = pdE ((zs.map (·.2))[m]) := fun m hm => by
    have hm1 : m < its.length := by simpa using hm
    have hm2 : m < (zs.map (·.2)).length := by omega
    refine ⟨hm2, ?_⟩
    have := congrArg (fun l => l[m]?) same
    simp only [List.getElem?_map, List.getElem?_eq_getElem hm1, List.getElem?_eq_getElem hm2] at this
    have e1 := Option.some.inj this
    simpa using e1
  obtain ⟨hj1, hj2⟩ := List.getElem?_eq_some_iff.mp hj
  have hjs : j < its.toArray.size := by
    rw [List.size_toArray]
    omega
  have hzl : (zs.map (·.2)).length = zs.length := List.length_map _
  have hfit : its.toArray.size ≤ sizeLine := by
    rw [List.length_map] at fits
    rw [List.size_toArray]
    omega
  refine call_meets PySem.F.slot_list_remove ⟨_, here, rfl⟩ PySem.F.entry_list_remove (PySem.F.args_list_remove_2 _ _)
    (PySem.SeqAt.list_removeAt a its.toArray cap none #[] uy (fun u => PyData.eqv (SeqAt.readOf s.heap u) (pdE e)) j hjs ?hit ?hno hfit)
    ⟨here, SeqAt.items_eqAt (vs := its.toArray) (show ReadsAll s.heap its.toArray.toList _ as from readsL) reads1 lay (layE e) (room_in_shaped (shapedE e) room), ?_⟩
  case hit =>
    obtain ⟨h2, h3⟩ := here_at j hjs
    show PyData.eqv (SeqAt.readOf s.heap its.toArray[j]) (pdE e) = true
    rw [h3, eqv_pair, decide_eq_true_iff]
    exact hj2
  case hno =>
    intro m hm hmj
    obtain ⟨h2, h3⟩ := here_at m hm
    show PyData.eqv (SeqAt.readOf s.heap its.toArray[m]) (pdE e) = false
    rw [h3, eqv_pair, decide_eq_false_iff_not]
    intro z
    exact hno m hmj (by rw [List.getElem?_eq_getElem h2, z])
  have rels2 := rels.eraseIdx j
  rw [erase_map] at rels2
  refine ⟨.non, _, I.lset (its' := its.eraseIdx j) hH here ?_ rels2 ?_, rfl, q⟩
  · show its.toArray.eraseIdxIfInBounds j = _
    rw [List.eraseIdxIfInBounds_toArray]
  · have l1 := List.length_eraseIdx_le zs j
    rw [List.length_map] at fits ⊢
    omega
end
end Nm

namespace Nm
open PySem PySem.Spec PyProof.Rows L2
theorem any_pairs (e : E) : ∀ ps : List E, ((ps.map pdE).any fun z => PyData.eqv z (pdE e)) = decide (e ∈ ps)
  | [] => by rw [decide_eq_false (by simp)]; rfl
  | p :: ps => by
    rw [List.map_cons, List.any_cons, any_pairs e ps, eqv_pair, Bool.eq_iff_iff, Bool.or_eq_true, decide_eq_true_iff, decide_eq_true_iff, decide_eq_true_iff, List.mem_cons]
    constructor
    · rintro (h | h)
      · exact .inl h.symm
      · exact .inr h
    · rintro (h | h)
      · exact .inl h.symm
      · exact .inr h
theorem isWay_end {ps : List E} {ks : List Nat} (h : ks.length ≤ 1) : isWay ps ks = ps.isEmpty := by
  match ks, h with
  | [], _ => rw [isWay]; intro _ _ _ z; cases z
  | [_], _ => rw [isWay]; intro _ _ _ z; cases z
theorem hu65 {k : Nat} {A : Around} (r : Room k A) : A.units + 65 < cLine := by
  have := r.un
  omega
section
variable {P : Program} {w : World} {K : PySem.W.Frag} {mg : Str → Option Value} {base : Heap} {CP CD : Addr}
/-! ### is_way -/
def spIsWay (K : PySem.W.Frag) : Sp := fun vs H Q _ => ∃ (p kp : Addr) (ps : List E) (ks : List Nat), vs = [.ref p, .ref kp] ∧ PL H p ps ∧ SqL K H kp (ks.map nv) ∧ ps.Nodup ∧ ps.length ≤ 100 ∧ ks.length ≤ 1000 ∧ ∀ H', Same H H' → Q (.bl (isWay ps ks)) H'
theorem scIsWay : FnScope ["pairs", "knots", "left", "k", "pair"] ["pairs", "knots"] (defScope sIsWay) := ⟨rfl, rfl, rfl, by decide +kernel, rfl, by decide +kernel, by decide +kernel⟩
theorem ok_isWay {f : Addr} {fd : FuncData} (F : Fun K "is_way" "is_way" sIsWay f fd) (T : Tx K mg CP CD) : FnOk P w K mg base CX0 1 f fd ["pairs", "knots"] (spIsWay K) := by
  refine F.ok scIsWay (fun vs H Q E h => ?_) (fun cdv A outer s H vs Q E hr h => ?_)
  · obtain ⟨p, kp, ps, ks, rfl, _⟩ := h
    rfl
  · obtain ⟨p, kp, ps, ks, rfl, hp, hk, nd, hl, hkl, q⟩ := h
    refine ⟨_, pss_cons (ps_set (i := 2) scIsWay.nd rfl (.inl rfl) (pe_callTy call_list_of (by rfl) T.list (by decide +kernel) (pa_cons (pv 0) pa_nil)))
      (pss_cons (ps_for PassesOwn.never rfl (pi_range2 (by rfl) T.range (pa_cons pe_int (pa_cons (pe_callB call_len_seq (by rfl) T.len PySem.boot_len (pa_cons (pv 1) pa_nil)) pa_nil))) (pg_name (i := 3) scIsWay.nd rfl (.inl rfl))
        (pss_cons (ps_set (i := 4) scIsWay.nd rfl (.inl rfl) (pe_tup (pa_cons (pe_callB (call_min2 rfl) (by rfl) T.min (by decide +kernel) (pa_cons (pe_ix ix_list (pv 1) (pe_op op_sub (pv 3) pe_int) (fun _ _ => rfl)) (pa_cons (pe_ix ix_list (pv 1) (pv 3) (fun _ _ => rfl)) pa_nil)))
            (pa_cons (pe_callB (call_max2 rfl) (by rfl) T.max (by decide +kernel) (pa_cons (pe_ix ix_list (pv 1) (pe_op op_sub (pv 3) pe_int) (fun _ _ => rfl)) (pa_cons (pe_ix ix_list (pv 1) (pv 3) (fun _ _ => rfl)) pa_nil))) pa_nil))))
        (pss_cons (ps_if (pt_cmpR (op_notInD (hu65 hr)) (pv 4) (pv 2) (by rfl)) (pss_one (ps_ret pe_bl)) pss_nil)
        (pss_one (ps_expr (pe_bm PySem.F.plainAttrs_list PySem.F.slot_list_remove PySem.F.type_list_remove (mt_removeE (hu65 hr)) (pv 2) (pa_cons (pv 4) pa_nil)))))))
      (pss_one (ps_ret (pe_cmpR (op_eqD hr.units) (pv 2) (pe_lst pa_nil) (nomark _))))), ?_⟩
    obtain ⟨zs0, z1, z2, z3⟩ := hp
    refine ⟨_, rfl, p, _, rfl, .inl (SqL.of z1), fun l nl => ?_⟩
    have s1 : Same H (upd H l (.lst (zs0.map fun z => V.ref z.1))) := Same.add _ nl
    have p1 : PL (upd H l (.lst (zs0.map fun z => V.ref z.1))) l ps := ⟨zs0, upd_same, fun z hz => s1 _ _ (z2 z hz), z3⟩
    generalize upd H l (.lst (zs0.map fun z => V.ref z.1)) = H1 at s1 p1 ⊢
    have hkm : (ks.map nv).length = ks.length := List.length_map _
    refine ⟨_, rfl, kp, _, rfl, .inl (s1.seq hk), 1, _, rfl, ⟨by omega, by omega, by omega, by omega⟩, for_range (lo := 1) (n := (((ks.map nv).length : Int) - 1).toNat) (fun i σ H' => ∃ qs y3 y4, σ = [some (.ref p), some (.ref kp), some (.ref l), y3, y4] ∧ Same H H' ∧ PL H' l qs ∧ qs.Nodup ∧ isWay ps ks = isWay qs (ks.drop i))
      ⟨ps, none, none, rfl, s1, p1, nd, rfl⟩ ?_ ?_⟩
    · rintro i σ H' hi ⟨qs, y3, y4, rfl, s2, p2, nd2, hw⟩
      have i1 : i + 1 < ks.length := by omega
      obtain ⟨a, ha⟩ : ∃ a, ks[i]? = some a := ⟨_, List.getElem?_eq_getElem (by omega)⟩
      obtain ⟨b, hb⟩ : ∃ b, ks[i + 1]? = some b := ⟨_, List.getElem?_eq_getElem i1⟩
      have hd : ks.drop i = a :: b :: ks.drop (i + 2) := by
        rw [List.drop_eq_getElem_cons (by omega), List.drop_eq_getElem_cons i1]
        rw [List.getElem?_eq_getElem (by omega)] at ha hb
        rw [Option.some.inj ha, Option.some.inj hb]
      have hd2 : ks.drop (i + 1) = b :: ks.drop (i + 2) := by
        rw [List.drop_eq_getElem_cons i1]
        rw [List.getElem?_eq_getElem i1] at hb
        rw [Option.some.inj hb]
      have A1 : atI (ks.map nv) ((1 + (i : Int)) - 1) = some (nv a) := by
        rw [show ((1 + (i : Int)) - 1) = ((i : Nat) : Int) by omega]
        exact atI_nat (by rw [List.getElem?_map, ha]; rfl)
      have A2 : atI (ks.map nv) (1 + (i : Int)) = some (nv b) := by
        rw [show (1 + (i : Int)) = ((i + 1 : Nat) : Int) by omega]
        exact atI_nat (by rw [List.getElem?_map, hb]; rfl)
      have hk2 := s2.seq hk
      refine ⟨_, rfl, _, rfl, _, _, rfl, rfl, kp, _, _, _, rfl, rfl, hk2, A1, _, rfl, _, rfl, kp, _, _, _, rfl, rfl, hk2, A2, a, b, rfl, ?_⟩
      refine ⟨_, rfl, _, rfl, _, _, rfl, rfl, kp, _, _, _, rfl, rfl, hk2, A1, _, rfl, _, rfl, kp, _, _, _, rfl, rfl, hk2, A2, a, b, rfl, (by show 2 ≤ sizeLine; decide), fun t ht => ?_⟩
      dsimp only
      rw [mk_tup]
      have s3 : Same H' (upd H' t (pairO (mk a b))) := Same.add _ ht
      have e3 : (upd H' t (pairO (mk a b))) t = some (pairO (mk a b)) := upd_same
      generalize upd H' t (pairO (mk a b)) = H3 at s3 e3 ⊢
      refine ⟨_, rfl, _, rfl, _, _, dp_pair e3, dp_PL (p2.same s3), shapedE _, shaped_pairs _, _, rfl, ?_⟩
      rw [any_pairs]
      by_cases m : mk a b ∈ qs
      · rw [decide_eq_true m]
        obtain ⟨zs, x1, x2, x3⟩ := p2.same s3
        obtain ⟨j, hj1, hj2⟩ := List.mem_iff_getElem.mp m
        have hj : qs[j]? = some (mk a b) := by rw [List.getElem?_eq_getElem hj1, hj2]
        refine ⟨_, rfl, .inl ⟨rfl, _, SqL.of x1⟩, _, rfl, l, t, zs, mk a b, j, rfl, rfl, x1, x2, e3, by rw [x3]; exact hj, fun m' hm' z => ?_, ?_⟩
        · rw [x3] at z
          have := nd_ix nd2 z hj
          omega
        · refine ⟨del qs (mk a b), _, _, rfl, (s2.trans s3).put nl, ⟨zs.eraseIdx j, upd_same, fun z hz => ?_, ?_⟩, nd2.filter _, ?_⟩
          · have hz' := List.mem_of_mem_eraseIdx hz
            rw [upd_ne (ne_of (x2 z hz') x1 (fun c => by cases c))]
            exact x2 z hz'
          · rw [← erase_map, x3]
            exact erase_del nd2 hj
          · rw [hw, hd, isWay, if_pos m, hd2]
      · rw [decide_eq_false m]
        have : isWay ps ks = false := by rw [hw, hd, isWay, if_neg m]
        have := q H3 (s2.trans s3)
        rw [show isWay ps ks = false by rw [hw, hd, isWay, if_neg m]] at this
        exact this
    · rintro σ H' ⟨qs, y3, y4, rfl, s2, p2, nd2, hw⟩
      refine ⟨_, rfl, Nat.zero_le _, fun d hd => ?_⟩
      have s3 : Same H' (upd H' d (.lst [])) := Same.add _ hd
      have e3 : (upd H' d (.lst [])) d = some (.lst []) := upd_same
      generalize upd H' d (.lst []) = H3 at s3 e3 ⊢
      refine ⟨_, _, dp_PL (p2.same s3), dp_nil e3, shaped_pairs _, shaped_nil, ?_⟩
      rw [eqv_nil, nil_map]
      have := q H3 (s2.trans s3)
      rw [hw, isWay_end (by rw [List.length_drop]; omega)] at this
      exact this
end
end Nm

namespace Nm
open PySem PySem.Spec PyProof.Rows L2
open Uw24 (some_)
theorem cut_from (xs : List V) (j : Nat) : cutV xs (some (j : Int)) none = xs.drop j := by
  unfold cutV
  rw [show HT.sIx xs.length 0 (some (j : Int)) = min j xs.length from HT.sIx_nat xs.length 0 j, HT.sIx_none]
  by_cases h : j ≤ xs.length
  · rw [Nat.min_eq_left h]
    exact List.take_of_length_le (by rw [List.length_drop]; exact Nat.le_refl _)
  · rw [Nat.min_eq_right (by omega), List.drop_eq_nil_of_le (Nat.le_refl _), List.drop_eq_nil_of_le (by omega)]
    exact List.take_nil
section
variable {P : Program} {w : World} {K : PySem.W.Frag} {mg : Str → Option Value} {base : Heap} {CP CD : Addr}
/-! ### pairs_with -/
def spPairsWith (CP : Addr) : Sp := fun vs H Q _ => ∃ (p c b t : Addr) (n : Uw24.Net) (cut : List Nat), vs = [.ref p, .ref c] ∧ PieceAt CP H p n b t ∧ Ok n ∧ IL H c cut ∧ (∀ x ∈ cut, x < n.bars) ∧ cut.length ≤ 20 ∧ ∀ H' r, Same H H' → PL H' r ((n.torn ++ cut).map n.ends) → Q (.ref r) H'
theorem scPairsWith : FnScope ["piece", "cut", "bar"] ["piece", "cut"] (defScope sPairsWith) := ⟨rfl, rfl, rfl, by decide +kernel, rfl, by decide +kernel, by decide +kernel⟩
theorem all_true {α : Type} (l : List α) : l.filter (fun _ => true) = l := List.filter_eq_self.mpr fun _ _ => rfl
theorem ok_pairsWith {f : Addr} {fd : FuncData} (F : Fun K "pairs_with" "pairs_with" sPairsWith f fd) (T : Tx K mg CP CD) : FnOk P w K mg base CX0 1 f fd ["piece", "cut"] (spPairsWith CP) := by
  refine F.ok scPairsWith (fun vs H Q E h => ?_) (fun cdv A outer s H vs Q E hr h => ?_)
  · obtain ⟨p, c, b, t, n, cut, rfl, _⟩ := h
    rfl
  · obtain ⟨p, c, b, t, n, cut, rfl, hp, o, hc, hcut, hcl, q⟩ := h
    obtain ⟨dx, hi⟩ := hp.ins
    obtain ⟨bz, b1, b2, b3⟩ := hp.bars
    have ht := hp.torn
    have t8 := o.t8
    have big : sizeLine = 16777216 := rfl
    refine ⟨_, pss_one (ps_ret (pe_lc (own := [("bar", 2)]) (g := gName 2) (tt := tYes) (te := tOp (rIxL K) (tFld K (tVar 0) "bars") (tVar 2)) rfl scPairsWith.nd (pi_list (pe_op op_cat (pe_fld (pv 0) rfl) (pv 1))) (blkOk_by (N := ["piece", "cut", "bar"]) (sc := defScope sPairsWith) (by decide +kernel))
        (fun _ _ _ _ _ => pg_name (i := 2) scPairsWith.nd rfl (.inl rfl)) (fun _ _ _ _ _ => pts_nil) (fun _ _ _ _ _ => pe_ix ix_list (pe_fld (pv 0) rfl) (pv 2) (fun _ _ => rfl)))), ?_⟩
    refine ⟨_, rfl, p, CP, dx, _, _, rfl, hi, T.cp, T.pT, pF_torn _ _ _, _, rfl, t, c, _, _, rfl, rfl, ht, hc, by rw [List.length_map, List.length_map]; omega, fun l nl => ?_⟩
    have s1 : Same H (upd H l (.lst (n.torn.map nv ++ cut.map nv))) := Same.add _ nl
    have e1 : (upd H l (.lst (n.torn.map nv ++ cut.map nv))) l = some (.lst ((n.torn ++ cut).map nv)) := by rw [upd_same, List.map_append]
    generalize upd H l (.lst (n.torn.map nv ++ cut.map nv)) = H1 at s1 e1 ⊢
    have lo : ∀ x ∈ n.torn ++ cut, x < n.bars := fun x hx => by
      rcases List.mem_append.mp hx with z | z
      · exact o.lo x z
      · exact hcut x z
    have hbl : bz.length = n.bars := by
      have := congrArg List.length b3
      rw [List.length_map, List.length_map, List.length_range] at this
      exact this
    refine ⟨l, rfl, ⟨_, SqL.of e1⟩, fun D hD => lc_keep (zs := n.torn ++ cut) (val := nv) (fun _ => true) (fun x => V.ref (((bz[x]?).map (·.1)).getD 0)) (SqL.of e1) hD (by rw [List.length_append]; omega) ?_ ?_⟩
    · intro x hx H2 s2 Ty Tn ky kn
      have hb : x < bz.length := by rw [hbl]; exact lo x hx
      refine ⟨rfl, ?_⟩
      refine ⟨_, rfl, p, CP, dx, _, _, rfl, s2 _ _ (s1 _ _ hi), T.cp, T.pB, pF_bars _ _ _, _, rfl, b, _, _, V.ref bz[x].1, rfl, rfl, SqL.of (s2 _ _ (s1 _ _ b1)), atI_nat (by rw [List.getElem?_map, List.getElem?_eq_getElem hb]; rfl), ?_⟩
      have := ky H2 rfl (Same.refl _)
      rw [List.getElem?_eq_getElem hb] at this
      exact this
    · intro H2 s2 e2
      rw [all_true] at e2
      refine q _ _ (s1.trans s2) ⟨(n.torn ++ cut).map fun x => (((bz[x]?).map (·.1)).getD 0, n.ends x), by rw [e2, List.map_map]; rfl, fun z hz => ?_, by rw [List.map_map]; rfl⟩
      obtain ⟨x, hx, rfl⟩ := List.mem_map.mp hz
      have hb : x < bz.length := by rw [hbl]; exact lo x hx
      have e3 : bz[x].2 = n.ends x := by
        have := congrArg (fun l => l[x]?) b3
        simp only [List.getElem?_map, List.getElem?_eq_getElem hb, List.getElem?_range (lo x hx)] at this
        exact Option.some.inj this
      show H2 (((bz[x]?).map (·.1)).getD 0) = some (pairO (n.ends x))
      rw [List.getElem?_eq_getElem hb, ← e3]
      exact s2 _ _ (s1 _ _ (b2 bz[x] (List.getElem_mem hb)))
/-! ### sets_of -/
def spSetsOf (d : Nat) : Sp := fun vs H Q _ => ∃ (p : Addr) (l : List Nat) (m : Nat), vs = [.ref p, nv m] ∧ IL H p l ∧ l.length ≤ 24 ∧ m < d ∧ m ≤ 4 ∧ ∀ H' r, Same H H' → SL H' r (some_ m l) → Q (.ref r) H'
theorem scSetsOf : FnScope ["some", "many", "found", "k", "behind"] ["some", "many"] (defScope sSetsOf) := ⟨rfl, rfl, rfl, by decide +kernel, rfl, by decide +kernel, by decide +kernel⟩
theorem ok_setsOf {f : Addr} {fd : FuncData} {d : Nat} (F : Fun K "sets_of" "sets_of" sSetsOf f fd) (T : Tx K mg CP CD) (c : Cal P w K mg base d "sets_of" (spSetsOf d)) : FnOk P w K mg base CX0 (d + 1) f fd ["some", "many"] (spSetsOf (d + 1)) := by
  refine F.ok scSetsOf (fun vs H Q E h => ?_) (fun cdv A outer s H vs Q E hr h => ?_)
  · obtain ⟨p, l, m, rfl, _⟩ := h
    rfl
  · obtain ⟨p, l, m, rfl, hp, hl, hm, hm4, q⟩ := h
    refine ⟨_, pss_cons (ps_if (pt_cmpR op_eq (pv 1) pe_int (nomark _)) (pss_one (ps_ret (pe_lst (pa_cons (pe_lst pa_nil) pa_nil)))) pss_nil)
      (pss_cons (ps_set (i := 2) scSetsOf.nd rfl (.inl rfl) (pe_lst pa_nil))
      (pss_cons (ps_for PassesOwn.never rfl (pi_range1 (by rfl) T.range (pa_cons (pe_callB call_len_seq (by rfl) T.len PySem.boot_len (pa_cons (pv 0) pa_nil)) pa_nil)) (pg_name (i := 3) scSetsOf.nd rfl (.inr rfl))
        (pss_one (ps_expr (pe_bm PySem.F.plainAttrs_list PySem.F.slot_list_extend PySem.F.type_list_extend mt_extend (pv 2) (pa_cons
          (pe_lc (own := [("behind", 4)]) (g := gName 4) (tt := tYes) rfl scSetsOf.nd (pi_list (pe_cal c hr (Nat.le_refl _) (by rfl) (pa_cons (pe_slice sl_list (pv 0) (po_some (pe_op op_add (pv 3) pe_int)) po_none) (pa_cons (pe_op op_sub (pv 1) pe_int) pa_nil)))) (blkOk_by (N := ["some", "many", "found", "k", "behind"]) (sc := defScope sSetsOf) (by decide +kernel))
            (fun _ _ _ _ _ => pg_name (i := 4) scSetsOf.nd rfl (.inl rfl)) (fun _ _ _ _ _ => pts_nil)
            (fun _ _ _ _ _ => pe_op op_cat (pe_lst (pa_cons (pe_ix (r := rIxL K) ix_list (pv 0) (pv 3) (fun _ _ => rfl)) pa_nil)) (pv 4))) pa_nil)))))
      (pss_one (ps_ret (pv 2))))), ?_⟩
    have big : sizeLine = 16777216 := rfl
    refine ⟨_, rfl, rfl, _, rfl, ite2 (fun cm => ?_) fun cm => ?_⟩
    · have m0 : m = 0 := nv_inj.mp (of_decide_eq_true cm)
      subst m0
      refine ⟨Nat.zero_le _, fun a na => ?_⟩
      have s1 : Same H (upd H a (.lst [])) := Same.add _ na
      have e1 : (upd H a (.lst [])) a = some (setO []) := upd_same
      generalize upd H a (.lst []) = H1 at s1 e1 ⊢
      refine ⟨(by show 1 ≤ sizeLine; decide), fun r nr => q _ r (s1.trans (Same.add _ nr)) ⟨[(a, [])], upd_same, fun z hz => ?_, (some_zero l).symm⟩⟩
      rw [List.mem_singleton] at hz
      subst hz
      rw [upd_ne (ne_of_none e1 nr)]
      exact e1
    · obtain ⟨m', rfl⟩ : ∃ m', m = m' + 1 := by
        cases m with
        | zero => exact absurd (decide_eq_true rfl) cm
        | succ m' => exact ⟨m', rfl⟩
      refine ⟨Nat.zero_le _, fun r nr => ?_⟩
      have s1 : Same H (upd H r (.lst [])) := Same.add _ nr
      have e1 : LX setO (upd H r (.lst [])) r [] := .nil upd_same
      generalize upd H r (.lst []) = H1 at s1 e1 ⊢
      have hlm : (l.map nv).length = l.length := List.length_map _
      refine ⟨_, rfl, p, _, rfl, .inl (SqL.of (s1 _ _ hp)), _, rfl, by omega, by omega, for_range (lo := 0) (n := (l.map nv).length) (fun i σ H' => ∃ y3 X, σ = [some (.ref p), some (nv (m' + 1)), some (.ref r), y3, none] ∧ Same H H' ∧ LX setO H' r X ∧ X ++ some_ (m' + 1) (l.drop i) = some_ (m' + 1) l)
        ⟨none, [], rfl, s1, e1, rfl⟩ ?_ ?_⟩
      · rintro i σ H' hi ⟨y3, X, rfl, s2, e2, ex⟩
        have il : i < l.length := by omega
        obtain ⟨zs2, z1, z2, z3⟩ := id e2
        have hdr : l.drop i = l[i] :: l.drop (i + 1) := List.drop_eq_getElem_cons il
        refine ⟨_, rfl, .inl ⟨rfl, _, SqL.of z1⟩, ?_⟩
        refine ⟨_, rfl, _, rfl, _, _, rfl, rfl, _, rfl, p, _, rfl, SqL.of (s2 _ _ hp), fun a na => ?_⟩
        have ec : cutV (l.map nv) (some (0 + (i : Int) + 1)) none = (l.drop (i + 1)).map nv := by
          rw [show (0 + (i : Int) + 1) = ((i + 1 : Nat) : Int) by omega, cut_from, List.map_drop]
        dsimp only
        rw [ec]
        have s3 : Same H' (upd H' a (.lst ((l.drop (i + 1)).map nv))) := Same.add _ na
        have e3 : IL (upd H' a (.lst ((l.drop (i + 1)).map nv))) a (l.drop (i + 1)) := upd_same
        generalize upd H' a (.lst ((l.drop (i + 1)).map nv)) = H3 at s3 e3 ⊢
        refine ⟨_, rfl, _, _, rfl, rfl, a, l.drop (i + 1), m', ?_, e3, by rw [List.length_drop]; omega, by omega, by omega, fun H4 b s4 hb => ?_⟩
        · show [V.ref a, V.int (((m' + 1 : Nat) : Int) - 1)] = [V.ref a, nv m']
          rw [show (((m' + 1 : Nat) : Int) - 1) = (m' : Int) by omega]
        obtain ⟨ws, w1, w2, w3⟩ := hb
        have wl : ws.length = (some_ m' (l.drop (i + 1))).length := by rw [← w3, List.length_map]
        have sm : (some_ m' (l.drop (i + 1))).length ≤ 390625 := some_small (by omega) (by rw [List.length_drop]; omega)
        have s5 := s2.trans (s3.trans s4)
        refine ⟨b, rfl, ⟨_, SqL.of w1⟩, fun D hD => lc_make (f := setO) (zs := ws) (val := fun z => V.ref z.1) (fun _ => true) (fun z => l[i] :: z.2) (SqL.of w1) hD (by omega) ?_ ?_⟩
        · intro z hz H5 s6 Ty Tn ky kn
          refine ⟨rfl, ?_⟩
          refine ⟨_, rfl, _, rfl, p, _, _, V.int (l[i] : Nat), rfl, rfl, SqL.of (s6 _ _ (s5 _ _ hp)), ?_, (by show 1 ≤ sizeLine; decide), fun e ne => ?_⟩
          · rw [Int.zero_add]
            exact atI_nat (by rw [List.getElem?_map, List.getElem?_eq_getElem il]; rfl)
          · have s7 : Same H5 (upd H5 e (.lst [V.int (l[i] : Nat)])) := Same.add _ ne
            have e7 : (upd H5 e (.lst [V.int (l[i] : Nat)])) e = some (.lst [V.int (l[i] : Nat)]) := upd_same
            generalize upd H5 e (.lst [V.int (l[i] : Nat)]) = H7 at s7 e7 ⊢
            have hz2 := w2 z hz
            have zl : z.2.length ≤ 4 := by
              have : z.2 ∈ some_ m' (l.drop (i + 1)) := by rw [← w3]; exact List.mem_map.mpr ⟨z, hz, rfl⟩
              have := (some_sub this).2
              omega
            refine ⟨_, rfl, e, z.1, _, _, rfl, rfl, e7, s7 _ _ (s6 _ _ hz2), ?_, fun u nu => ?_⟩
            · show 1 + (z.2.map nv).length ≤ sizeLine
              rw [List.length_map]
              omega
            · exact ky _ u rfl (s7.trans (Same.add _ nu)) (s7.free nu) upd_same
        · intro H5 s6 e6
          rw [all_true, show (ws.map fun z => l[i] :: z.2) = (ws.map (·.2)).map fun x => l[i] :: x by rw [List.map_map]; rfl, w3] at e6
          obtain ⟨us, vs2, h1, h2, l1, l2, e8⟩ := (e2.same ((s3.trans s4).trans s6)).ext e6 ((s3.trans s4) _ _ z1)
          have tot : (X ++ some_ (m' + 1) (l.drop i)).length ≤ 390625 := by rw [ex]; exact some_small hm4 hl
          rw [hdr, some_cons, List.length_append, List.length_append] at tot
          refine ⟨r, D, us, vs2, rfl, rfl, h1, h2, by omega, some (.int (0 + (i : Int))), _, rfl, (s5.trans s6).put nr, e8, ?_⟩
          rw [List.append_assoc, ← some_cons, ← hdr]
          exact ex
      · rintro σ H' ⟨y3, X, rfl, s2, e2, ex⟩
        rw [List.drop_eq_nil_of_le (by omega), some_nil, List.append_nil] at ex
        subst ex
        exact ⟨_, rfl, q _ r s2 e2.ll⟩
end
end Nm

namespace Nm
open PySem PySem.Spec PyProof.Rows L2
open Uw24 (some_)
theorem dec_contains (b : Nat) (l : List Nat) : decide (b ∈ l) = l.contains b := by
  rw [Bool.eq_iff_iff, decide_eq_true_iff, List.contains_iff_mem]
section
variable {P : Program} {w : World} {K : PySem.W.Frag} {mg : Str → Option Value} {base : Heap} {CP CD : Addr}
/-! ### sets_that_do -/
def spSetsDo (CP : Addr) : Sp := fun vs H Q _ => ∃ (p b t : Addr) (n : Uw24.Net) (m : Nat), vs = [.ref p, nv m] ∧ PieceAt CP H p n b t ∧ Ok n ∧ m ≤ 4 ∧ ∀ H' r, Same H H' → SL H' r (n.by_ m) → Q (.ref r) H'
theorem scSetsDo : FnScope ["piece", "many", "sound", "bar", "cut"] ["piece", "many"] (defScope sSetsDo) := ⟨rfl, rfl, rfl, by decide +kernel, rfl, by decide +kernel, by decide +kernel⟩
theorem ok_setsDo {f : Addr} {fd : FuncData} (F : Fun K "sets_that_do" "sets_that_do" sSetsDo f fd) (T : Tx K mg CP CD) (cS : Cal P w K mg base 5 "sets_of" (spSetsOf 5)) (cH : Cal P w K mg base 3 "has_way" spHasWay) (cW : Cal P w K mg base 1 "pairs_with" (spPairsWith CP)) (cK : Cal P w K mg base 1 "how_many_knots" (spKnots CP)) : FnOk P w K mg base CX0 6 f fd ["piece", "many"] (spSetsDo CP) := by
  refine F.ok scSetsDo (fun vs H Q E h => ?_) (fun cdv A outer s H vs Q E hr h => ?_)
  · obtain ⟨p, b, t, n, m, rfl, _⟩ := h
    rfl
  · obtain ⟨p, b, t, n, m, rfl, hp, o, hm, q⟩ := h
    obtain ⟨dx, hi⟩ := hp.ins
    refine ⟨_, pss_cons (ps_setLc (i := 2) (own := [("bar", 3)]) (g := gName 3) (tt := tTest (tOp (rIn K true) (tVar 3) (tFld K (tVar 0) "torn"))) rfl scSetsDo.nd rfl rfl (sw_true rfl rfl rfl (by decide +kernel)) (pi_range1 (by rfl) T.range (pa_cons (pe_callB call_len_seq (by rfl) T.len PySem.boot_len (pa_cons (pe_fld (pv 0) rfl) pa_nil)) pa_nil)) (blkOk_by (N := ["piece", "many", "sound", "bar", "cut"]) (sc := defScope sSetsDo) (by decide +kernel))
          (fun _ _ _ _ _ => pg_name (i := 3) scSetsDo.nd rfl (.inl rfl))
          (fun _ _ _ _ _ => pts_one (pt_cmpR op_notIn_seq (pv 3) (pe_fld (pv 0) rfl) (by rfl)))
          (fun _ _ _ _ _ => pv 3))
      (pss_one (ps_ret (pe_lc (own := [("cut", 4)]) (g := gName 4) rfl scSetsDo.nd (pi_list (pe_cal cS hr (by decide) (by rfl) (pa_cons (pv 2) (pa_cons (pv 1) pa_nil)))) (blkOk_by (N := ["piece", "many", "sound", "bar", "cut"]) (sc := defScope sSetsDo) (by decide +kernel))
          (fun _ _ _ _ _ => pg_name (i := 4) scSetsDo.nd rfl (.inl rfl))
          (fun _ _ _ _ _ => pts_one (pt_val (pe_cal cH hr (by decide) (by rfl) (pa_cons (pe_cal cW hr (by decide) (by rfl) (pa_cons (pv 0) (pa_cons (pv 4) pa_nil))) (pa_cons (pe_cal cK hr (by decide) (by rfl) (pa_cons (pv 0) pa_nil)) pa_nil)))))
          (fun _ _ _ _ _ => pv 4)))), ?_⟩
    have big : sizeLine = 16777216 := rfl
    obtain ⟨bz, b1, b2, b3⟩ := hp.bars
    have hbl : (bz.map fun z => V.ref z.1).length = n.bars := by
      have := congrArg List.length b3
      rw [List.length_map, List.length_map, List.length_range] at this
      rw [List.length_map, this]
    have b24 := o.bars_le
    refine ⟨_, rfl, p, CP, dx, _, _, rfl, hi, T.cp, T.pB, pF_bars _ _ _, b, _, rfl, .inl (SqL.of b1), _, rfl, by omega, by omega, ?_⟩
    rw [show (((bz.map fun z => V.ref z.1).length : Int)).toNat = n.bars by rw [hbl]; rfl]
    refine fun D hD => lr_keep (n := n.bars) (fun x => !n.torn.contains x) nv hD (by omega) ?_ ?_
    · intro i hi2 H2 s2 Ty Tn ky kn
      refine ⟨rfl, ?_⟩
      refine ⟨_, rfl, _, rfl, p, CP, dx, _, _, rfl, s2 _ _ hi, T.cp, T.pT, pF_torn _ _ _, t, _, rfl, .inl (SqL.of (s2 _ _ hp.torn)), rfl, flat_nv _, _, notIn_nv _ _, ?_⟩
      rw [dec_contains]
      exact ite2 (fun y => ⟨_, rfl, ky _ y (Same.refl _)⟩) fun y => kn _ (Bool.eq_false_iff.mpr y) (Same.refl _)
    · intro H2 s2 e2
      have e2 : IL H2 D n.sound := e2
      refine ⟨_, rfl, _, rfl, D, n.sound, m, rfl, e2, sound_len o, by omega, hm, fun H3 r s3 hs => ?_⟩
      obtain ⟨ws, w1, w2, w3⟩ := hs
      have wl : ws.length = (some_ m n.sound).length := by rw [← w3, List.length_map]
      have sm := some_small hm (sound_len o)
      have s4 := s2.trans s3
      refine ⟨r, rfl, ⟨_, SqL.of w1⟩, fun D2 hD2 => lc_keep (zs := ws) (val := fun z => V.ref z.1) (fun z => n.goes (n.torn ++ z.2)) (fun z => V.ref z.1) (SqL.of w1) hD2 (by omega) ?_ ?_⟩
      · intro z hz H5 s5 Ty Tn ky kn
        have zm : z.2 ∈ some_ m n.sound := by rw [← w3]; exact List.mem_map.mpr ⟨z, hz, rfl⟩
        have sw := some_with o zm
        have zl := (some_sub zm).2
        have t8 := o.t8
        refine ⟨rfl, ?_⟩
        refine ⟨_, rfl, _, rfl, p, z.1, b, t, n, z.2, rfl, hp.same (s4.trans s5), o, s5 _ _ (w2 z hz), fun x hx => sw.lo x (List.mem_append_right _ hx), by omega, fun H6 r2 s6 p6 => ?_⟩
        refine ⟨_, rfl, p, b, t, n, rfl, hp.same (s4.trans (s5.trans s6)), o, r2, _, n.knots, rfl, p6, sw.good o, o.knots_le, by rw [List.length_map, List.length_append]; omega, fun H7 c s7 hc => ?_⟩
        have e : n.goes (n.torn ++ z.2) = c := by
          rw [Bool.eq_iff_iff, goes_iff o sw, hc]
        refine ⟨c, rfl, ite2 (fun y => ⟨_, rfl, ky _ (e.trans y) (s6.trans s7)⟩) fun y => kn _ (e.trans (Bool.eq_false_iff.mpr y)) (s6.trans s7)⟩
      · intro H5 s5 e5
        refine q _ _ (s4.trans s5) ⟨_, e5, fun z hz => s5 _ _ (w2 z (List.mem_filter.mp hz).1), ?_⟩
        unfold Uw24.Net.by_
        rw [← w3, List.filter_map]
        rfl
/-! ### fewest_cuts -/
def spFewest (CP : Addr) : Sp := fun vs H Q _ => ∃ (p b t : Addr) (n : Uw24.Net), vs = [.ref p] ∧ PieceAt CP H p n b t ∧ Ok n ∧ ∀ H' r ss, Same H H' → SL H' r ss → Few n ss → Q (.ref r) H'
theorem scFewest : FnScope ["piece", "many", "found"] ["piece"] (defScope sFewest) := ⟨rfl, rfl, rfl, by decide +kernel, rfl, by decide +kernel, by decide +kernel⟩
theorem ok_fewest {f : Addr} {fd : FuncData} (F : Fun K "fewest_cuts" "fewest_cuts" sFewest f fd) (T : Tx K mg CP CD) (cD : Cal P w K mg base 6 "sets_that_do" (spSetsDo CP)) : FnOk P w K mg base CX0 7 f fd ["piece"] (spFewest CP) := by
  refine F.ok scFewest (fun vs H Q E h => ?_) (fun cdv A outer s H vs Q E hr h => ?_)
  · obtain ⟨p, b, t, n, rfl, _⟩ := h
    rfl
  · obtain ⟨p, b, t, n, rfl, hp, o, q⟩ := h
    refine ⟨_, pss_cons (ps_for PassesOwn.never rfl (pi_range1 (by rfl) T.range (pa_cons (pe_op op_add (pe_gl (by rfl) T.mostCut) pe_int) pa_nil)) (pg_name (i := 1) scFewest.nd rfl (.inl rfl))
        (pss_cons (ps_set (i := 2) scFewest.nd rfl (.inl rfl) (pe_cal cD hr (by decide) (by rfl) (pa_cons (pv 0) (pa_cons (pv 1) pa_nil))))
        (pss_one (ps_if (pt_cmpR (op_neD hr.units) (pv 2) (pe_lst pa_nil) (nomark _)) (pss_one (ps_ret (pv 2))) pss_nil))))
      (pss_one (ps_ret (pe_lst pa_nil))), ?_⟩
    refine ⟨4, 1, rfl, rfl, _, rfl, by decide, by decide, for_range (lo := 0) (n := 5) (fun i σ H' => ∃ y1 y2, σ = [some (.ref p), y1, y2] ∧ Same H H' ∧ ∀ k, k < i → n.by_ k = [])
      ⟨none, none, rfl, Same.refl _, fun k hk => absurd hk (Nat.not_lt_zero k)⟩ ?_ ?_⟩
    · rintro i σ H' hi ⟨y1, y2, rfl, s2, no⟩
      refine ⟨_, rfl, _, rfl, p, b, t, n, i, ?_, hp.same s2, o, by omega, fun H3 r s3 hs => ?_⟩
      · show [V.ref p, V.int (0 + (i : Int))] = [V.ref p, nv i]
        rw [Int.zero_add]
      refine ⟨_, rfl, Nat.zero_le _, fun d hd => ?_⟩
      have s4 : Same H3 (upd H3 d (.lst [])) := Same.add _ hd
      have e4 : (upd H3 d (.lst [])) d = some (.lst []) := upd_same
      generalize upd H3 d (.lst []) = H4 at s4 e4 ⊢
      have hs4 := hs.same s4
      refine ⟨_, _, dp_SL hs4, dp_nil e4, shaped_sets _, shaped_nil, _, rfl, ?_⟩
      rw [eqv_nil, nil_map]
      refine ite2 (fun c => ?_) fun c => ?_
      · have c1 : n.by_ i ≠ [] := fun z => by
          rw [z] at c
          cases c
        exact ⟨_, rfl, q _ r _ (s2.trans (s3.trans s4)) hs4 (.inr ⟨c1, i, by omega, rfl, no⟩)⟩
      · have c1 : n.by_ i = [] := by
          rw [Bool.not_eq_true', Bool.not_eq_false] at c
          exact List.isEmpty_iff.mp c
        refine ⟨_, _, rfl, s2.trans (s3.trans s4), fun k hk => ?_⟩
        by_cases e : k = i
        · rw [e]
          exact c1
        · exact no k (by omega)
    · rintro σ H' ⟨y1, y2, rfl, s2, no⟩
      refine ⟨Nat.zero_le _, fun r nr => ?_⟩
      exact q _ r [] (s2.trans (Same.add _ nr)) ⟨[], upd_same, fun _ h => absurd h (by simp), rfl⟩ (.inl ⟨rfl, fun k hk => no k (by omega)⟩)
end
end Nm

namespace Nm
open PySem PySem.Spec PyProof.Rows L2
open Uw24 (Net Call step)
/-! ### a class that may be made -/
structure Mak (P : Program) (w : World) (K : PySem.W.Frag) (mg : Str → Option Value) (base : Heap) (k : Nat) (x : Str) (C : Addr) (sp : Sp) : Prop where
  ex : ∃ (f : Addr) (fd : FuncData) (ps : List Str), Mk K C f ∧ FnOk P w K mg base CX0 k f fd ps sp ∧ mg x = some (.ref C) ∧ Binds K fd ps []
section
variable {X : Cx}
theorem pe_mak {k j : Nat} {x : Str} {C : Addr} {sp : Sp} {p pos : Pos} {e : Expr} {es : List Expr} {t : TA} (c : Mak X.prog X.w X.K X.mg X.base k x C sp) (hr : Room j X.A) (hk : k + 1 ≤ j) (hg : Gl X x) (ha : PA X (e :: es) t)
    (h1 : (x == ("__debug__" : Str)) = false := by decide) (h2 : starEach (e :: es) X.env = (false, eval e X.env) :: starEach es X.env := by rfl) (h3 : (backTo pos (starEach es X.env)).any (·.1) = false := by rfl) :
    PE X (.Call (.Name x p) (e :: es) [] pos) (tMake C sp [] E0 t) := by
  obtain ⟨f, fd, ps, M, F, hm, b⟩ := c.ex
  exact pe_make M F (hr.mono hk) hg hm b .nil pass0 ha h1 h2 h3
end
/-! ### the desk in the heap -/
def dF (p : Addr) : List (Str × V) := [("piece", .ref p)]
structure DeskAt (CP CD : Addr) (H : Hp) (d : Addr) (n : Net) (p b t : Addr) : Prop where
  ins : ∃ dx, H d = some (.ins CD dx (dF p))
  ne : p ≠ d
  pc : PieceAt CP H p n b t
theorem DeskAt.same {CP CD : Addr} {H H' : Hp} {d : Addr} {n : Net} {p b t : Addr} (s : Same H H') (h : DeskAt CP CD H d n p b t) : DeskAt CP CD H' d n p b t := by
  obtain ⟨dx, hi⟩ := h.ins
  exact ⟨⟨dx, s _ _ hi⟩, h.ne, h.pc.same s⟩
theorem dF_piece (p : Addr) : (dF p).lookup ("piece" : Str) = some (.ref p) := lk_here
theorem dF_put (p q : Addr) : putF "piece" (.ref q) (dF p) = dF q := put_here
theorem PieceAt.other {CP : Addr} {H : Hp} {p q : Addr} {n : Net} {b t : Addr} {C dx : Addr} {fs : List (Str × V)} {o : HO} (h : PieceAt CP H p n b t) (hq : H q = some (.ins C dx fs)) (ne : p ≠ q) : PieceAt CP (upd H q o) p n b t := by
  obtain ⟨px, hi⟩ := h.ins
  refine ⟨⟨px, by rw [upd_ne ne]; exact hi⟩, h.bars.other hq (fun b z => by cases z) (fun vs z => by cases z), ?_⟩
  show upd H q o t = _
  rw [upd_ne (ne_of h.torn hq (fun z => by cases z))]
  exact h.torn
theorem free_of {H H' : Hp} {d r : Addr} {o : HO} (fr : ∀ c u, H c = some u → c ≠ d → H' c = some u) (hd : H' d = some o) (h : H' r = none) : H r = none := by
  cases z : H r with
  | none => rfl
  | some u =>
    by_cases y : r = d
    · rw [y, hd] at h
      cases h
    · rw [fr _ _ z y] at h
      cases h
/-- a list of whole numbers -/
abbrev IntL (H : Hp) (r : Addr) (l : List Int) : Prop := H r = some (.lst (l.map V.int))
section
variable {P : Program} {w : World} {K : PySem.W.Frag} {mg : Str → Option Value} {base : Heap} {CP CD : Addr}
/-! ### Desk.__init__ -/
def spDInit (CP CD : Addr) : Sp := fun vs H Q _ => ∃ (d dx : Addr), vs = [.ref d] ∧ H d = some (.ins CD dx []) ∧ ∀ H' p b t, DeskAt CP CD H' d Uw24.init p b t → (∀ c o, H c = some o → c ≠ d → H' c = some o) → Q .non H'
theorem scDInit : FnScope ["self"] ["self"] (defScope sDInit) := ⟨rfl, rfl, rfl, by decide +kernel, rfl, by decide +kernel, by decide +kernel⟩
theorem ok_dInit {f : Addr} {fd : FuncData} (F : Fun K "__init__" "Desk.__init__" sDInit f fd) (T : Tx K mg CP CD) (mP : Mak P w K mg base 2 "Piece" CP (spPInit CP)) : FnOk P w K mg base CX0 4 f fd ["self"] (spDInit CP CD) := by
  refine F.ok scDInit (fun vs H Q E h => ?_) (fun cdv A outer s H vs Q E hr h => ?_)
  · obtain ⟨d, dx, rfl, _⟩ := h
    rfl
  · obtain ⟨d, dx, rfl, hd, q⟩ := h
    refine ⟨_, pss_one (ps_fld (pv 0) (pe_mak mP hr (by decide) (by rfl) (pa_cons (pe_gl (by rfl) T.least) (pa_cons (pe_gl (by rfl) T.least) pa_nil))) rfl), ?_⟩
    intro x px nx nd ne
    refine ⟨x, px, 2, 2, rfl, upd_same, by omega, by omega, by omega, by omega, fun H1 b t _ _ hp kp => ⟨rfl, ?_⟩⟩
    have s1 : Same H H1 := Same.made nx nd kp
    have hd1 := s1 _ _ hd
    have nxd : x ≠ d := (ne_of_none hd nx).symm
    refine ⟨_, rfl, d, CD, dx, _, rfl, hd1, T.cd, T.dP, (by show 0 < 1000; decide), ?_⟩
    refine q _ x b t ⟨⟨dx, upd_same⟩, nxd, hp.other hd1 nxd⟩ fun c o hc n => ?_
    rw [upd_ne n]
    exact s1 _ _ hc
/-! ### begins -/
def spBegins (CP CD : Addr) : Sp := fun vs H Q _ => ∃ (d p b t : Addr) (n : Net) (x y : Nat), vs = [.ref d, nv x, nv y] ∧ DeskAt CP CD H d n p b t ∧
  ∀ H' r p' b' t', H r = none → (b' = b ∨ H b' = none) → (t' = t ∨ H t' = none) → DeskAt CP CD H' d (step n (.begins x y)).1 p' b' t' → IntL H' r (Uw24Neutral.out (step n (.begins x y)).2) → (∀ c o, H c = some o → c ≠ d → H' c = some o) → Q (.ref r) H'
theorem scBegins : FnScope ["desk", "wide", "high"] ["desk", "wide", "high"] (defScope sBegins) := ⟨rfl, rfl, rfl, by decide +kernel, rfl, by decide +kernel, by decide +kernel⟩
theorem ok_begins {f : Addr} {fd : FuncData} (F : Fun K "begins" "begins" sBegins f fd) (T : Tx K mg CP CD) (cI : Cal P w K mg base 1 "is_piece" spIsPiece) (mP : Mak P w K mg base 2 "Piece" CP (spPInit CP)) : FnOk P w K mg base CX0 4 f fd ["desk", "wide", "high"] (spBegins CP CD) := by
  refine F.ok scBegins (fun vs H Q E h => ?_) (fun cdv A outer s H vs Q E hr h => ?_)
  · obtain ⟨d, p, b, t, n, x, y, rfl, _⟩ := h
    rfl
  · obtain ⟨d, p, b, t, n, x, y, rfl, hd, q⟩ := h
    refine ⟨_, pss_cons (ps_if (pt_not (pt_val (pe_cal cI hr (by decide) (by rfl) (pa_cons (pv 1) (pa_cons (pv 2) pa_nil))))) (pss_one (ps_ret (pe_lst (pa_cons (pe_gl (by rfl) T.notRight) pa_nil)))) pss_nil)
      (pss_cons (ps_fld (pv 0) (pe_mak mP hr (by decide) (by rfl) (pa_cons (pv 1) (pa_cons (pv 2) pa_nil))) rfl)
      (pss_one (ps_ret (pe_lst (pa_cons (pe_callB call_len_seq (by rfl) T.len PySem.boot_len (pa_cons (pe_fld (pe_fld (pv 0) rfl) rfl) pa_nil)) pa_nil))))), ?_⟩
    obtain ⟨dx, hi⟩ := hd.ins
    rcases step_begins (n := n) (w := x) (h := y) with ⟨c, e⟩ | ⟨c, e⟩
    · rw [e] at q
      refine ⟨_, rfl, _, rfl, x, y, rfl, _, rfl, ?_⟩
      rw [decide_eq_false c]
      refine ⟨(by show 1 ≤ sizeLine; decide), fun r nr => ?_⟩
      exact q _ r p b t nr (.inl rfl) (.inl rfl) (hd.same (Same.add _ nr)) upd_same fun c o hc _ => Same.add _ nr _ _ hc
    · rw [e] at q
      refine ⟨_, rfl, _, rfl, x, y, rfl, _, rfl, ?_⟩
      rw [decide_eq_true c]
      obtain ⟨x2, x4, y2, y4⟩ := c
      refine ⟨_, rfl, _, rfl, ?_⟩
      intro z zx nz nzx ne
      refine ⟨z, zx, x, y, rfl, upd_same, x2, x4, y2, y4, fun H1 b1 t1 nb1 nt1 hp kp => ⟨rfl, ?_⟩⟩
      have s0 : Same H (upd (upd H zx (.own z)) z (.ins CP zx [])) := fun c o hc => by
        rw [upd_ne (ne_of_none hc nz), upd_ne (ne_of_none hc nzx)]
        exact hc
      have s1 : Same H H1 := Same.made nz nzx kp
      have hd1 := s1 _ _ hi
      have nzd : z ≠ d := (ne_of_none hi nz).symm
      refine ⟨_, rfl, d, CD, dx, _, rfl, hd1, T.cd, T.dP, (by show 1 < 1000; decide), ?_⟩
      have e2 : (upd H1 d (.ins CD dx (putF "piece" (.ref z) (dF p)))) d = some (.ins CD dx (dF z)) := by rw [upd_same, dF_put]
      have p2 : PieceAt CP (upd H1 d (.ins CD dx (putF "piece" (.ref z) (dF p)))) z (net x y) b1 t1 := hp.other hd1 nzd
      have s2 : ∀ c o, H c = some o → c ≠ d → (upd H1 d (.ins CD dx (putF "piece" (.ref z) (dF p)))) c = some o := fun c o hc n => by
        rw [upd_ne n]
        exact s1 _ _ hc
      generalize upd H1 d (.ins CD dx (putF "piece" (.ref z) (dF p))) = H2 at e2 p2 s2 ⊢
      obtain ⟨zx2, hz⟩ := p2.ins
      obtain ⟨bz, b2, b3, b4⟩ := p2.bars
      have hbl : (bz.map fun z => V.ref z.1).length = (net x y).bars := by
        have := congrArg List.length b4
        rw [List.length_map, List.length_map, List.length_range] at this
        rw [List.length_map, this]
      refine ⟨_, rfl, d, CD, dx, _, _, rfl, e2, T.cd, T.dP, dF_piece _, z, CP, zx2, _, _, rfl, hz, T.cp, T.pB, pF_bars _ _ _, b1, _, rfl, .inl (SqL.of b2), (by show 1 ≤ sizeLine; decide), fun r nr => ?_⟩
      refine q _ r z b1 t1 (free_of s2 e2 nr) (.inr (s0.free nb1)) (.inr (s0.free nt1)) ⟨⟨dx, Same.add _ nr _ _ e2⟩, nzd, p2.same (Same.add _ nr)⟩ ?_ fun c o hc n => Same.add _ nr _ _ (s2 c o hc n)
      show upd H2 r _ r = _
      rw [upd_same, hbl]
      rfl
/-! ### tear -/
def spTear (CP : Addr) : Sp := fun vs H Q _ => ∃ (p b t : Addr) (n : Net) (x : Nat), vs = [.ref p, nv x] ∧ PieceAt CP H p n b t ∧ Ok n ∧
  ∀ H' r t', H r = none → (t' = t ∨ H t' = none) → PieceAt CP H' p (step n (.tear x)).1 b t' → IntL H' r (Uw24Neutral.out (step n (.tear x)).2) → (∀ c o, H c = some o → c ≠ p → H' c = some o) → Q (.ref r) H'
theorem scTear : FnScope ["piece", "bar"] ["piece", "bar"] (defScope sTear) := ⟨rfl, rfl, rfl, by decide +kernel, rfl, by decide +kernel, by decide +kernel⟩
theorem bars_len {H : Hp} {b : Addr} {n : Net} (h : PL H b ((List.range n.bars).map n.ends)) : ∃ bz : List V, H b = some (.lst bz) ∧ bz.length = n.bars := by
  obtain ⟨zs, h1, h2, h3⟩ := h
  refine ⟨_, h1, ?_⟩
  have := congrArg List.length h3
  rw [List.length_map, List.length_map, List.length_range] at this
  rw [List.length_map, this]
theorem ok_tear {f : Addr} {fd : FuncData} (F : Fun K "tear" "tear" sTear f fd) (T : Tx K mg CP CD) : FnOk P w K mg base CX0 1 f fd ["piece", "bar"] (spTear CP) := by
  refine F.ok scTear (fun vs H Q E h => ?_) (fun cdv A outer s H vs Q E hr h => ?_)
  · obtain ⟨p, b, t, n, x, rfl, _⟩ := h
    rfl
  · obtain ⟨p, b, t, n, x, rfl, hp, o, q⟩ := h
    refine ⟨_, pss_cons (ps_if (pt_cmpR op_ge (pv 1) (pe_callB call_len_seq (by rfl) T.len PySem.boot_len (pa_cons (pe_fld (pv 0) rfl) pa_nil)) (nomark _)) (pss_one (ps_ret (pe_lst (pa_cons (pe_gl (by rfl) T.noBar) pa_nil)))) pss_nil)
      (pss_cons (ps_if (pt_cmpR op_in_seq (pv 1) (pe_fld (pv 0) rfl) (by rfl)) (pss_one (ps_ret (pe_lst (pa_cons (pe_gl (by rfl) T.soAlready) pa_nil)))) pss_nil)
      (pss_cons (ps_if (pt_cmpR op_eq (pe_callB call_len_seq (by rfl) T.len PySem.boot_len (pa_cons (pe_fld (pv 0) rfl) pa_nil)) (pe_gl (by rfl) T.mostTorn) (nomark _)) (pss_one (ps_ret (pe_lst (pa_cons (pe_gl (by rfl) T.full) pa_nil)))) pss_nil)
      (pss_cons (ps_fld (pv 0) (pe_callB cr_sortedI (by rfl) T.sorted (by decide +kernel) (pa_cons (pe_op op_cat (pe_fld (pv 0) rfl) (pe_lst (pa_cons (pv 1) pa_nil))) pa_nil)) rfl)
      (pss_one (ps_ret (pe_lst (pa_cons (pe_callB call_len_seq (by rfl) T.len PySem.boot_len (pa_cons (pe_fld (pv 0) rfl) pa_nil)) pa_nil))))))), ?_⟩
    obtain ⟨dx, hi⟩ := hp.ins
    obtain ⟨bz, b1, b2⟩ := bars_len hp.bars
    have ht := hp.torn
    have t8 := o.t8
    have big : sizeLine = 16777216 := rfl
    have stay : ∀ v : Int, step n (.tear x) = (n, Uw24.ok v) → ∀ r, H r = none → Q (.ref r) (upd H r (.lst [.int v])) := fun v e r nr => by
      rw [e] at q
      exact q _ r t nr (.inl rfl) (hp.same (Same.add _ nr)) upd_same fun c o hc _ => Same.add _ nr _ _ hc
    refine ⟨_, rfl, _, rfl, p, CP, dx, _, _, rfl, hi, T.cp, T.pB, pF_bars _ _ _, b, _, rfl, .inl (SqL.of b1), _, _, rfl, rfl, _, rfl, ite2 (fun c => ?_) fun c => ?_⟩
    · have c1 : n.bars ≤ x := by
        have := of_decide_eq_true c
        omega
      exact ⟨(by show 1 ≤ sizeLine; decide), fun r nr => stay (-2) (if_pos c1) r nr⟩
    have c1 : ¬ n.bars ≤ x := fun z => c (decide_eq_true (by omega))
    refine ⟨_, rfl, _, rfl, p, CP, dx, _, _, rfl, hi, T.cp, T.pT, pF_torn _ _ _, t, _, rfl, .inl (SqL.of ht), rfl, flat_nv _, _, in_nv _ _, ?_⟩
    rw [dec_contains]
    refine ite2 (fun c => ?_) fun c2 => ?_
    · exact ⟨(by show 1 ≤ sizeLine; decide), fun r nr => stay (-4) ((if_neg c1).trans (if_pos c)) r nr⟩
    have nx : x ∉ n.torn := fun z => c2 (List.contains_iff_mem.mpr z)
    refine ⟨_, rfl, p, CP, dx, _, _, rfl, hi, T.cp, T.pT, pF_torn _ _ _, t, _, rfl, .inl (SqL.of ht), rfl, _, rfl, ite2 (fun c => ?_) fun c => ?_⟩
    · have c3 : 8 ≤ n.torn.length := by
        have := V.int.inj (of_decide_eq_true c)
        rw [List.length_map] at this
        omega
      exact ⟨(by show 1 ≤ sizeLine; decide), fun r nr => stay (-5) ((if_neg c1).trans ((if_neg c2).trans (if_pos c3))) r nr⟩
    have c3 : ¬ 8 ≤ n.torn.length := fun z => c (decide_eq_true (by rw [List.length_map, show n.torn.length = 8 by omega]; rfl))
    have e : step n (.tear x) = ({ n with torn := Uw24.insert_ x n.torn }, Uw24.ok (n.torn.length + 1 : Nat)) := (if_neg c1).trans ((if_neg c2).trans (if_neg c3))
    rw [e] at q
    refine ⟨_, rfl, p, CP, dx, _, _, rfl, hi, T.cp, T.pT, pF_torn _ _ _, _, rfl, (by show 1 ≤ sizeLine; decide), fun l nl => ?_⟩
    have s1 : Same H (upd H l (.lst [nv x])) := Same.add _ nl
    have e1 : (upd H l (.lst [nv x])) l = some (.lst [nv x]) := upd_same
    generalize upd H l (.lst [nv x]) = H1 at s1 e1 ⊢
    refine ⟨t, l, _, _, rfl, rfl, s1 _ _ ht, e1, by rw [List.length_map]; show _ + 1 ≤ _; omega, fun l2 nl2 => ?_⟩
    have s2 : Same H (upd H1 l2 (.lst (n.torn.map nv ++ [nv x]))) := s1.trans (Same.add _ nl2)
    have e2 : (upd H1 l2 (.lst (n.torn.map nv ++ [nv x]))) l2 = some (.lst (((n.torn ++ [x]).map fun (n : Nat) => (n : Int)).map V.int)) := by
      rw [upd_same, List.map_map, List.map_append]
      rfl
    generalize upd H1 l2 (.lst (n.torn.map nv ++ [nv x])) = H2 at s2 e2 ⊢
    refine ⟨l2, _, rfl, SqL.of e2, fun ns' l3 pm up nl3 => ?_⟩
    have en := sorted_insert o.up nx pm up
    subst en
    have s3 : Same H (upd H2 l3 (.lst (((Uw24.insert_ x n.torn).map fun (n : Nat) => (n : Int)).map V.int))) := s2.trans (Same.add _ nl3)
    have e3 : IL (upd H2 l3 (.lst (((Uw24.insert_ x n.torn).map fun (n : Nat) => (n : Int)).map V.int))) l3 (Uw24.insert_ x n.torn) := by
      show upd H2 l3 _ l3 = _
      rw [upd_same, List.map_map]
      rfl
    generalize upd H2 l3 (.lst (((Uw24.insert_ x n.torn).map fun (n : Nat) => (n : Int)).map V.int)) = H3 at s3 e3 ⊢
    have hi3 := s3 _ _ hi
    refine ⟨_, rfl, p, CP, dx, _, rfl, hi3, T.cp, T.pT, (by show 4 < 1000; decide), ?_⟩
    have np : l3 ≠ p := ne_of e3 hi3 (fun z => by cases z)
    have p4 : PieceAt CP (upd H3 p (.ins CP dx (putF "torn" (.ref l3) (pF n b t)))) p { n with torn := Uw24.insert_ x n.torn } b l3 := by
      refine ⟨⟨dx, by rw [upd_same, pF_put n b t l3 (Uw24.insert_ x n.torn)]⟩, (hp.bars.same s3).other hi3 (fun b z => by cases z) (fun vs z => by cases z), ?_⟩
      show upd H3 p _ l3 = _
      rw [upd_ne np]
      exact e3
    have s4 : ∀ c o, H c = some o → c ≠ p → (upd H3 p (.ins CP dx (putF "torn" (.ref l3) (pF n b t)))) c = some o := fun c o hc n => by
      rw [upd_ne n]
      exact s3 _ _ hc
    generalize upd H3 p (.ins CP dx (putF "torn" (.ref l3) (pF n b t))) = H4 at p4 s4 ⊢
    obtain ⟨dx4, hi4⟩ := p4.ins
    refine ⟨_, rfl, p, CP, dx4, _, _, rfl, hi4, T.cp, T.pT, pF_torn _ _ _, l3, _, rfl, .inl (SqL.of p4.torn), (by show 1 ≤ sizeLine; decide), fun r nr => ?_⟩
    refine q _ r l3 (free_of s4 hi4 nr) (.inr (s2.free nl3)) (p4.same (Same.add _ nr)) ?_ fun c o hc n => Same.add _ nr _ _ (s4 c o hc n)
    show upd H4 r _ r = _
    rw [upd_same, List.length_map]
    show some (HO.lst [V.int ((Uw24.insert_ x n.torn).length : Nat)]) = _
    rw [insert_len]
    rfl
end
end Nm

namespace Nm
open PySem PySem.Spec PyProof.Rows L2
open Uw24 (Net Call step)
section
variable {P : Program} {w : World} {K : PySem.W.Frag} {mg : Str → Option Value} {base : Heap} {CP CD : Addr}
/-! ### mend -/
def spMend (CP : Addr) : Sp := fun vs H Q _ => ∃ (p b t : Addr) (n : Net) (x : Nat), vs = [.ref p, nv x] ∧ PieceAt CP H p n b t ∧ Ok n ∧
  ∀ H' r t', H r = none → (t' = t ∨ H t' = none) → PieceAt CP H' p (step n (.mend x)).1 b t' → IntL H' r (Uw24Neutral.out (step n (.mend x)).2) → (∀ c o, H c = some o → c ≠ p → H' c = some o) → Q (.ref r) H'
theorem scMend : FnScope ["piece", "bar", "other"] ["piece", "bar"] (defScope sMend) := ⟨rfl, rfl, rfl, by decide +kernel, rfl, by decide +kernel, by decide +kernel⟩
theorem ne_nv (a b : Nat) : (!decide (nv a = nv b)) = (a != b) := by
  rw [nv_dec, Bool.eq_iff_iff, bne_iff_ne, Bool.not_eq_true', decide_eq_false_iff_not]
theorem ok_mend {f : Addr} {fd : FuncData} (F : Fun K "mend" "mend" sMend f fd) (T : Tx K mg CP CD) : FnOk P w K mg base CX0 1 f fd ["piece", "bar"] (spMend CP) := by
  refine F.ok scMend (fun vs H Q E h => ?_) (fun cdv A outer s H vs Q E hr h => ?_)
  · obtain ⟨p, b, t, n, x, rfl, _⟩ := h
    rfl
  · obtain ⟨p, b, t, n, x, rfl, hp, o, q⟩ := h
    refine ⟨_, pss_cons (ps_if (pt_cmpR op_ge (pv 1) (pe_callB call_len_seq (by rfl) T.len PySem.boot_len (pa_cons (pe_fld (pv 0) rfl) pa_nil)) (nomark _)) (pss_one (ps_ret (pe_lst (pa_cons (pe_gl (by rfl) T.noBar) pa_nil)))) pss_nil)
      (pss_cons (ps_if (pt_cmpR op_notIn_seq (pv 1) (pe_fld (pv 0) rfl) (by rfl)) (pss_one (ps_ret (pe_lst (pa_cons (pe_gl (by rfl) T.soAlready) pa_nil)))) pss_nil)
      (pss_cons (ps_fld (pv 0) (pe_lc (own := [("other", 2)]) (g := gName 2) rfl scMend.nd (pi_list (pe_fld (pv 0) rfl)) (blkOk_by (N := ["piece", "bar", "other"]) (sc := defScope sMend) (by decide +kernel))
          (fun _ _ _ _ _ => pg_name (i := 2) scMend.nd rfl (.inl rfl)) (fun _ _ _ _ _ => pts_one (pt_cmpR op_ne (pv 2) (pv 1) (nomark _))) (fun _ _ _ _ _ => pv 2)) rfl)
      (pss_one (ps_ret (pe_lst (pa_cons (pe_callB call_len_seq (by rfl) T.len PySem.boot_len (pa_cons (pe_fld (pv 0) rfl) pa_nil)) pa_nil)))))), ?_⟩
    obtain ⟨dx, hi⟩ := hp.ins
    obtain ⟨bz, b1, b2⟩ := bars_len hp.bars
    have ht := hp.torn
    have t8 := o.t8
    have big : sizeLine = 16777216 := rfl
    have stay : ∀ v : Int, step n (.mend x) = (n, Uw24.ok v) → ∀ r, H r = none → Q (.ref r) (upd H r (.lst [.int v])) := fun v e r nr => by
      rw [e] at q
      exact q _ r t nr (.inl rfl) (hp.same (Same.add _ nr)) upd_same fun c o hc _ => Same.add _ nr _ _ hc
    refine ⟨_, rfl, _, rfl, p, CP, dx, _, _, rfl, hi, T.cp, T.pB, pF_bars _ _ _, b, _, rfl, .inl (SqL.of b1), _, _, rfl, rfl, _, rfl, ite2 (fun c => ?_) fun c => ?_⟩
    · have c1 : n.bars ≤ x := by
        have := of_decide_eq_true c
        omega
      exact ⟨(by show 1 ≤ sizeLine; decide), fun r nr => stay (-2) (if_pos c1) r nr⟩
    have c1 : ¬ n.bars ≤ x := fun z => c (decide_eq_true (by omega))
    refine ⟨_, rfl, _, rfl, p, CP, dx, _, _, rfl, hi, T.cp, T.pT, pF_torn _ _ _, t, _, rfl, .inl (SqL.of ht), rfl, flat_nv _, _, notIn_nv _ _, ?_⟩
    rw [dec_contains]
    refine ite2 (fun c => ?_) fun c2 => ?_
    · rw [Bool.not_eq_true'] at c
      exact ⟨(by show 1 ≤ sizeLine; decide), fun r nr => stay (-4) ((if_neg c1).trans (if_pos c)) r nr⟩
    have c3 : ¬ n.torn.contains x = false := by rw [Bool.not_eq_true'] at c2; exact c2
    have hx : x ∈ n.torn := by
      rw [Bool.not_eq_false] at c3
      exact List.contains_iff_mem.mp c3
    have e : step n (.mend x) = ({ n with torn := n.torn.filter fun c => c != x }, Uw24.ok (n.torn.length - 1 : Nat)) := (if_neg c1).trans (if_neg c3)
    rw [e] at q
    refine ⟨_, rfl, p, CP, dx, _, _, rfl, hi, T.cp, T.pT, pF_torn _ _ _, t, rfl, ⟨_, SqL.of ht⟩, fun D hD => lc_keep (zs := n.torn) (val := nv) (fun y => y != x) nv (SqL.of ht) hD (by omega) ?_ ?_⟩
    · intro y hy H2 s2 Ty Tn ky kn
      refine ⟨rfl, ?_⟩
      refine ⟨_, rfl, _, rfl, rfl, _, rfl, ?_⟩
      rw [ne_nv]
      exact ite2 (fun z => ⟨_, rfl, ky _ z (Same.refl _)⟩) fun z => kn _ (Bool.eq_false_iff.mpr z) (Same.refl _)
    · intro H3 s3 e3
      have hi3 := s3 _ _ hi
      refine ⟨_, rfl, p, CP, dx, _, rfl, hi3, T.cp, T.pT, (by show 4 < 1000; decide), ?_⟩
      have np : D ≠ p := ne_of e3 hi3 (fun z => by cases z)
      have p4 : PieceAt CP (upd H3 p (.ins CP dx (putF "torn" (.ref D) (pF n b t)))) p { n with torn := n.torn.filter fun c => c != x } b D := by
        refine ⟨⟨dx, by rw [upd_same, pF_put n b t D (n.torn.filter fun c => c != x)]⟩, (hp.bars.same s3).other hi3 (fun b z => by cases z) (fun vs z => by cases z), ?_⟩
        show upd H3 p _ D = _
        rw [upd_ne np]
        exact e3
      have s4 : ∀ c o, H c = some o → c ≠ p → (upd H3 p (.ins CP dx (putF "torn" (.ref D) (pF n b t)))) c = some o := fun c o hc n => by
        rw [upd_ne n]
        exact s3 _ _ hc
      generalize upd H3 p (.ins CP dx (putF "torn" (.ref D) (pF n b t))) = H4 at p4 s4 ⊢
      obtain ⟨dx4, hi4⟩ := p4.ins
      refine ⟨_, rfl, p, CP, dx4, _, _, rfl, hi4, T.cp, T.pT, pF_torn _ _ _, D, _, rfl, .inl (SqL.of p4.torn), (by show 1 ≤ sizeLine; decide), fun r nr => ?_⟩
      refine q _ r D (free_of s4 hi4 nr) (.inr hD) (p4.same (Same.add _ nr)) ?_ fun c o hc n => Same.add _ nr _ _ (s4 c o hc n)
      show upd H4 r _ r = _
      rw [upd_same, List.length_map]
      show some (HO.lst [V.int ((n.torn.filter fun c => c != x).length : Nat)]) = _
      rw [drop_len o.up hx]
      rfl
/-! ### ends -/
def spEnds (CP : Addr) : Sp := fun vs H Q _ => ∃ (p b t : Addr) (n : Net) (x : Nat), vs = [.ref p, nv x] ∧ PieceAt CP H p n b t ∧ Ok n ∧
  ∀ H' r, Same H H' → H r = none → IntL H' r (Uw24Neutral.out (step n (.ends x)).2) → Q (.ref r) H'
theorem scEnds : FnScope ["piece", "bar"] ["piece", "bar"] (defScope sEnds) := ⟨rfl, rfl, rfl, by decide +kernel, rfl, by decide +kernel, by decide +kernel⟩
theorem ok_ends {f : Addr} {fd : FuncData} (F : Fun K "ends" "ends" sEnds f fd) (T : Tx K mg CP CD) : FnOk P w K mg base CX0 1 f fd ["piece", "bar"] (spEnds CP) := by
  refine F.ok scEnds (fun vs H Q E h => ?_) (fun cdv A outer s H vs Q E hr h => ?_)
  · obtain ⟨p, b, t, n, x, rfl, _⟩ := h
    rfl
  · obtain ⟨p, b, t, n, x, rfl, hp, o, q⟩ := h
    refine ⟨_, pss_cons (ps_if (pt_cmpR op_ge (pv 1) (pe_callB call_len_seq (by rfl) T.len PySem.boot_len (pa_cons (pe_fld (pv 0) rfl) pa_nil)) (nomark _)) (pss_one (ps_ret (pe_lst (pa_cons (pe_gl (by rfl) T.noBar) pa_nil)))) pss_nil)
      (pss_one (ps_ret (pe_op op_cat (pe_lst (pa_cons pe_int pa_nil)) (pe_callTy call_list_of (by rfl) T.list (by decide +kernel) (pa_cons (pe_ix ix_list (pe_fld (pv 0) rfl) (pv 1) (fun _ _ => rfl)) pa_nil))))), ?_⟩
    obtain ⟨dx, hi⟩ := hp.ins
    obtain ⟨zs, z1, z2, z3⟩ := hp.bars
    have zl : zs.length = n.bars := by
      have := congrArg List.length z3
      rw [List.length_map, List.length_map, List.length_range] at this
      exact this
    refine ⟨_, rfl, _, rfl, p, CP, dx, _, _, rfl, hi, T.cp, T.pB, pF_bars _ _ _, b, _, rfl, .inl (SqL.of z1), _, _, rfl, rfl, _, rfl, ite2 (fun c => ?_) fun c => ?_⟩
    · have c1 : n.bars ≤ x := by
        have := of_decide_eq_true c
        rw [List.length_map] at this
        omega
      refine ⟨(by show 1 ≤ sizeLine; decide), fun r nr => q _ r (Same.add _ nr) nr ?_⟩
      rw [show step n (.ends x) = (n, Uw24.ok (-2)) from if_pos c1]
      exact upd_same
    · have c1 : ¬ n.bars ≤ x := fun z => c (decide_eq_true (by rw [List.length_map]; omega))
      have hx : x < zs.length := by omega
      have e3 : zs[x].2 = n.ends x := by
        have := congrArg (fun l => l[x]?) z3
        simp only [List.getElem?_map, List.getElem?_eq_getElem hx, List.getElem?_range (show x < n.bars by omega)] at this
        exact Option.some.inj this
      refine ⟨(by show 1 ≤ sizeLine; decide), fun l nl => ?_⟩
      have s1 : Same H (upd H l (.lst [.int 0])) := Same.add _ nl
      have e1 : (upd H l (.lst [.int 0])) l = some (.lst [.int 0]) := upd_same
      generalize upd H l (.lst [.int 0]) = H1 at s1 e1 ⊢
      have hz : H1 zs[x].1 = some (pairO (n.ends x)) := by
        rw [← e3]
        exact s1 _ _ (z2 zs[x] (List.getElem_mem hx))
      refine ⟨_, rfl, p, CP, dx, _, _, rfl, s1 _ _ hi, T.cp, T.pB, pF_bars _ _ _, _, rfl, b, _, _, V.ref zs[x].1, rfl, rfl, SqL.of (s1 _ _ z1), atI_nat (by rw [List.getElem?_map, List.getElem?_eq_getElem hx]; rfl), zs[x].1, _, rfl, .inr (SqT.of hz), fun l2 nl2 => ?_⟩
      refine ⟨l, l2, _, _, rfl, rfl, Same.add _ nl2 _ _ e1, upd_same, (by show 1 + 2 ≤ sizeLine; decide), fun r nr => ?_⟩
      refine q _ r (s1.trans ((Same.add _ nl2).trans (Same.add _ nr))) ((s1.trans (Same.add _ nl2)).free nr) ?_
      rw [show step n (.ends x) = (n, ⟨0, [(n.ends x).1, (n.ends x).2]⟩) from if_neg c1]
      exact upd_same
/-! ### odd -/
def spOdd (CP : Addr) : Sp := fun vs H Q _ => ∃ (p b t : Addr) (n : Net), vs = [.ref p] ∧ PieceAt CP H p n b t ∧ Ok n ∧ ∀ H' r, Same H H' → H r = none → IntL H' r (Uw24Neutral.out (step n .odd).2) → Q (.ref r) H'
theorem scOdd : FnScope ["piece", "found"] ["piece"] (defScope sOdd) := ⟨rfl, rfl, rfl, by decide +kernel, rfl, by decide +kernel, by decide +kernel⟩
theorem oddK_len (N : Nat) (ps : List E) : (oddK N ps).length ≤ N := by
  have := List.length_filter_le (fun k => deg ps k % 2 == 1) (List.range N)
  rw [List.length_range] at this
  exact this
theorem ok_odd {f : Addr} {fd : FuncData} (F : Fun K "odd" "odd" sOdd f fd) (T : Tx K mg CP CD) (cO : Cal P w K mg base 2 "odd_knots" spOddKnots) (cW : Cal P w K mg base 1 "pairs_with" (spPairsWith CP)) (cK : Cal P w K mg base 1 "how_many_knots" (spKnots CP)) : FnOk P w K mg base CX0 3 f fd ["piece"] (spOdd CP) := by
  refine F.ok scOdd (fun vs H Q E h => ?_) (fun cdv A outer s H vs Q E hr h => ?_)
  · obtain ⟨p, b, t, n, rfl, _⟩ := h
    rfl
  · obtain ⟨p, b, t, n, rfl, hp, o, q⟩ := h
    refine ⟨_, pss_cons (ps_set (i := 1) scOdd.nd rfl (.inl rfl) (pe_cal cO hr (by decide) (by rfl) (pa_cons (pe_cal cW hr (by decide) (by rfl) (pa_cons (pv 0) (pa_cons (pe_lst pa_nil) pa_nil))) (pa_cons (pe_cal cK hr (by decide) (by rfl) (pa_cons (pv 0) pa_nil)) pa_nil))))
      (pss_one (ps_ret (pe_op op_cat (pe_lst (pa_cons (pe_callB call_len_seq (by rfl) T.len PySem.boot_len (pa_cons (pv 1) pa_nil)) pa_nil)) (pv 1)))), ?_⟩
    have big : sizeLine = 16777216 := rfl
    have k16 := o.knots_le
    refine ⟨_, rfl, Nat.zero_le _, fun l nl => ?_⟩
    have s1 : Same H (upd H l (.lst [])) := Same.add _ nl
    have e1 : IL (upd H l (.lst [])) l [] := upd_same
    generalize upd H l (.lst []) = H1 at s1 e1 ⊢
    refine ⟨p, l, b, t, n, [], rfl, hp.same s1, o, e1, fun _ h => absurd h (by simp), by simp, fun H2 r s2 hr2 => ?_⟩
    rw [List.append_nil] at hr2
    refine ⟨_, rfl, p, b, t, n, rfl, hp.same (s1.trans s2), o, r, _, n.knots, rfl, hr2, (some_torn o).good o, k16, fun H3 c s3 e3 => ?_⟩
    refine ⟨_, rfl, c, _, rfl, .inl (SqL.of e3), (by show 1 ≤ sizeLine; decide), fun d nd => ?_⟩
    have ol := oddK_len n.knots (n.torn.map n.ends)
    refine ⟨_, rfl, d, c, _, _, rfl, rfl, upd_same, Same.add _ nd _ _ e3, ?_, fun u nu => ?_⟩
    · show 1 + ((oddK n.knots (n.torn.map n.ends)).map nv).length ≤ sizeLine
      rw [List.length_map]
      omega
    · refine q _ u (s1.trans (s2.trans (s3.trans ((Same.add _ nd).trans (Same.add _ nu))))) ((s1.trans (s2.trans (s3.trans (Same.add _ nd)))).free nu) ?_
      show upd _ u _ u = _
      rw [upd_same]
      show _ = some (HO.lst ((((n.odd n.torn).length : Nat) : Int) :: (n.odd n.torn).map (fun (n : Nat) => (n : Int)) |>.map V.int))
      rw [odd_oddK, List.map_cons, List.map_map, List.length_map]
      rfl
/-! ### check -/
def spCheck (CP : Addr) (K : PySem.W.Frag) : Sp := fun vs H Q _ => ∃ (p kp b t : Addr) (n : Net) (ks : List Nat), vs = [.ref p, .ref kp] ∧ PieceAt CP H p n b t ∧ Ok n ∧ SqL K H kp (ks.map nv) ∧ ks.length ≤ 1000 ∧
  ∀ H' r, Same H H' → H r = none → IntL H' r (Uw24Neutral.out (step n (.check ks)).2) → Q (.ref r) H'
theorem scCheck : FnScope ["piece", "knots", "knot"] ["piece", "knots"] (defScope sCheck) := ⟨rfl, rfl, rfl, by decide +kernel, rfl, by decide +kernel, by decide +kernel⟩
theorem ok_check {f : Addr} {fd : FuncData} (F : Fun K "check" "check" sCheck f fd) (T : Tx K mg CP CD) (cI : Cal P w K mg base 1 "is_way" (spIsWay K)) (cW : Cal P w K mg base 1 "pairs_with" (spPairsWith CP)) (cK : Cal P w K mg base 1 "how_many_knots" (spKnots CP)) : FnOk P w K mg base CX0 2 f fd ["piece", "knots"] (spCheck CP K) := by
  refine F.ok scCheck (fun vs H Q E h => ?_) (fun cdv A outer s H vs Q E hr h => ?_)
  · obtain ⟨p, kp, b, t, n, ks, rfl, _⟩ := h
    rfl
  · obtain ⟨p, kp, b, t, n, ks, rfl, hp, o, hk, hkl, q⟩ := h
    refine ⟨_, pss_cons (ps_if (pt_cmpR (op_neD hr.units) (pe_lc (own := [("knot", 2)]) (g := gName 2) rfl scCheck.nd (pi_list (pv 1)) (blkOk_by (N := ["piece", "knots", "knot"]) (sc := defScope sCheck) (by decide +kernel))
          (fun _ _ _ _ _ => pg_name (i := 2) scCheck.nd rfl (.inl rfl)) (fun _ _ _ _ _ => pts_one (pt_cmpR op_ge (pv 2) (pe_cal cK hr (by decide) (by rfl) (pa_cons (pv 0) pa_nil)) (nomark _))) (fun _ _ _ _ _ => pv 2)) (pe_lst pa_nil) (nomark _))
        (pss_one (ps_ret (pe_lst (pa_cons (pe_gl (by rfl) T.notRight) pa_nil)))) pss_nil)
      (pss_one (ps_ret (pe_lst (pa_cons (pe_callTy call_int1 (by rfl) T.int (by decide +kernel) (pa_cons (pe_cal cI hr (by decide) (by rfl) (pa_cons (pe_cal cW hr (by decide) (by rfl) (pa_cons (pv 0) (pa_cons (pe_lst pa_nil) pa_nil))) (pa_cons (pv 1) pa_nil))) pa_nil)) pa_nil)))), ?_⟩
    have big : sizeLine = 16777216 := rfl
    refine ⟨_, rfl, kp, rfl, ⟨_, hk⟩, fun D hD => lc_keep (zs := ks) (val := nv) (fun k => decide (n.knots ≤ k)) nv hk hD (by omega) ?_ ?_⟩
    · intro k hkm H2 s2 Ty Tn ky kn
      refine ⟨rfl, ?_⟩
      refine ⟨_, rfl, _, rfl, p, b, t, n, rfl, hp.same s2, o, _, _, rfl, rfl, _, rfl, ?_⟩
      refine ite2 (fun z => ⟨_, rfl, ky _ (decide_eq_true ?_) (Same.refl _)⟩) fun z => kn _ (decide_eq_false fun y => z (decide_eq_true ?_)) (Same.refl _)
      · have := of_decide_eq_true z
        omega
      · omega
    · intro H3 s3 e3
      refine ⟨Nat.zero_le _, fun d hd => ?_⟩
      have s4 : Same H3 (upd H3 d (.lst [])) := Same.add _ hd
      have e4 : (upd H3 d (.lst [])) d = some (.lst []) := upd_same
      have e5 : IL (upd H3 d (.lst [])) D (ks.filter fun k => decide (n.knots ≤ k)) := s4 _ _ e3
      generalize upd H3 d (.lst []) = H4 at s4 e4 e5 ⊢
      refine ⟨_, _, dp_IL e5, dp_nil e4, shaped_nums _, shaped_nil, _, rfl, ?_⟩
      rw [eqv_nil, nil_map]
      have s5 := s3.trans s4
      refine ite2 (fun c => ?_) fun c => ?_
      · have c1 : (ks.all fun k => decide (k < n.knots)) = false := by
          rw [Bool.not_eq_true'] at c
          rw [← Bool.not_eq_true]
          intro z
          rw [List.all_eq_true] at z
          have : (ks.filter fun k => decide (n.knots ≤ k)) = [] := by
            rw [List.filter_eq_nil_iff]
            intro k hk2 y
            have := of_decide_eq_true (z k hk2)
            have := of_decide_eq_true y
            omega
          rw [this] at c
          cases c
        refine ⟨(by show 1 ≤ sizeLine; decide), fun r nr => q _ r (s5.trans (Same.add _ nr)) (s5.free nr) ?_⟩
        rw [show step n (.check ks) = (n, Uw24.ok (-1)) from if_pos c1]
        exact upd_same
      · have c1 : ¬ (ks.all fun k => decide (k < n.knots)) = false := by
          rw [Bool.not_eq_true', Bool.not_eq_false, List.isEmpty_iff, List.filter_eq_nil_iff] at c
          rw [Bool.not_eq_false, List.all_eq_true]
          intro k hk2
          have := c k hk2
          rw [decide_eq_true_iff] at this ⊢
          omega
        refine ⟨_, rfl, Nat.zero_le _, fun l nl => ?_⟩
        have s6 : Same H4 (upd H4 l (.lst [])) := Same.add _ nl
        have e6 : IL (upd H4 l (.lst [])) l [] := upd_same
        generalize upd H4 l (.lst []) = H6 at s6 e6 ⊢
        have s7 := s5.trans s6
        refine ⟨p, l, b, t, n, [], rfl, hp.same s7, o, e6, fun _ h => absurd h (by simp), by simp, fun H8 r s8 hr8 => ?_⟩
        rw [List.append_nil] at hr8
        have g := (some_torn o).good o
        have t8 := o.t8
        refine ⟨_, rfl, r, kp, _, ks, rfl, hr8, (s7.trans s8).seq hk, g.nd, by rw [List.length_map]; omega, hkl, fun H9 s9 => .inr ⟨_, rfl, (by show 1 ≤ sizeLine; decide), fun u nu => ?_⟩⟩
        refine q _ u (s7.trans (s8.trans (s9.trans (Same.add _ nu)))) ((s7.trans (s8.trans s9)).free nu) ?_
        rw [show step n (.check ks) = (n, Uw24.ok (if n.walks n.torn ks = true then 1 else 0)) from if_neg c1, walks_isWay o (some_torn o)]
        exact upd_same
end
end Nm

namespace Nm
open PySem PySem.Spec PyProof.Rows L2
open Uw24 (Net Call step some_)
theorem firstP_len {N : Nat} : ∀ (f : Nat) {ps : List E}, Good N ps → ∀ {k : Nat} {u : List Nat}, firstP N f ps k = some u → u.length = ps.length + 1
  | f, [], _, k, u, h => by
    have e : firstP N f [] k = some [k] := by cases f <;> rfl
    rw [e] at h
    cases h
    rfl
  | 0, _ :: _, _, _, _, h => by cases h
  | f + 1, e :: l, g, k, u, h => by
    rw [firstP_succ _ _ (by simp)] at h
    obtain ⟨j, _, q⟩ := List.exists_of_findSome?_eq_some h
    by_cases m : mk k j ∈ e :: l
    · rw [if_pos m, Option.map_eq_some_iff] at q
      obtain ⟨a, ha, rfl⟩ := q
      have := firstP_len f (g.del _) ha
      rw [List.length_cons, this, del_length g.nd m]
    · rw [if_neg m] at q
      cases q
theorem EW.len {N : Nat} {ps : List E} {u : List Nat} (g : Good N ps) (h : EW N ps u) : u.length ≤ ps.length + 1 := by
  rcases h with ⟨_, rfl⟩ | ⟨_, k, _, _, _, e⟩
  · simp
  · rw [firstP_len _ g e]
    exact Nat.le_refl _
theorem EW.way {n : Net} (o : Ok n) {l : List Nat} (s : Nm.Some n l) {u : List Nat} (h : EW n.knots (l.map n.ends) u) : (n.way l).getD [] = u := by
  rcases h with ⟨h0, rfl⟩ | ⟨h0, k, hk, t, low, e⟩
  · have : l = [] := List.map_eq_nil_iff.mp h0
    subst this
    rfl
  · have hl : l ≠ [] := fun z => h0 (by rw [z]; rfl)
    rw [way_is o s hl t hk low]
    rw [List.length_map] at e
    rw [e]
    rfl
section
variable {P : Program} {w : World} {K : PySem.W.Frag} {mg : Str → Option Value} {base : Heap} {CP CD : Addr}
/-! ### best -/
def spBest (CP : Addr) : Sp := fun vs H Q _ => ∃ (p b t : Addr) (n : Net), vs = [.ref p] ∧ PieceAt CP H p n b t ∧ Ok n ∧ ∀ H' r, Same H H' → H r = none → IntL H' r (Uw24Neutral.out (step n .best).2) → Q (.ref r) H'
theorem scBest : FnScope ["piece", "sets", "way"] ["piece"] (defScope sBest) := ⟨rfl, rfl, rfl, by decide +kernel, rfl, by decide +kernel, by decide +kernel⟩
theorem ok_best {f : Addr} {fd : FuncData} (F : Fun K "best" "best" sBest f fd) (T : Tx K mg CP CD) (cF : Cal P w K mg base 7 "fewest_cuts" (spFewest CP)) (cE : Cal P w K mg base 5 "earliest_way" spEarliest) (cW : Cal P w K mg base 1 "pairs_with" (spPairsWith CP)) (cK : Cal P w K mg base 1 "how_many_knots" (spKnots CP)) : FnOk P w K mg base CX0 8 f fd ["piece"] (spBest CP) := by
  refine F.ok scBest (fun vs H Q E h => ?_) (fun cdv A outer s H vs Q E hr h => ?_)
  · obtain ⟨p, b, t, n, rfl, _⟩ := h
    rfl
  · obtain ⟨p, b, t, n, rfl, hp, o, q⟩ := h
    refine ⟨_, pss_cons (ps_set (i := 1) scBest.nd rfl (.inl rfl) (pe_cal cF hr (by decide) (by rfl) (pa_cons (pv 0) pa_nil)))
      (pss_cons (ps_if (pt_cmpR (op_eqD hr.units) (pv 1) (pe_lst pa_nil) (nomark _)) (pss_one (ps_ret (pe_lst (pa_cons (pe_gl (by rfl) T.cannot) pa_nil)))) pss_nil)
      (pss_cons (ps_set (i := 2) scBest.nd rfl (.inl rfl) (pe_cal cE hr (by decide) (by rfl) (pa_cons (pe_cal cW hr (by decide) (by rfl) (pa_cons (pv 0) (pa_cons (pe_ix ix_list (pv 1) pe_int (fun _ _ => rfl)) pa_nil))) (pa_cons (pe_cal cK hr (by decide) (by rfl) (pa_cons (pv 0) pa_nil)) pa_nil))))
      (pss_one (ps_ret (pe_op op_cat (pe_op op_cat (pe_lst (pa_cons (pe_callB call_len_seq (by rfl) T.len PySem.boot_len (pa_cons (pe_ix ix_list (pv 1) pe_int (fun _ _ => rfl)) pa_nil)) (pa_cons (pe_callB call_len_seq (by rfl) T.len PySem.boot_len (pa_cons (pv 1) pa_nil)) pa_nil))) (pe_ix ix_list (pv 1) pe_int (fun _ _ => rfl))) (pv 2)))))), ?_⟩
    have big : sizeLine = 16777216 := rfl
    refine ⟨_, rfl, p, b, t, n, rfl, hp, o, fun H1 r ss s1 hs few => ?_⟩
    refine ⟨_, rfl, Nat.zero_le _, fun d hd => ?_⟩
    have s2 : Same H (upd H1 d (.lst [])) := s1.trans (Same.add _ hd)
    have e2 : (upd H1 d (.lst [])) d = some (.lst []) := upd_same
    have hs2 : SL (upd H1 d (.lst [])) r ss := hs.same (Same.add _ hd)
    generalize upd H1 d (.lst []) = H2 at s2 e2 hs2 ⊢
    refine ⟨_, _, dp_SL hs2, dp_nil e2, shaped_sets _, shaped_nil, _, rfl, ?_⟩
    rw [eqv_nil, nil_map]
    have hbest : step n .best = (n, match n.best with | none => Uw24.ok (-6) | some b => ⟨(b.cut.length : Nat), b.many :: (b.cut ++ (n.way (n.torn ++ b.cut)).getD [])⟩) := rfl
    rcases few with ⟨rfl, none⟩ | ⟨ne, k, hk, rfl, low⟩
    · refine ⟨(by show 1 ≤ sizeLine; decide), fun u nu => q _ u (s2.trans (Same.add _ nu)) (s2.free nu) ?_⟩
      rw [hbest, best_none none]
      exact upd_same
    · obtain ⟨z, zs, z1, z2, z3⟩ : ∃ (z : Addr × List Nat) (zs : List (Addr × List Nat)), H2 r = some (.lst ((z :: zs).map fun z => V.ref z.1)) ∧ (∀ y ∈ z :: zs, H2 y.1 = some (setO y.2)) ∧ (z :: zs).map (·.2) = n.by_ k := by
        obtain ⟨zs, a, b, c⟩ := hs2
        cases zs with
        | nil => exact absurd c.symm ne
        | cons z zs => exact ⟨z, zs, a, b, c⟩
      have e3 : (n.by_ k).isEmpty = false := by rw [← z3]; rfl
      rw [e3]
      have eb : n.by_ k = z.2 :: zs.map (·.2) := z3.symm
      have zin : z.2 ∈ n.by_ k := by rw [eb]; exact List.mem_cons_self
      obtain ⟨zsm, zgo⟩ := List.mem_filter.mp zin
      have sw := some_with o zsm
      have zlen := (some_sub zsm).2
      have hw := (goes_iff o sw).mp zgo
      have t8 := o.t8
      have hz := z2 z List.mem_cons_self
      have at0 : atI ((z :: zs).map fun z => V.ref z.1) (0 : Int) = some (V.ref z.1) := atI_nat (j := 0) rfl
      have bl : ((z :: zs).map fun z => V.ref z.1).length = (zs.map (·.2)).length + 1 := by
        rw [List.length_map, List.length_map, List.length_cons]
      refine ⟨_, rfl, _, rfl, r, _, _, _, rfl, rfl, SqL.of z1, at0, p, z.1, b, t, n, z.2, rfl, hp.same s2, o, hz, fun x hx => sw.lo x (List.mem_append_right _ hx), by omega, fun H4 e s4 p4 => ?_⟩
      have pl : ((n.torn ++ z.2).map n.ends).length ≤ 12 := by
        rw [List.length_map, List.length_append]
        omega
      refine ⟨_, rfl, p, b, t, n, rfl, hp.same (s2.trans s4), o, e, _, n.knots, rfl, p4, sw.good o, o.knots_le, by omega, hw, fun H5 y u s5 e5 ew => ?_⟩
      have ul := ew.len (sw.good o)
      have s6 := s4.trans s5
      have z16 := s6 _ _ z1
      have hz6 := s6 _ _ hz
      refine ⟨_, rfl, r, _, _, _, rfl, rfl, SqL.of z16, at0, z.1, _, rfl, .inl (SqL.of hz6), _, rfl, r, _, rfl, .inl (SqL.of z16), (by show 2 ≤ sizeLine; decide), fun l nl => ?_⟩
      have s7 : Same H5 (upd H5 l (.lst [.int ((z.2.map nv).length : Nat), .int ((((z :: zs).map fun z => V.ref z.1).length : Nat) : Int)])) := Same.add _ nl
      have e7 : (upd H5 l (.lst [.int ((z.2.map nv).length : Nat), .int ((((z :: zs).map fun z => V.ref z.1).length : Nat) : Int)])) l = some (.lst [.int ((z.2.map nv).length : Nat), .int ((((z :: zs).map fun z => V.ref z.1).length : Nat) : Int)]) := upd_same
      generalize upd H5 l (.lst [.int ((z.2.map nv).length : Nat), .int ((((z :: zs).map fun z => V.ref z.1).length : Nat) : Int)]) = H7 at s7 e7 ⊢
      refine ⟨_, rfl, r, _, _, _, rfl, rfl, SqL.of (s7 _ _ z16), at0, l, z.1, _, _, rfl, rfl, e7, s7 _ _ hz6, ?_, fun l2 nl2 => ?_⟩
      · show 2 + (z.2.map nv).length ≤ sizeLine
        rw [List.length_map]
        omega
      have s8 : Same H7 (upd H7 l2 (.lst ([V.int ((z.2.map nv).length : Nat), .int ((((z :: zs).map fun z => V.ref z.1).length : Nat) : Int)] ++ z.2.map nv))) := Same.add _ nl2
      have e8 : (upd H7 l2 (.lst ([V.int ((z.2.map nv).length : Nat), .int ((((z :: zs).map fun z => V.ref z.1).length : Nat) : Int)] ++ z.2.map nv))) l2 = _ := upd_same
      generalize upd H7 l2 (.lst ([V.int ((z.2.map nv).length : Nat), .int ((((z :: zs).map fun z => V.ref z.1).length : Nat) : Int)] ++ z.2.map nv)) = H8 at s8 e8 ⊢
      refine ⟨_, rfl, l2, y, _, _, rfl, rfl, e8, s8 _ _ (s7 _ _ e5), ?_, fun v nv2 => ?_⟩
      · simp only [List.length_append, List.length_map, List.length_cons, List.length_nil]
        omega
      refine q _ v (s2.trans (s6.trans (s7.trans (s8.trans (Same.add _ nv2))))) ((s2.trans (s6.trans (s7.trans s8))).free nv2) ?_
      show upd _ v _ v = _
      rw [upd_same, hbest, best_some hk eb low]
      show _ = some (HO.lst (((z.2.length : Nat) : Int) :: (((zs.map (·.2)).length + 1) :: (z.2 ++ (n.way (n.torn ++ z.2)).getD [])).map (fun (n : Nat) => (n : Int)) |>.map V.int))
      rw [ew.way o sw, bl, List.length_map, List.map_cons, List.map_cons, List.map_cons, List.map_append, List.map_append, List.map_map, List.map_map]
      rfl
/-! ### answered -/
def spAnswered (CP CD : Addr) (K : PySem.W.Frag) : Sp := fun vs H Q _ => ∃ (d p b t wp kp : Addr) (n : Net) (kind : Nat) (ws ks : List Nat) (c : Call), vs = [.ref d, nv kind, .ref wp, .ref kp] ∧ DeskAt CP CD H d n p b t ∧ Ok n ∧ IL H wp ws ∧ SqL K H kp (ks.map nv) ∧ ks.length ≤ 1000 ∧ Says kind ws ks c ∧
  ∀ H' r p' b' t', H r = none → (b' = b ∨ H b' = none) → (t' = t ∨ H t' = none) → DeskAt CP CD H' d (step n c).1 p' b' t' → IntL H' r (Uw24Neutral.out (step n c).2) → (∀ c o, H c = some o → c ≠ d → c ≠ p → H' c = some o) → Q (.ref r) H'
theorem scAnswered : FnScope ["desk", "kind", "wholes", "knots"] ["desk", "kind", "wholes", "knots"] (defScope sAnswered) := ⟨rfl, rfl, rfl, by decide +kernel, rfl, by decide +kernel, by decide +kernel⟩
theorem ok_answered {f : Addr} {fd : FuncData} (F : Fun K "answered" "answered" sAnswered f fd) (T : Tx K mg CP CD) (cB : Cal P w K mg base 4 "begins" (spBegins CP CD)) (cT : Cal P w K mg base 1 "tear" (spTear CP)) (cM : Cal P w K mg base 1 "mend" (spMend CP)) (cE : Cal P w K mg base 1 "ends" (spEnds CP))
    (cO : Cal P w K mg base 3 "odd" (spOdd CP)) (cC : Cal P w K mg base 2 "check" (spCheck CP K)) (cX : Cal P w K mg base 8 "best" (spBest CP)) : FnOk P w K mg base CX0 9 f fd ["desk", "kind", "wholes", "knots"] (spAnswered CP CD K) := by
  refine F.ok scAnswered (fun vs H Q E h => ?_) (fun cdv A outer s H vs Q E hr h => ?_)
  · obtain ⟨d, p, b, t, wp, kp, n, kind, ws, ks, c, rfl, _⟩ := h
    rfl
  · obtain ⟨d, p, b, t, wp, kp, n, kind, ws, ks, c, rfl, hd, o, hw, hk, hkl, says, q⟩ := h
    refine ⟨_, pss_cons (ps_if (pt_cmpR op_eq (pv 1) pe_int (nomark _)) (pss_one (ps_ret (pe_cal cB hr (by decide) (by rfl) (pa_cons (pv 0) (pa_cons (pe_ix ix_list (pv 2) pe_int (fun _ _ => rfl)) (pa_cons (pe_ix ix_list (pv 2) pe_int (fun _ _ => rfl)) pa_nil)))))) pss_nil)
      (pss_cons (ps_if (pt_cmpR op_eq (pv 1) pe_int (nomark _)) (pss_one (ps_ret (pe_cal cT hr (by decide) (by rfl) (pa_cons (pe_fld (pv 0) rfl) (pa_cons (pe_ix ix_list (pv 2) pe_int (fun _ _ => rfl)) pa_nil))))) pss_nil)
      (pss_cons (ps_if (pt_cmpR op_eq (pv 1) pe_int (nomark _)) (pss_one (ps_ret (pe_cal cM hr (by decide) (by rfl) (pa_cons (pe_fld (pv 0) rfl) (pa_cons (pe_ix ix_list (pv 2) pe_int (fun _ _ => rfl)) pa_nil))))) pss_nil)
      (pss_cons (ps_if (pt_cmpR op_eq (pv 1) pe_int (nomark _)) (pss_one (ps_ret (pe_cal cE hr (by decide) (by rfl) (pa_cons (pe_fld (pv 0) rfl) (pa_cons (pe_ix ix_list (pv 2) pe_int (fun _ _ => rfl)) pa_nil))))) pss_nil)
      (pss_cons (ps_if (pt_cmpR op_eq (pv 1) pe_int (nomark _)) (pss_one (ps_ret (pe_cal cO hr (by decide) (by rfl) (pa_cons (pe_fld (pv 0) rfl) pa_nil)))) pss_nil)
      (pss_cons (ps_if (pt_cmpR op_eq (pv 1) (pe_gl (by rfl) T.check) (nomark _)) (pss_one (ps_ret (pe_cal cC hr (by decide) (by rfl) (pa_cons (pe_fld (pv 0) rfl) (pa_cons (pv 3) pa_nil))))) pss_nil)
      (pss_one (ps_ret (pe_cal cX hr (by decide) (by rfl) (pa_cons (pe_fld (pv 0) rfl) pa_nil))))))))), ?_⟩
    obtain ⟨dx, hi⟩ := hd.ins
    have w0 : ∀ {x : Nat} {r : List Nat}, atI ((x :: r).map nv) (0 : Int) = some (nv x) := fun {x r} => atI_nat (j := 0) rfl
    have w1 : ∀ {x y : Nat} {r : List Nat}, atI ((x :: y :: r).map nv) (1 : Int) = some (nv y) := fun {x y r} => atI_nat (j := 1) rfl
    have pieceKeeps : ∀ {H' : Hp} {m : Net} {t' : Addr}, (∀ c o, H c = some o → c ≠ p → H' c = some o) → PieceAt CP H' p m b t' → DeskAt CP CD H' d m p b t' := fun fr pc => ⟨⟨dx, fr _ _ hi hd.ne.symm⟩, hd.ne, pc⟩
    cases says with
    | begins x y =>
      refine ⟨_, rfl, rfl, _, rfl, ?_⟩
      refine ⟨_, rfl, _, rfl, wp, _, _, _, rfl, rfl, SqL.of hw, w0, _, rfl, wp, _, _, _, rfl, rfl, SqL.of hw, w1, d, p, b, t, n, x, y, rfl, hd, fun H' r p' b' t' n1 n3 n4 h1 h2 h3 => q H' r p' b' t' n1 n3 n4 h1 h2 fun c o hc n1 _ => h3 c o hc n1⟩
    | tear x =>
      refine ⟨_, rfl, rfl, _, rfl, ?_⟩
      refine ⟨_, rfl, rfl, _, rfl, ?_⟩
      refine ⟨_, rfl, d, CD, dx, _, _, rfl, hi, T.cd, T.dP, dF_piece _, _, rfl, wp, _, _, _, rfl, rfl, SqL.of hw, w0, p, b, t, n, x, rfl, hd.pc, o, fun H' r t' n1 n4 h1 h2 h3 => q H' r p b t' n1 (.inl rfl) n4 (pieceKeeps h3 h1) h2 fun c o hc _ n2 => h3 c o hc n2⟩
    | mend x =>
      refine ⟨_, rfl, rfl, _, rfl, ?_⟩
      refine ⟨_, rfl, rfl, _, rfl, ?_⟩
      refine ⟨_, rfl, rfl, _, rfl, ?_⟩
      refine ⟨_, rfl, d, CD, dx, _, _, rfl, hi, T.cd, T.dP, dF_piece _, _, rfl, wp, _, _, _, rfl, rfl, SqL.of hw, w0, p, b, t, n, x, rfl, hd.pc, o, fun H' r t' n1 n4 h1 h2 h3 => q H' r p b t' n1 (.inl rfl) n4 (pieceKeeps h3 h1) h2 fun c o hc _ n2 => h3 c o hc n2⟩
    | ends x =>
      refine ⟨_, rfl, rfl, _, rfl, ?_⟩
      refine ⟨_, rfl, rfl, _, rfl, ?_⟩
      refine ⟨_, rfl, rfl, _, rfl, ?_⟩
      refine ⟨_, rfl, rfl, _, rfl, ?_⟩
      have e : (step n (.ends x)).1 = n := by
        unfold Uw24.step
        dsimp only
        split <;> rfl
      refine ⟨_, rfl, d, CD, dx, _, _, rfl, hi, T.cd, T.dP, dF_piece _, _, rfl, wp, _, _, _, rfl, rfl, SqL.of hw, w0, p, b, t, n, x, rfl, hd.pc, o, fun H' r s1 n1 h2 => q H' r p b t n1 (.inl rfl) (.inl rfl) (by rw [e]; exact hd.same s1) h2 fun c o hc _ _ => s1 _ _ hc⟩
    | odd =>
      refine ⟨_, rfl, rfl, _, rfl, ?_⟩
      refine ⟨_, rfl, rfl, _, rfl, ?_⟩
      refine ⟨_, rfl, rfl, _, rfl, ?_⟩
      refine ⟨_, rfl, rfl, _, rfl, ?_⟩
      refine ⟨_, rfl, rfl, _, rfl, ?_⟩
      refine ⟨_, rfl, d, CD, dx, _, _, rfl, hi, T.cd, T.dP, dF_piece _, p, b, t, n, rfl, hd.pc, o, fun H' r s1 n1 h2 => q H' r p b t n1 (.inl rfl) (.inl rfl) (hd.same s1) h2 fun c o hc _ _ => s1 _ _ hc⟩
    | check =>
      refine ⟨_, rfl, rfl, _, rfl, ?_⟩
      refine ⟨_, rfl, rfl, _, rfl, ?_⟩
      refine ⟨_, rfl, rfl, _, rfl, ?_⟩
      refine ⟨_, rfl, rfl, _, rfl, ?_⟩
      refine ⟨_, rfl, rfl, _, rfl, ?_⟩
      refine ⟨_, rfl, rfl, _, rfl, ?_⟩
      have e : (step n (.check ks)).1 = n := by
        unfold Uw24.step
        dsimp only
        split <;> rfl
      refine ⟨_, rfl, d, CD, dx, _, _, rfl, hi, T.cd, T.dP, dF_piece _, _, rfl, p, kp, b, t, n, ks, rfl, hd.pc, o, hk, hkl, fun H' r s1 n1 h2 => q H' r p b t n1 (.inl rfl) (.inl rfl) (by rw [e]; exact hd.same s1) h2 fun c o hc _ _ => s1 _ _ hc⟩
    | best =>
      refine ⟨_, rfl, rfl, _, rfl, ?_⟩
      refine ⟨_, rfl, rfl, _, rfl, ?_⟩
      refine ⟨_, rfl, rfl, _, rfl, ?_⟩
      refine ⟨_, rfl, rfl, _, rfl, ?_⟩
      refine ⟨_, rfl, rfl, _, rfl, ?_⟩
      refine ⟨_, rfl, rfl, _, rfl, ?_⟩
      refine ⟨_, rfl, d, CD, dx, _, _, rfl, hi, T.cd, T.dP, dF_piece _, p, b, t, n, rfl, hd.pc, o, fun H' r s1 n1 h2 => q H' r p b t n1 (.inl rfl) (.inl rfl) (hd.same s1) h2 fun c o hc _ _ => s1 _ _ hc⟩
end
end Nm

namespace Nm
open PySem PySem.Spec PyProof.Rows L2
open Uw24 (Net Call)
section
variable {X : Cx}
theorem pe_mak0 {k j : Nat} {x : Str} {C : Addr} {sp : Sp} {p pos : Pos} (c : Mak X.prog X.w X.K X.mg X.base k x C sp) (hr : Room j X.A) (hk : k + 1 ≤ j) (hg : Gl X x) (h1 : (x == ("__debug__" : Str)) = false := by decide) :
    PE X (.Call (.Name x p) [] [] pos) (tMake C sp [] E0 tNil) := by
  obtain ⟨f, fd, ps, M, F, hm, b⟩ := c.ex
  exact pe_make0 M F (hr.mono hk) hg hm b .nil pass0 h1
end
theorem cut_part (xs : List V) (i j : Nat) : cutV xs (some (i : Int)) (some (j : Int)) = (xs.drop i).take (j - i) := by
  unfold cutV
  rw [show HT.sIx xs.length 0 (some (i : Int)) = min i xs.length from HT.sIx_nat xs.length 0 i, show HT.sIx xs.length xs.length (some (j : Int)) = min j xs.length from HT.sIx_nat xs.length xs.length j]
  by_cases h : i ≤ xs.length
  · rw [Nat.min_eq_left h]
    by_cases h2 : j ≤ xs.length
    · rw [Nat.min_eq_left h2]
    · rw [Nat.min_eq_right (by omega), List.take_of_length_le (by rw [List.length_drop]; exact Nat.le_refl _), List.take_of_length_le (by rw [List.length_drop]; omega)]
  · rw [List.drop_eq_nil_of_le (by omega), List.drop_eq_nil_of_le (by omega), List.take_nil, List.take_nil]
/-- a list stays where only instances are changed -/
theorem SqL.keep {K : PySem.W.Frag} {H H' : Hp} {a d p : Addr} {xs : List V} {C D dx px : Addr} {fs gs : List (Str × V)} (h : SqL K H a xs) (hd : H d = some (.ins C dx fs)) (hp : H p = some (.ins D px gs)) (k : ∀ c o, H c = some o → c ≠ d → c ≠ p → H' c = some o) : SqL K H' a xs := by
  rcases h with (h | ⟨o, h⟩) | h
  · exact .inl (.inl (k _ _ h (ne_of h hd (fun z => by cases z)) (ne_of h hp (fun z => by cases z))))
  · exact .inl (.inr ⟨o, k _ _ h (ne_of h hd (fun z => by cases z)) (ne_of h hp (fun z => by cases z))⟩)
  · exact .inr h
/-- .. and where a list is changed that is none of it -/
theorem LL.off {α : Type} {f : α → HO} {H : Hp} {q r : Addr} {xs : List α} {vs : List V} {o : HO} (h : LL f H q xs) (hr : H r = some (.lst vs)) (ne : r ≠ q) (d : ∀ b, f b ≠ .lst vs) : LL f (upd H r o) q xs := by
  obtain ⟨zs, h1, h2, h3⟩ := h
  exact ⟨zs, by rw [upd_ne ne.symm]; exact h1, fun z hz => by rw [upd_ne (ne_of (h2 z hz) hr (d _))]; exact h2 z hz, h3⟩
theorem DeskAt.off {CP CD : Addr} {H : Hp} {d : Addr} {n : Net} {p b t r : Addr} {vs : List V} {o : HO} (h : DeskAt CP CD H d n p b t) (hr : H r = some (.lst vs)) (rb : r ≠ b) (rt : r ≠ t) : DeskAt CP CD (upd H r o) d n p b t := by
  obtain ⟨dx, hi⟩ := h.ins
  obtain ⟨px, hp⟩ := h.pc.ins
  refine ⟨⟨dx, by rw [upd_ne (ne_of hi hr (fun z => by cases z))]; exact hi⟩, h.ne, ⟨⟨px, by rw [upd_ne (ne_of hp hr (fun z => by cases z))]; exact hp⟩, h.pc.bars.off hr rb (fun b z => by cases z), ?_⟩⟩
  show upd H r o t = _
  rw [upd_ne rt.symm]
  exact h.pc.torn
theorem SqL.off {K : PySem.W.Frag} {H : Hp} {a r : Addr} {xs : List V} (h : SqL K H a xs) (nr : H r = none) : ∀ H' o, SqL K H' a xs → SqL K (upd H' r o) a xs := by
  have case1 : a ≠ r → ∀ H' o, SqL K H' a xs → SqL K (upd H' r o) a xs := fun ne H' o q => by
    rcases q with (q | ⟨u, q⟩) | q
    · exact .inl (.inl (by rw [upd_ne ne]; exact q))
    · exact .inl (.inr ⟨u, by rw [upd_ne ne]; exact q⟩)
    · exact .inr q
  rcases h with (h | ⟨o, h⟩) | h
  · exact case1 (ne_of_none h nr)
  · exact case1 (ne_of_none h nr)
  · exact fun _ _ _ => .inr h
section
variable {P : Program} {w : World} {K : PySem.W.Frag} {mg : Str → Option Value} {base : Heap} {CP CD : Addr}
/-! ### answers -/
def spAnswers (K : PySem.W.Frag) : Sp := fun vs H Q _ => ∃ (a : Addr) (l : List Int), vs = [.ref a] ∧ SqL K H a (l.map V.int) ∧ (∀ x ∈ l, 0 ≤ x) ∧ l.length ≤ 30000 ∧ PyUw24.answers_asked l = true ∧ ∀ H' r, IntL H' r (PyUw24.answers l) → Q (.ref r) H'
theorem scAnswers : FnScope ["calls", "desk", "found", "at", "kind", "end", "wholes", "knots", "start", "numbers"] ["calls"] (defScope sAnswers) := ⟨rfl, rfl, rfl, by decide +kernel, rfl, by decide +kernel, by decide +kernel⟩
theorem ok_answers {f : Addr} {fd : FuncData} (F : Fun K "answers" "answers" sAnswers f fd) (T : Tx K mg CP CD) (mD : Mak P w K mg base 4 "Desk" CD (spDInit CP CD)) (cA : Cal P w K mg base 9 "answered" (spAnswered CP CD K)) : FnOk P w K mg base CX0 10 f fd ["calls"] (spAnswers K) := by
  refine F.ok scAnswers (fun vs H Q E h => ?_) (fun cdv A outer s H vs Q E hr h => ?_)
  · obtain ⟨a, l, rfl, _⟩ := h
    rfl
  · obtain ⟨a, l, rfl, hS0, hpos, hlen, hask, q⟩ := h
    obtain ⟨raw, hraw, hcalls, hdue, hshort⟩ := asked_is hask
    obtain ⟨ls, rfl⟩ : ∃ ls : List Nat, l = up ls := ⟨_, (up_ints hpos).symm⟩
    have hS : SqL K H a (ls.map nv) := by
      rw [List.map_map] at hS0
      exact hS0
    clear hS0
    have ll : ls.length ≤ 30000 := by rw [List.length_map] at hlen; exact hlen
    obtain ⟨wa, gw, sw⟩ := T.wholes
    refine ⟨_, pss_cons (ps_set (i := 1) scAnswers.nd rfl (.inl rfl) (pe_mak0 mD hr (by decide) (by rfl)))
      (pss_cons (ps_set (i := 2) scAnswers.nd rfl (.inl rfl) (pe_lst pa_nil))
      (pss_cons (ps_set (i := 3) scAnswers.nd rfl (.inl rfl) pe_int)
      (pss_cons (ps_while PassesOwn.never (pt_cmpR op_lt (pv 3) (pe_callB call_len_seq (by rfl) T.len PySem.boot_len (pa_cons (pv 0) pa_nil)) (nomark _))
        (pss_cons (ps_set (i := 4) scAnswers.nd rfl (.inl rfl) (pe_ix ix_list (pv 0) (pv 3) (fun _ _ => rfl)))
        (pss_cons (ps_set (i := 5) scAnswers.nd rfl (.inl rfl) (pe_op op_add (pe_op op_add (pv 3) pe_int) (pe_ix ix_tup (pe_glob (v := .ref wa) (by rfl) gw rfl) (pv 4) (fun _ _ => rfl))))
        (pss_cons (ps_set (i := 6) scAnswers.nd rfl (.inl rfl) (pe_slice sl_list (pv 0) (po_some (pe_op op_add (pv 3) pe_int)) (po_some (pv 5))))
        (pss_cons (ps_set (i := 7) scAnswers.nd rfl (.inl rfl) (pe_lst pa_nil))
        (pss_cons (ps_if (pt_cmpR op_eq (pv 4) (pe_gl (by rfl) T.check) (nomark _))
          (pss_cons (ps_set (i := 8) scAnswers.nd rfl (.inl rfl) (pe_op op_add (pv 5) pe_int))
          (pss_cons (ps_set (i := 5) scAnswers.nd rfl (.inl rfl) (pe_op op_add (pv 8) (pe_ix ix_list (pv 0) (pv 5) (fun _ _ => rfl))))
          (pss_one (ps_set (i := 7) scAnswers.nd rfl (.inl rfl) (pe_slice sl_list (pv 0) (po_some (pv 8)) (po_some (pv 5))))))) pss_nil)
        (pss_cons (ps_set (i := 9) scAnswers.nd rfl (.inl rfl) (pe_cal cA hr (by decide) (by rfl) (pa_cons (pv 1) (pa_cons (pv 4) (pa_cons (pv 6) (pa_cons (pv 7) pa_nil))))))
        (pss_cons (ps_expr (pe_bm PySem.F.plainAttrs_list PySem.F.slot_list_append PySem.F.type_list_append mt_append (pv 2) (pa_cons (pe_callB call_len_seq (by rfl) T.len PySem.boot_len (pa_cons (pv 9) pa_nil)) pa_nil)))
        (pss_cons (ps_expr (pe_bm PySem.F.plainAttrs_list PySem.F.slot_list_extend PySem.F.type_list_extend mt_extend (pv 2) (pa_cons (pv 9) pa_nil)))
        (pss_one (ps_set (i := 3) scAnswers.nd rfl (.inl rfl) (pv 5))))))))))))
      (pss_one (ps_ret (pv 2)))))), ?_⟩
    have big : sizeLine = 16777216 := rfl
    intro d ddx nd nddx ne
    refine ⟨d, ddx, rfl, upd_same, fun H1 p b t hd1 kp => ⟨rfl, ?_⟩⟩
    have s1 : Same H H1 := Same.made nd nddx kp
    refine ⟨Nat.zero_le _, fun r nr => ?_⟩
    have keepA := SqL.off (s1.seq hS) nr
    have rb0 : r ≠ b := fun z => by
      obtain ⟨zs, h1, _, _⟩ := hd1.pc.bars
      rw [← z, nr] at h1
      cases h1
    have rt0 : r ≠ t := (ne_of_none hd1.pc.torn nr).symm
    have s2 : Same H1 (upd H1 r (.lst [])) := Same.add _ nr
    have e2 : IntL (upd H1 r (.lst [])) r [] := upd_same
    generalize upd H1 r (.lst []) = H2 at s2 e2 ⊢
    -- the loop
    refine ⟨fun m σ H' => ∃ (k : Nat) (rest : List (List (List Int))) (fu : Nat) (n : Net) (p b t : Addr) (G : List Int) (y4 y5 y6 y7 y8 y9 : Option V),
        σ = [some (.ref a), some (.ref d), some (.ref r), some (nv k), y4, y5, y6, y7, y8, y9] ∧ SqL K H' a (ls.map nv) ∧ DeskAt CP CD H' d n p b t ∧ Ok n ∧ IntL H' r G ∧ r ≠ b ∧ r ≠ t ∧ k ≤ ls.length ∧
        PyFlat.calls PyUw24.shape fu (up (ls.drop k)) = some rest ∧ (∀ c ∈ rest, ∃ x, Uw24Neutral.callOf (head c) = some x) ∧ G ++ due n rest = PyUw24.answers (up ls) ∧ m = ls.length - k,
      ⟨ls.length, 0, raw, (up ls).length, Uw24.init, p, b, t, [], none, none, none, none, none, none, rfl, s2.seq (s1.seq hS), hd1.same s2, .init, e2, rb0, rt0, Nat.zero_le _, hraw, hcalls, hdue.symm, rfl⟩, ?_⟩
    rintro m σ H3 ⟨k, rest, fu, n, p, b, t, G, y4, y5, y6, y7, y8, y9, rfl, hA, hD, o, hG, rb, rt, hk, hrest, hxs, hsum, rfl⟩
    have lm : (ls.map nv).length = ls.length := List.length_map _
    refine ⟨_, rfl, _, rfl, a, _, rfl, .inl hA, _, _, rfl, rfl, _, rfl, ite2 (fun c => ?_) fun c => ?_⟩
    · have kl : k < ls.length := by
        have := of_decide_eq_true c
        omega
      obtain ⟨kind, hkind⟩ : ∃ kind, ls[k]? = some kind := ⟨_, List.getElem?_eq_getElem kl⟩
      have hdrop : ls.drop k = kind :: ls.drop (k + 1) := by
        rw [List.drop_eq_getElem_cons kl]
        rw [List.getElem?_eq_getElem kl] at hkind
        rw [Option.some.inj hkind]
      rw [hdrop] at hrest
      obtain ⟨fu', cc, tt, cs, hone, hrest', rfl⟩ := calls_cons hrest
      obtain ⟨x, hx⟩ := hxs cc List.mem_cons_self
      have one := one_call hone hx
      rw [due_cons hx] at hsum
      have total := congrArg List.length hsum
      rw [List.length_append, List.length_cons, List.length_append] at total
      -- what the turn must reach
      refine ⟨fun σ' H' => ∃ m', m' < ls.length - k ∧ ∃ (k : Nat) (rest : List (List (List Int))) (fu : Nat) (n : Net) (p b t : Addr) (G : List Int) (y4 y5 y6 y7 y8 y9 : Option V),
        σ' = [some (.ref a), some (.ref d), some (.ref r), some (nv k), y4, y5, y6, y7, y8, y9] ∧ SqL K H' a (ls.map nv) ∧ DeskAt CP CD H' d n p b t ∧ Ok n ∧ IntL H' r G ∧ r ≠ b ∧ r ≠ t ∧ k ≤ ls.length ∧
        PyFlat.calls PyUw24.shape fu (up (ls.drop k)) = some rest ∧ (∀ c ∈ rest, ∃ x, Uw24Neutral.callOf (head c) = some x) ∧ G ++ due n rest = PyUw24.answers (up ls) ∧ m' = ls.length - k, fun _ _ h => h, ?_⟩
      have atk : atI (ls.map nv) (k : Int) = some (nv kind) := atI_nat (by rw [List.getElem?_map, hkind]; rfl)
      -- from the answered call on
      have after : ∀ (wp kp : Addr) (ws ks : List Nat) (k2 : Nat) (H4 : Hp) (y8 : Option V), Same H3 H4 → IL H4 wp ws → SqL K H4 kp (ks.map nv) → ks.length ≤ 1000 → Says kind ws ks x → k < k2 → k2 ≤ ls.length → tt = up (ls.drop k2) →
          tSeq (tAsg (tCall (spAnswered CP CD K) [] E0 (tCons (tVar 1) (tCons (tVar 4) (tCons (tVar 6) (tCons (tVar 7) tNil))))) (gName 9))
            (tSeq (tDrop (tBM K "list" rAppend (tVar 2) (tCons (tCB (fun xs H Q => ∃ p ys, xs = [.ref p] ∧ (SqL K H p ys ∨ SqT K H p ys) ∧ Q (.int ys.length) H) (tCons (tVar 9) tNil)) tNil)))
            (tSeq (tDrop (tBM K "list" rExtend (tVar 2) (tCons (tVar 9) tNil))) (tAsg (tVar 5) (gName 3))))
            { nx := fun σ' H' => ∃ m', m' < ls.length - k ∧ ∃ (k : Nat) (rest : List (List (List Int))) (fu : Nat) (n : Net) (p b t : Addr) (G : List Int) (y4 y5 y6 y7 y8 y9 : Option V),
                σ' = [some (.ref a), some (.ref d), some (.ref r), some (nv k), y4, y5, y6, y7, y8, y9] ∧ SqL K H' a (ls.map nv) ∧ DeskAt CP CD H' d n p b t ∧ Ok n ∧ IntL H' r G ∧ r ≠ b ∧ r ≠ t ∧ k ≤ ls.length ∧
                PyFlat.calls PyUw24.shape fu (up (ls.drop k)) = some rest ∧ (∀ c ∈ rest, ∃ x, Uw24Neutral.callOf (head c) = some x) ∧ G ++ due n rest = PyUw24.answers (up ls) ∧ m' = ls.length - k, rt := Q, bk := fun _ _ => False, ct := fun _ _ => False }
            [some (.ref a), some (.ref d), some (.ref r), some (nv k), some (nv kind), some (nv k2), some (.ref wp), some (.ref kp), y8, y9] H4 := by
        intro wp kp ws ks k2 H4 y8 s4 hw hkp hks says kk2 k2l ett
        have hD4 := hD.same s4
        have hA4 := s4.seq hA
        have hG4 : IntL H4 r G := s4 _ _ hG
        obtain ⟨ddx4, hi4⟩ := hD4.ins
        obtain ⟨pdx4, hp4⟩ := hD4.pc.ins
        refine ⟨_, rfl, _, rfl, _, rfl, _, rfl, d, p, b, t, wp, kp, n, kind, ws, ks, x, rfl, hD4, o, hw, hkp, hks, says, fun H5 u p' b' t' nu nb nt hD5 hu fr => ?_⟩
        have hA5 := SqL.keep hA4 hi4 hp4 fr
        have hG5 : IntL H5 r G := fr _ _ hG4 (ne_of hG4 hi4 (fun z => by cases z)) (ne_of hG4 hp4 (fun z => by cases z))
        have ru : r ≠ u := ne_of_none hG4 nu
        have rb5 : r ≠ b' := by
          rcases nb with rfl | nb
          · exact rb
          · exact ne_of_none hG4 nb
        have rt5 : r ≠ t' := by
          rcases nt with rfl | nt
          · exact rt
          · exact ne_of_none hG4 nt
        generalize hout : Uw24Neutral.out (Uw24.step n x).2 = A at hu hsum total
        have gl : (G.map V.int).length = G.length := List.length_map _
        have al : (A.map V.int).length = A.length := List.length_map _
        refine ⟨_, rfl, .inl ⟨rfl, _, SqL.of hG5⟩, _, rfl, u, _, rfl, .inl (SqL.of hu), r, _, _, rfl, rfl, hG5, by omega, ?_⟩
        have e6 : (upd H5 r (.lst (G.map V.int ++ [.int ((A.map V.int).length : Nat)]))) r = some (.lst (G.map V.int ++ [.int ((A.map V.int).length : Nat)])) := upd_same
        have u6 : IntL (upd H5 r (.lst (G.map V.int ++ [.int ((A.map V.int).length : Nat)]))) u A := by
          show upd H5 r _ u = _
          rw [upd_ne ru.symm]
          exact hu
        have hA6 := keepA _ (.lst (G.map V.int ++ [.int ((A.map V.int).length : Nat)])) hA5
        have hD6 := hD5.off (o := .lst (G.map V.int ++ [.int ((A.map V.int).length : Nat)])) hG5 rb5 rt5
        generalize upd H5 r (.lst (G.map V.int ++ [.int ((A.map V.int).length : Nat)])) = H6 at e6 u6 hA6 hD6 ⊢
        refine ⟨_, rfl, .inl ⟨rfl, _, SqL.of e6⟩, _, rfl, r, u, _, _, rfl, rfl, e6, u6, ?_, ?_⟩
        · rw [List.length_append, List.length_singleton]
          omega
        · refine ⟨_, rfl, ls.length - k2, by omega, k2, cs, fu', _, p', b', t', G ++ ((A.length : Nat) : Int) :: A, _, _, _, _, _, _, rfl, keepA _ _ hA6, hD6.off e6 rb5 rt5, step_ok o x, ?_, rb5, rt5, k2l, ?_, fun c hc => hxs c (List.mem_cons_of_mem _ hc), ?_, rfl⟩
          · show upd H6 r _ r = _
            rw [upd_same, al, List.map_append, List.append_assoc]
            rfl
          · rw [← ett]
            exact hrest'
          · rw [List.append_assoc]
            exact hsum
      have hr1 : ∀ i v, (ls.drop (k + 1))[i]? = some v → atI (ls.map nv) ((k + 1 + i : Nat) : Int) = some (nv v) := fun i v h => by
        rw [List.getElem?_drop] at h
        exact atI_nat (by rw [List.getElem?_map, h]; rfl)
      have dl : (ls.drop (k + 1)).length = ls.length - (k + 1) := List.length_drop
      cases one with
      | plain n' h5 hW hn ht hs =>
        have aw : atI (([2, 1, 1, 1, 0, 0, 0] : List Nat).map nv) (kind : Int) = some (nv n') := atI_nat (by rw [List.getElem?_map, show ([2, 1, 1, 1, 0, 0, 0] : List Nat)[kind]? = some n' from hW]; rfl)
        refine ⟨_, rfl, _, rfl, a, _, _, _, rfl, rfl, hA, atk, ?_⟩
        refine ⟨_, rfl, _, _, rfl, rfl, _, rfl, wa, _, _, _, rfl, rfl, sw _, aw, _, _, rfl, rfl, ?_⟩
        refine ⟨_, rfl, _, rfl, _, _, rfl, rfl, _, rfl, _, rfl, _, rfl, a, _, rfl, hA, fun wp nwp => ?_⟩
        dsimp only
        rw [show ((k : Int) + 1 + (n' : Int)) = ((k + 1 + n' : Nat) : Int) by omega, show ((k : Int) + 1) = ((k + 1 : Nat) : Int) by omega, cut_part, ← List.map_drop, ← List.map_take, show k + 1 + n' - (k + 1) = n' by omega]
        have s4 : Same H3 (upd H3 wp (.lst (((ls.drop (k + 1)).take n').map nv))) := Same.add _ nwp
        have e4 : IL (upd H3 wp (.lst (((ls.drop (k + 1)).take n').map nv))) wp ((ls.drop (k + 1)).take n') := upd_same
        generalize upd H3 wp (.lst (((ls.drop (k + 1)).take n').map nv)) = H4 at s4 e4 ⊢
        refine ⟨Nat.zero_le _, fun kp nkp => ?_⟩
        have s5 : Same H4 (upd H4 kp (.lst [])) := Same.add _ nkp
        have e5 : IL (upd H4 kp (.lst [])) kp [] := upd_same
        generalize upd H4 kp (.lst []) = H5 at s5 e5 ⊢
        refine ⟨_, rfl, rfl, _, rfl, ite2 (fun c5 => ?_) fun _ => ?_⟩
        · exfalso
          have := V.int.inj (of_decide_eq_true c5)
          omega
        · exact after wp kp _ [] (k + 1 + n') H5 y8 (s4.trans s5) (s5 _ _ e4) (SqL.of e5) (by simp) hs (by omega) (by omega) (by rw [ht, List.drop_drop])
      | row mm r2 h5 hr2 hm ht hs h30 =>
        subst h5
        have aw : atI (([2, 1, 1, 1, 0, 0, 0] : List Nat).map nv) ((5 : Nat) : Int) = some (nv 0) := atI_nat (j := 5) rfl
        have hd2 : ls.drop (k + 2) = r2 := by
          have := congrArg (List.drop 1) hr2
          rw [List.drop_drop] at this
          exact this
        have l2 : r2.length + (k + 2) = ls.length := by
          have := congrArg List.length hr2
          rw [dl, List.length_cons] at this
          omega
        have am : atI (ls.map nv) ((k + 1 : Nat) : Int) = some (nv mm) := hr1 0 mm (by rw [hr2]; rfl)
        refine ⟨_, rfl, _, rfl, a, _, _, _, rfl, rfl, hA, atk, ?_⟩
        refine ⟨_, rfl, _, _, rfl, rfl, _, rfl, wa, _, _, _, rfl, rfl, sw _, aw, _, _, rfl, rfl, ?_⟩
        refine ⟨_, rfl, _, rfl, _, _, rfl, rfl, _, rfl, _, rfl, _, rfl, a, _, rfl, hA, fun wp nwp => ?_⟩
        dsimp only
        rw [show ((k : Int) + 1 + ((0 : Nat) : Int)) = ((k + 1 : Nat) : Int) by omega, show ((k : Int) + 1) = ((k + 1 : Nat) : Int) by omega, cut_part, ← List.map_drop, ← List.map_take, show k + 1 - (k + 1) = 0 by omega, List.take_zero]
        have s4 : Same H3 (upd H3 wp (.lst (([] : List Nat).map nv))) := Same.add _ nwp
        have e4 : IL (upd H3 wp (.lst (([] : List Nat).map nv))) wp [] := upd_same
        generalize upd H3 wp (.lst (([] : List Nat).map nv)) = H4 at s4 e4 ⊢
        refine ⟨Nat.zero_le _, fun kp0 nkp0 => ?_⟩
        have s5 : Same H4 (upd H4 kp0 (.lst [])) := Same.add _ nkp0
        generalize upd H4 kp0 (.lst []) = H5 at s5 ⊢
        have hA5 := s5.seq (s4.seq hA)
        refine ⟨_, rfl, rfl, _, rfl, ?_⟩
        refine ⟨_, rfl, _, _, rfl, rfl, ?_⟩
        refine ⟨_, rfl, _, rfl, _, rfl, a, _, _, _, rfl, rfl, hA5, am, _, _, rfl, rfl, ?_⟩
        refine ⟨_, rfl, _, rfl, _, rfl, _, rfl, _, rfl, a, _, rfl, hA5, fun kp nkp => ?_⟩
        dsimp only
        rw [show (((k + 1 : Nat) : Int) + 1 + (mm : Int)) = ((k + 2 + mm : Nat) : Int) by omega, show (((k + 1 : Nat) : Int) + 1) = ((k + 2 : Nat) : Int) by omega, cut_part, ← List.map_drop, ← List.map_take, show k + 2 + mm - (k + 2) = mm by omega, hd2]
        have s6 : Same H5 (upd H5 kp (.lst ((r2.take mm).map nv))) := Same.add _ nkp
        have e6 : IL (upd H5 kp (.lst ((r2.take mm).map nv))) kp (r2.take mm) := upd_same
        generalize upd H5 kp (.lst ((r2.take mm).map nv)) = H6 at s6 e6 ⊢
        exact after wp kp [] (r2.take mm) (k + 2 + mm) H6 (some (nv (k + 2))) (s4.trans (s5.trans s6)) (s6 _ _ (s5 _ _ e4)) (SqL.of e6) (by omega) hs (by omega) (by omega) (by rw [ht, ← hd2, List.drop_drop])
    · have ck : k = ls.length := by
        have : ¬ (k : Int) < ((ls.map nv).length : Int) := fun z => c (decide_eq_true z)
        omega
      subst ck
      rw [List.drop_length] at hrest
      have := calls_nil hrest
      subst this
      rw [due_nil, List.append_nil] at hsum
      exact ⟨_, rfl, q _ r (by rw [← hsum]; exact hG)⟩
end
end Nm

namespace Nm
open PySem PySem.Spec PyProof.Rows L2
open PySem.W (Codec)
/-! ### the end: what the top has written -/
theorem sets_none {P : Program} {w : World} {K : PySem.W.Frag} {mg : Str → Option Value} {base : Heap} {f : Addr} {fd : FuncData} {ps : List Str} : FnOk P w K mg base CX0 0 f fd ps (spSetsOf 0) := by
  have no : ∀ vs H Q E, ¬ spSetsOf 0 vs H Q E := fun vs H Q E h => by
    obtain ⟨p, l, m, _, _, _, h1, _⟩ := h
    omega
  exact ⟨fun vs H Q E h => absurd h (no vs H Q E), fun _ _ _ H _ _ vs Q E _ _ _ _ h => absurd h (no vs H Q E)⟩
theorem all_mk {P : Program} {w : World} {K : PySem.W.Frag} {h : Heap} {mg : Str → Option Value} {fa CP CD wa : Addr} (X : K.In h) (G : h.Ns mainGlobals mg) (hfa : mg "answers" = some (.ref fa))
    {od1 an1 : Option Addr} {sl1 : Array (Option Value)} {oc1 kV1 dc1 pm1 cd1 ct1 : Value} {f1 : Addr}
    {od2 an2 : Option Addr} {sl2 : Array (Option Value)} {oc2 kV2 dc2 pm2 cd2 ct2 : Value} {f2 : Addr}
    {od3 an3 : Option Addr} {sl3 : Array (Option Value)} {oc3 kV3 dc3 pm3 cd3 ct3 : Value} {f3 : Addr}
    {od4 an4 : Option Addr} {sl4 : Array (Option Value)} {oc4 kV4 dc4 pm4 cd4 ct4 : Value} {f4 : Addr}
    {od5 an5 : Option Addr} {sl5 : Array (Option Value)} {oc5 kV5 dc5 pm5 cd5 ct5 : Value} {f5 : Addr}
    {od6 an6 : Option Addr} {sl6 : Array (Option Value)} {oc6 kV6 dc6 pm6 cd6 ct6 : Value} {f6 : Addr}
    {od7 an7 : Option Addr} {sl7 : Array (Option Value)} {oc7 kV7 dc7 pm7 cd7 ct7 : Value} {f7 : Addr}
    {od8 an8 : Option Addr} {sl8 : Array (Option Value)} {oc8 kV8 dc8 pm8 cd8 ct8 : Value} {f8 : Addr}
    {od9 an9 : Option Addr} {sl9 : Array (Option Value)} {oc9 kV9 dc9 pm9 cd9 ct9 : Value} {f9 : Addr}
    {od10 an10 : Option Addr} {sl10 : Array (Option Value)} {oc10 kV10 dc10 pm10 cd10 ct10 : Value} {f10 : Addr}
    {od11 an11 : Option Addr} {sl11 : Array (Option Value)} {oc11 kV11 dc11 pm11 cd11 ct11 : Value} {f11 : Addr}
    {od12 an12 : Option Addr} {sl12 : Array (Option Value)} {oc12 kV12 dc12 pm12 cd12 ct12 : Value} {f12 : Addr}
    {od13 an13 : Option Addr} {sl13 : Array (Option Value)} {oc13 kV13 dc13 pm13 cd13 ct13 : Value} {f13 : Addr}
    {od14 an14 : Option Addr} {sl14 : Array (Option Value)} {oc14 kV14 dc14 pm14 cd14 ct14 : Value} {f14 : Addr}
    {od15 an15 : Option Addr} {sl15 : Array (Option Value)} {oc15 kV15 dc15 pm15 cd15 ct15 : Value} {f15 : Addr}
    {od16 an16 : Option Addr} {sl16 : Array (Option Value)} {oc16 kV16 dc16 pm16 cd16 ct16 : Value} {f16 : Addr}
    {od17 an17 : Option Addr} {sl17 : Array (Option Value)} {oc17 kV17 dc17 pm17 cd17 ct17 : Value} {f17 : Addr}
    {od18 an18 : Option Addr} {sl18 : Array (Option Value)} {oc18 kV18 dc18 pm18 cd18 ct18 : Value} {f18 : Addr}
    {od19 an19 : Option Addr} {sl19 : Array (Option Value)} {oc19 kV19 dc19 pm19 cd19 ct19 : Value} {f19 : Addr}
    {od20 an20 : Option Addr} {sl20 : Array (Option Value)} {oc20 kV20 dc20 pm20 cd20 ct20 : Value} {f20 : Addr}
    {od21 an21 : Option Addr} {sl21 : Array (Option Value)} {oc21 kV21 dc21 pm21 cd21 ct21 : Value} {f21 : Addr}
    {od22 an22 : Option Addr} {sl22 : Array (Option Value)} {oc22 kV22 dc22 pm22 cd22 ct22 : Value} {f22 : Addr}
    {od23 an23 : Option Addr} {sl23 : Array (Option Value)} {oc23 kV23 dc23 pm23 cd23 ct23 : Value} {f23 : Addr}
    {od24 an24 : Option Addr} {sl24 : Array (Option Value)} {oc24 kV24 dc24 pm24 cd24 ct24 : Value} {f24 : Addr}
    {od25 an25 : Option Addr} {sl25 : Array (Option Value)} {oc25 kV25 dc25 pm25 cd25 ct25 : Value} {f25 : Addr}
    {od26 an26 : Option Addr} {sl26 : Array (Option Value)} {oc26 kV26 dc26 pm26 cd26 ct26 : Value} {f26 : Addr}
    {od27 an27 : Option Addr} {sl27 : Array (Option Value)} {oc27 kV27 dc27 pm27 cd27 ct27 : Value} {f27 : Addr}
    {odP anP : Option Addr} {slP : Array (Option Value)} {ocP kVP dcP pmP cdP ctP : Value} {fP : Addr}
    {odD anD : Option Addr} {slD : Array (Option Value)} {ocD kVD dcD pmD cdD ctD : Value} {fD : Addr}
    {t_least t_most t_mostTorn t_mostCut t_notRight t_noBar t_soAlready t_full t_cannot t_check w0 w1 w2 w3 w4 w5 w6 : Tok} {odW : Option Addr} {nW : Nat} {slW : Array (Option Value)}
    (a1 : PySem.W.nsIn K mainGlobals "bars_of" = some (some (.ref f1)))
    (l1 : K.lookup f1 = some ⟨oc1, od1, .func (PySem.W.fnOf "bars_of" "bars_of" (defArgs sBarsOf) (defBody sBarsOf) (defScope sBarsOf) .none kV1 dc1 pm1 an1 cd1 ct1), sl1⟩)
    (c1 : PySem.W.codeIn K cd1 "bars_of" = true)
    (k1 : PySem.W.keepIn K (.ref f1) = true)
    (a2 : PySem.W.nsIn K mainGlobals "is_piece" = some (some (.ref f2)))
    (l2 : K.lookup f2 = some ⟨oc2, od2, .func (PySem.W.fnOf "is_piece" "is_piece" (defArgs sIsPiece) (defBody sIsPiece) (defScope sIsPiece) .none kV2 dc2 pm2 an2 cd2 ct2), sl2⟩)
    (c2 : PySem.W.codeIn K cd2 "is_piece" = true)
    (k2 : PySem.W.keepIn K (.ref f2) = true)
    (a3 : PySem.W.nsIn K mainGlobals "how_many_knots" = some (some (.ref f3)))
    (l3 : K.lookup f3 = some ⟨oc3, od3, .func (PySem.W.fnOf "how_many_knots" "how_many_knots" (defArgs sKnots) (defBody sKnots) (defScope sKnots) .none kV3 dc3 pm3 an3 cd3 ct3), sl3⟩)
    (c3 : PySem.W.codeIn K cd3 "how_many_knots" = true)
    (k3 : PySem.W.keepIn K (.ref f3) = true)
    (a4 : PySem.W.nsIn K mainGlobals "degrees" = some (some (.ref f4)))
    (l4 : K.lookup f4 = some ⟨oc4, od4, .func (PySem.W.fnOf "degrees" "degrees" (defArgs sDegrees) (defBody sDegrees) (defScope sDegrees) .none kV4 dc4 pm4 an4 cd4 ct4), sl4⟩)
    (c4 : PySem.W.codeIn K cd4 "degrees" = true)
    (k4 : PySem.W.keepIn K (.ref f4) = true)
    (a5 : PySem.W.nsIn K mainGlobals "odd_knots" = some (some (.ref f5)))
    (l5 : K.lookup f5 = some ⟨oc5, od5, .func (PySem.W.fnOf "odd_knots" "odd_knots" (defArgs sOddKnots) (defBody sOddKnots) (defScope sOddKnots) .none kV5 dc5 pm5 an5 cd5 ct5), sl5⟩)
    (c5 : PySem.W.codeIn K cd5 "odd_knots" = true)
    (k5 : PySem.W.keepIn K (.ref f5) = true)
    (a6 : PySem.W.nsIn K mainGlobals "reached_from" = some (some (.ref f6)))
    (l6 : K.lookup f6 = some ⟨oc6, od6, .func (PySem.W.fnOf "reached_from" "reached_from" (defArgs sReached) (defBody sReached) (defScope sReached) .none kV6 dc6 pm6 an6 cd6 ct6), sl6⟩)
    (c6 : PySem.W.codeIn K cd6 "reached_from" = true)
    (k6 : PySem.W.keepIn K (.ref f6) = true)
    (a7 : PySem.W.nsIn K mainGlobals "are_joined" = some (some (.ref f7)))
    (l7 : K.lookup f7 = some ⟨oc7, od7, .func (PySem.W.fnOf "are_joined" "are_joined" (defArgs sAreJoined) (defBody sAreJoined) (defScope sAreJoined) .none kV7 dc7 pm7 an7 cd7 ct7), sl7⟩)
    (c7 : PySem.W.codeIn K cd7 "are_joined" = true)
    (k7 : PySem.W.keepIn K (.ref f7) = true)
    (a8 : PySem.W.nsIn K mainGlobals "can_go_from" = some (some (.ref f8)))
    (l8 : K.lookup f8 = some ⟨oc8, od8, .func (PySem.W.fnOf "can_go_from" "can_go_from" (defArgs sCanGo) (defBody sCanGo) (defScope sCanGo) .none kV8 dc8 pm8 an8 cd8 ct8), sl8⟩)
    (c8 : PySem.W.codeIn K cd8 "can_go_from" = true)
    (k8 : PySem.W.keepIn K (.ref f8) = true)
    (a9 : PySem.W.nsIn K mainGlobals "has_way" = some (some (.ref f9)))
    (l9 : K.lookup f9 = some ⟨oc9, od9, .func (PySem.W.fnOf "has_way" "has_way" (defArgs sHasWay) (defBody sHasWay) (defScope sHasWay) .none kV9 dc9 pm9 an9 cd9 ct9), sl9⟩)
    (c9 : PySem.W.codeIn K cd9 "has_way" = true)
    (k9 : PySem.W.keepIn K (.ref f9) = true)
    (a10 : PySem.W.nsIn K mainGlobals "without" = some (some (.ref f10)))
    (l10 : K.lookup f10 = some ⟨oc10, od10, .func (PySem.W.fnOf "without" "without" (defArgs sWithout) (defBody sWithout) (defScope sWithout) .none kV10 dc10 pm10 an10 cd10 ct10), sl10⟩)
    (c10 : PySem.W.codeIn K cd10 "without" = true)
    (k10 : PySem.W.keepIn K (.ref f10) = true)
    (a11 : PySem.W.nsIn K mainGlobals "steps_from" = some (some (.ref f11)))
    (l11 : K.lookup f11 = some ⟨oc11, od11, .func (PySem.W.fnOf "steps_from" "steps_from" (defArgs sSteps) (defBody sSteps) (defScope sSteps) .none kV11 dc11 pm11 an11 cd11 ct11), sl11⟩)
    (c11 : PySem.W.codeIn K cd11 "steps_from" = true)
    (k11 : PySem.W.keepIn K (.ref f11) = true)
    (a12 : PySem.W.nsIn K mainGlobals "next_knot" = some (some (.ref f12)))
    (l12 : K.lookup f12 = some ⟨oc12, od12, .func (PySem.W.fnOf "next_knot" "next_knot" (defArgs sNext) (defBody sNext) (defScope sNext) .none kV12 dc12 pm12 an12 cd12 ct12), sl12⟩)
    (c12 : PySem.W.codeIn K cd12 "next_knot" = true)
    (k12 : PySem.W.keepIn K (.ref f12) = true)
    (a13 : PySem.W.nsIn K mainGlobals "earliest_way" = some (some (.ref f13)))
    (l13 : K.lookup f13 = some ⟨oc13, od13, .func (PySem.W.fnOf "earliest_way" "earliest_way" (defArgs sEarliest) (defBody sEarliest) (defScope sEarliest) .none kV13 dc13 pm13 an13 cd13 ct13), sl13⟩)
    (c13 : PySem.W.codeIn K cd13 "earliest_way" = true)
    (k13 : PySem.W.keepIn K (.ref f13) = true)
    (a14 : PySem.W.nsIn K mainGlobals "is_way" = some (some (.ref f14)))
    (l14 : K.lookup f14 = some ⟨oc14, od14, .func (PySem.W.fnOf "is_way" "is_way" (defArgs sIsWay) (defBody sIsWay) (defScope sIsWay) .none kV14 dc14 pm14 an14 cd14 ct14), sl14⟩)
    (c14 : PySem.W.codeIn K cd14 "is_way" = true)
    (k14 : PySem.W.keepIn K (.ref f14) = true)
    (a15 : PySem.W.nsIn K mainGlobals "pairs_with" = some (some (.ref f15)))
    (l15 : K.lookup f15 = some ⟨oc15, od15, .func (PySem.W.fnOf "pairs_with" "pairs_with" (defArgs sPairsWith) (defBody sPairsWith) (defScope sPairsWith) .none kV15 dc15 pm15 an15 cd15 ct15), sl15⟩)
    (c15 : PySem.W.codeIn K cd15 "pairs_with" = true)
    (k15 : PySem.W.keepIn K (.ref f15) = true)
    (a16 : PySem.W.nsIn K mainGlobals "sets_of" = some (some (.ref f16)))
    (l16 : K.lookup f16 = some ⟨oc16, od16, .func (PySem.W.fnOf "sets_of" "sets_of" (defArgs sSetsOf) (defBody sSetsOf) (defScope sSetsOf) .none kV16 dc16 pm16 an16 cd16 ct16), sl16⟩)
    (c16 : PySem.W.codeIn K cd16 "sets_of" = true)
    (k16 : PySem.W.keepIn K (.ref f16) = true)
    (a17 : PySem.W.nsIn K mainGlobals "sets_that_do" = some (some (.ref f17)))
    (l17 : K.lookup f17 = some ⟨oc17, od17, .func (PySem.W.fnOf "sets_that_do" "sets_that_do" (defArgs sSetsDo) (defBody sSetsDo) (defScope sSetsDo) .none kV17 dc17 pm17 an17 cd17 ct17), sl17⟩)
    (c17 : PySem.W.codeIn K cd17 "sets_that_do" = true)
    (k17 : PySem.W.keepIn K (.ref f17) = true)
    (a18 : PySem.W.nsIn K mainGlobals "fewest_cuts" = some (some (.ref f18)))
    (l18 : K.lookup f18 = some ⟨oc18, od18, .func (PySem.W.fnOf "fewest_cuts" "fewest_cuts" (defArgs sFewest) (defBody sFewest) (defScope sFewest) .none kV18 dc18 pm18 an18 cd18 ct18), sl18⟩)
    (c18 : PySem.W.codeIn K cd18 "fewest_cuts" = true)
    (k18 : PySem.W.keepIn K (.ref f18) = true)
    (a19 : PySem.W.nsIn K mainGlobals "begins" = some (some (.ref f19)))
    (l19 : K.lookup f19 = some ⟨oc19, od19, .func (PySem.W.fnOf "begins" "begins" (defArgs sBegins) (defBody sBegins) (defScope sBegins) .none kV19 dc19 pm19 an19 cd19 ct19), sl19⟩)
    (c19 : PySem.W.codeIn K cd19 "begins" = true)
    (k19 : PySem.W.keepIn K (.ref f19) = true)
    (a20 : PySem.W.nsIn K mainGlobals "tear" = some (some (.ref f20)))
    (l20 : K.lookup f20 = some ⟨oc20, od20, .func (PySem.W.fnOf "tear" "tear" (defArgs sTear) (defBody sTear) (defScope sTear) .none kV20 dc20 pm20 an20 cd20 ct20), sl20⟩)
    (c20 : PySem.W.codeIn K cd20 "tear" = true)
    (k20 : PySem.W.keepIn K (.ref f20) = true)
    (a21 : PySem.W.nsIn K mainGlobals "mend" = some (some (.ref f21)))
    (l21 : K.lookup f21 = some ⟨oc21, od21, .func (PySem.W.fnOf "mend" "mend" (defArgs sMend) (defBody sMend) (defScope sMend) .none kV21 dc21 pm21 an21 cd21 ct21), sl21⟩)
    (c21 : PySem.W.codeIn K cd21 "mend" = true)
    (k21 : PySem.W.keepIn K (.ref f21) = true)
    (a22 : PySem.W.nsIn K mainGlobals "ends" = some (some (.ref f22)))
    (l22 : K.lookup f22 = some ⟨oc22, od22, .func (PySem.W.fnOf "ends" "ends" (defArgs sEnds) (defBody sEnds) (defScope sEnds) .none kV22 dc22 pm22 an22 cd22 ct22), sl22⟩)
    (c22 : PySem.W.codeIn K cd22 "ends" = true)
    (k22 : PySem.W.keepIn K (.ref f22) = true)
    (a23 : PySem.W.nsIn K mainGlobals "odd" = some (some (.ref f23)))
    (l23 : K.lookup f23 = some ⟨oc23, od23, .func (PySem.W.fnOf "odd" "odd" (defArgs sOdd) (defBody sOdd) (defScope sOdd) .none kV23 dc23 pm23 an23 cd23 ct23), sl23⟩)
    (c23 : PySem.W.codeIn K cd23 "odd" = true)
    (k23 : PySem.W.keepIn K (.ref f23) = true)
    (a24 : PySem.W.nsIn K mainGlobals "check" = some (some (.ref f24)))
    (l24 : K.lookup f24 = some ⟨oc24, od24, .func (PySem.W.fnOf "check" "check" (defArgs sCheck) (defBody sCheck) (defScope sCheck) .none kV24 dc24 pm24 an24 cd24 ct24), sl24⟩)
    (c24 : PySem.W.codeIn K cd24 "check" = true)
    (k24 : PySem.W.keepIn K (.ref f24) = true)
    (a25 : PySem.W.nsIn K mainGlobals "best" = some (some (.ref f25)))
    (l25 : K.lookup f25 = some ⟨oc25, od25, .func (PySem.W.fnOf "best" "best" (defArgs sBest) (defBody sBest) (defScope sBest) .none kV25 dc25 pm25 an25 cd25 ct25), sl25⟩)
    (c25 : PySem.W.codeIn K cd25 "best" = true)
    (k25 : PySem.W.keepIn K (.ref f25) = true)
    (a26 : PySem.W.nsIn K mainGlobals "answered" = some (some (.ref f26)))
    (l26 : K.lookup f26 = some ⟨oc26, od26, .func (PySem.W.fnOf "answered" "answered" (defArgs sAnswered) (defBody sAnswered) (defScope sAnswered) .none kV26 dc26 pm26 an26 cd26 ct26), sl26⟩)
    (c26 : PySem.W.codeIn K cd26 "answered" = true)
    (k26 : PySem.W.keepIn K (.ref f26) = true)
    (a27 : PySem.W.nsIn K mainGlobals "answers" = some (some (.ref f27)))
    (l27 : K.lookup f27 = some ⟨oc27, od27, .func (PySem.W.fnOf "answers" "answers" (defArgs sAnswers) (defBody sAnswers) (defScope sAnswers) .none kV27 dc27 pm27 an27 cd27 ct27), sl27⟩)
    (c27 : PySem.W.codeIn K cd27 "answers" = true)
    (k27 : PySem.W.keepIn K (.ref f27) = true)
    (gP : PySem.W.nsIn K mainGlobals "Piece" = some (some (.ref CP)))
    (aP : PySem.W.findIn K (.ref CP) "__init__" = some (some (.ref fP)))
    (iP : PySem.W.isFn K (.ref fP) = true)
    (lP : K.lookup fP = some ⟨ocP, odP, .func (PySem.W.fnOf "__init__" "Piece.__init__" (defArgs sPInit) (defBody sPInit) (defScope sPInit) .none kVP dcP pmP anP cdP ctP), slP⟩)
    (cP : PySem.W.codeIn K cdP "Piece.__init__" = true)
    (kP : PySem.W.keepIn K (.ref fP) = true)
    (pgP : PySem.W.plainGet K CP Str.empty = true)
    (hdP : PySem.W.hasDictIn K CP = true)
    (poP : PySem.W.plainOver K CP = true)
    (saP : PySem.W.findIn K (.ref CP) "__setattr__" = some (some (.builtin "object.__setattr__")))
    (mkP : PySem.W.makesIn K CP = true)
    (kcP : PySem.W.keepIn K (.ref CP) = true)
    (gD : PySem.W.nsIn K mainGlobals "Desk" = some (some (.ref CD)))
    (aD : PySem.W.findIn K (.ref CD) "__init__" = some (some (.ref fD)))
    (iD : PySem.W.isFn K (.ref fD) = true)
    (lD : K.lookup fD = some ⟨ocD, odD, .func (PySem.W.fnOf "__init__" "Desk.__init__" (defArgs sDInit) (defBody sDInit) (defScope sDInit) .none kVD dcD pmD anD cdD ctD), slD⟩)
    (cD : PySem.W.codeIn K cdD "Desk.__init__" = true)
    (kD : PySem.W.keepIn K (.ref fD) = true)
    (pgD : PySem.W.plainGet K CD Str.empty = true)
    (hdD : PySem.W.hasDictIn K CD = true)
    (poD : PySem.W.plainOver K CD = true)
    (saD : PySem.W.findIn K (.ref CD) "__setattr__" = some (some (.builtin "object.__setattr__")))
    (mkD : PySem.W.makesIn K CD = true)
    (kcD : PySem.W.keepIn K (.ref CD) = true)
    (npW : PySem.W.findIn K (.ref CP) "wide" = some none)
    (npH : PySem.W.findIn K (.ref CP) "high" = some none)
    (npB : PySem.W.findIn K (.ref CP) "bars" = some none)
    (npT : PySem.W.findIn K (.ref CP) "torn" = some none)
    (ndP : PySem.W.findIn K (.ref CD) "piece" = some none)
    (z_range : PySem.W.nsIn K mainGlobals "range" = some none)
    (z_len : PySem.W.nsIn K mainGlobals "len" = some none)
    (z_min : PySem.W.nsIn K mainGlobals "min" = some none)
    (z_max : PySem.W.nsIn K mainGlobals "max" = some none)
    (z_sorted : PySem.W.nsIn K mainGlobals "sorted" = some none)
    (z_list : PySem.W.nsIn K mainGlobals "list" = some none)
    (z_int : PySem.W.nsIn K mainGlobals "int" = some none)
    (q_least : PySem.W.nsIn K mainGlobals "LEAST" = some (some (.int 2 t_least)))
    (q_most : PySem.W.nsIn K mainGlobals "MOST" = some (some (.int 4 t_most)))
    (q_mostTorn : PySem.W.nsIn K mainGlobals "MOST_TORN" = some (some (.int 8 t_mostTorn)))
    (q_mostCut : PySem.W.nsIn K mainGlobals "MOST_CUT" = some (some (.int 4 t_mostCut)))
    (q_notRight : PySem.W.nsIn K mainGlobals "NOT_RIGHT" = some (some (.int (-1) t_notRight)))
    (q_noBar : PySem.W.nsIn K mainGlobals "NO_BAR" = some (some (.int (-2) t_noBar)))
    (q_soAlready : PySem.W.nsIn K mainGlobals "SO_ALREADY" = some (some (.int (-4) t_soAlready)))
    (q_full : PySem.W.nsIn K mainGlobals "FULL" = some (some (.int (-5) t_full)))
    (q_cannot : PySem.W.nsIn K mainGlobals "CANNOT" = some (some (.int (-6) t_cannot)))
    (q_check : PySem.W.nsIn K mainGlobals "CHECK" = some (some (.int 5 t_check)))
    (gW : PySem.W.nsIn K mainGlobals "WHOLES" = some (some (.ref wa)))
    (lW : K.lookup wa = some ⟨.type "tuple", odW, .seq #[.int 2 w0, .int 1 w1, .int 1 w2, .int 1 w3, .int 0 w4, .int 0 w5, .int 0 w6] nW, slW⟩)
    : ∃ fd : FuncData, (∀ (s : Shared) (us : List Value), us.length = (["calls"] : List Str).length → BindsTo s fd ⟨us, []⟩ ((["calls"] : List Str).zip us)) ∧ ∀ base : Heap, K.In base → base.Ns mainGlobals mg → FnOk P w K mg base CX0 10 fa fd ["calls"] (spAnswers K) := by
  have e := hfa.symm.trans (PySem.W.mg_of X G a27)
  cases e
  have T : Tx K mg CP CD := { cp := ⟨pgP, hdP, poP, saP⟩, cd := ⟨pgD, hdD, poD, saD⟩, pW := npW, pH := npH, pB := npB, pT := npT, dP := ndP, gP := PySem.W.mg_of X G gP, gD := PySem.W.mg_of X G gD, range := PySem.W.mg_none_of X G z_range, len := PySem.W.mg_none_of X G z_len, min := PySem.W.mg_none_of X G z_min, max := PySem.W.mg_none_of X G z_max, sorted := PySem.W.mg_none_of X G z_sorted, list := PySem.W.mg_none_of X G z_list, int := PySem.W.mg_none_of X G z_int, least := ⟨_, PySem.W.mg_of X G q_least⟩, most := ⟨_, PySem.W.mg_of X G q_most⟩, mostTorn := ⟨_, PySem.W.mg_of X G q_mostTorn⟩, mostCut := ⟨_, PySem.W.mg_of X G q_mostCut⟩, notRight := ⟨_, PySem.W.mg_of X G q_notRight⟩, noBar := ⟨_, PySem.W.mg_of X G q_noBar⟩, soAlready := ⟨_, PySem.W.mg_of X G q_soAlready⟩, full := ⟨_, PySem.W.mg_of X G q_full⟩, cannot := ⟨_, PySem.W.mg_of X G q_cannot⟩, check := ⟨_, PySem.W.mg_of X G q_check⟩, wholes := ⟨wa, PySem.W.mg_of X G gW, fun H => .inr ⟨_, _, _, lW, rfl, rfl, (by show 7 ≤ sizeLine; decide), .cons ⟨_, rfl⟩ (.cons ⟨_, rfl⟩ (.cons ⟨_, rfl⟩ (.cons ⟨_, rfl⟩ (.cons ⟨_, rfl⟩ (.cons ⟨_, rfl⟩ (.cons ⟨_, rfl⟩ .nil))))))⟩⟩ }
  have F1 := fun_mk (st := sBarsOf) l1 c1 k1
  have b1 := F1.binds (ps := ["wide", "high"]) fun _ _ _ _ _ _ us hl => match us, hl with | [_, _], _ => rfl
  have F2 := fun_mk (st := sIsPiece) l2 c2 k2
  have b2 := F2.binds (ps := ["wide", "high"]) fun _ _ _ _ _ _ us hl => match us, hl with | [_, _], _ => rfl
  have F3 := fun_mk (st := sKnots) l3 c3 k3
  have b3 := F3.binds (ps := ["piece"]) fun _ _ _ _ _ _ us hl => match us, hl with | [_], _ => rfl
  have F4 := fun_mk (st := sDegrees) l4 c4 k4
  have b4 := F4.binds (ps := ["pairs", "many"]) fun _ _ _ _ _ _ us hl => match us, hl with | [_, _], _ => rfl
  have F5 := fun_mk (st := sOddKnots) l5 c5 k5
  have b5 := F5.binds (ps := ["pairs", "many"]) fun _ _ _ _ _ _ us hl => match us, hl with | [_, _], _ => rfl
  have F6 := fun_mk (st := sReached) l6 c6 k6
  have b6 := F6.binds (ps := ["pairs", "start"]) fun _ _ _ _ _ _ us hl => match us, hl with | [_, _], _ => rfl
  have F7 := fun_mk (st := sAreJoined) l7 c7 k7
  have b7 := F7.binds (ps := ["pairs", "start"]) fun _ _ _ _ _ _ us hl => match us, hl with | [_, _], _ => rfl
  have F8 := fun_mk (st := sCanGo) l8 c8 k8
  have b8 := F8.binds (ps := ["pairs", "many", "start"]) fun _ _ _ _ _ _ us hl => match us, hl with | [_, _, _], _ => rfl
  have F9 := fun_mk (st := sHasWay) l9 c9 k9
  have b9 := F9.binds (ps := ["pairs", "many"]) fun _ _ _ _ _ _ us hl => match us, hl with | [_, _], _ => rfl
  have F10 := fun_mk (st := sWithout) l10 c10 k10
  have b10 := F10.binds (ps := ["pairs", "one", "other"]) fun _ _ _ _ _ _ us hl => match us, hl with | [_, _, _], _ => rfl
  have F11 := fun_mk (st := sSteps) l11 c11 k11
  have b11 := F11.binds (ps := ["pairs", "knot"]) fun _ _ _ _ _ _ us hl => match us, hl with | [_, _], _ => rfl
  have F12 := fun_mk (st := sNext) l12 c12 k12
  have b12 := F12.binds (ps := ["pairs", "many", "knot"]) fun _ _ _ _ _ _ us hl => match us, hl with | [_, _, _], _ => rfl
  have F13 := fun_mk (st := sEarliest) l13 c13 k13
  have b13 := F13.binds (ps := ["pairs", "many"]) fun _ _ _ _ _ _ us hl => match us, hl with | [_, _], _ => rfl
  have F14 := fun_mk (st := sIsWay) l14 c14 k14
  have b14 := F14.binds (ps := ["pairs", "knots"]) fun _ _ _ _ _ _ us hl => match us, hl with | [_, _], _ => rfl
  have F15 := fun_mk (st := sPairsWith) l15 c15 k15
  have b15 := F15.binds (ps := ["piece", "cut"]) fun _ _ _ _ _ _ us hl => match us, hl with | [_, _], _ => rfl
  have F16 := fun_mk (st := sSetsOf) l16 c16 k16
  have b16 := F16.binds (ps := ["some", "many"]) fun _ _ _ _ _ _ us hl => match us, hl with | [_, _], _ => rfl
  have F17 := fun_mk (st := sSetsDo) l17 c17 k17
  have b17 := F17.binds (ps := ["piece", "many"]) fun _ _ _ _ _ _ us hl => match us, hl with | [_, _], _ => rfl
  have F18 := fun_mk (st := sFewest) l18 c18 k18
  have b18 := F18.binds (ps := ["piece"]) fun _ _ _ _ _ _ us hl => match us, hl with | [_], _ => rfl
  have F19 := fun_mk (st := sBegins) l19 c19 k19
  have b19 := F19.binds (ps := ["desk", "wide", "high"]) fun _ _ _ _ _ _ us hl => match us, hl with | [_, _, _], _ => rfl
  have F20 := fun_mk (st := sTear) l20 c20 k20
  have b20 := F20.binds (ps := ["piece", "bar"]) fun _ _ _ _ _ _ us hl => match us, hl with | [_, _], _ => rfl
  have F21 := fun_mk (st := sMend) l21 c21 k21
  have b21 := F21.binds (ps := ["piece", "bar"]) fun _ _ _ _ _ _ us hl => match us, hl with | [_, _], _ => rfl
  have F22 := fun_mk (st := sEnds) l22 c22 k22
  have b22 := F22.binds (ps := ["piece", "bar"]) fun _ _ _ _ _ _ us hl => match us, hl with | [_, _], _ => rfl
  have F23 := fun_mk (st := sOdd) l23 c23 k23
  have b23 := F23.binds (ps := ["piece"]) fun _ _ _ _ _ _ us hl => match us, hl with | [_], _ => rfl
  have F24 := fun_mk (st := sCheck) l24 c24 k24
  have b24 := F24.binds (ps := ["piece", "knots"]) fun _ _ _ _ _ _ us hl => match us, hl with | [_, _], _ => rfl
  have F25 := fun_mk (st := sBest) l25 c25 k25
  have b25 := F25.binds (ps := ["piece"]) fun _ _ _ _ _ _ us hl => match us, hl with | [_], _ => rfl
  have F26 := fun_mk (st := sAnswered) l26 c26 k26
  have b26 := F26.binds (ps := ["desk", "kind", "wholes", "knots"]) fun _ _ _ _ _ _ us hl => match us, hl with | [_, _, _, _], _ => rfl
  have F27 := fun_mk (st := sAnswers) l27 c27 k27
  have b27 := F27.binds (ps := ["calls"]) fun _ _ _ _ _ _ us hl => match us, hl with | [_], _ => rfl
  have FP := fun_mk (st := sPInit) lP cP kP
  have bP := FP.binds (ps := ["self", "wide", "high"]) fun _ _ _ _ _ _ us hl => match us, hl with | [_, _, _], _ => rfl
  have FD := fun_mk (st := sDInit) lD cD kD
  have bD := FD.binds (ps := ["self"]) fun _ _ _ _ _ _ us hl => match us, hl with | [_], _ => rfl
  refine ⟨PySem.W.fnOf "answers" "answers" (defArgs sAnswers) (defBody sAnswers) (defScope sAnswers) .none kV27 dc27 pm27 an27 cd27 ct27, fun s us hu => match us, hu with | [_], _ => .of_eq rfl, fun base _ _ => ?_⟩
  have C1 : Cal P w K mg base 1 "bars_of" spBars := ⟨_, _, _, ok_barsOf F1 T , PySem.W.mg_of X G a1, k1, b1⟩
  have C2 : Cal P w K mg base 1 "is_piece" spIsPiece := ⟨_, _, _, ok_isPiece F2 T , PySem.W.mg_of X G a2, k2, b2⟩
  have C3 : Cal P w K mg base 1 "how_many_knots" (spKnots CP) := ⟨_, _, _, ok_knots F3 T , PySem.W.mg_of X G a3, k3, b3⟩
  have C4 : Cal P w K mg base 1 "degrees" (spDegrees K) := ⟨_, _, _, ok_degrees F4 T , PySem.W.mg_of X G a4, k4, b4⟩
  have C5 : Cal P w K mg base 2 "odd_knots" spOddKnots := ⟨_, _, _, ok_oddKnots F5 T C4, PySem.W.mg_of X G a5, k5, b5⟩
  have C6 : Cal P w K mg base 1 "reached_from" spReached := ⟨_, _, _, ok_reached F6 T , PySem.W.mg_of X G a6, k6, b6⟩
  have C7 : Cal P w K mg base 2 "are_joined" spJoined := ⟨_, _, _, ok_areJoined F7 T C6, PySem.W.mg_of X G a7, k7, b7⟩
  have C8 : Cal P w K mg base 3 "can_go_from" spCanGo := ⟨_, _, _, ok_canGo F8 T C5 C7, PySem.W.mg_of X G a8, k8, b8⟩
  have C9 : Cal P w K mg base 3 "has_way" spHasWay := ⟨_, _, _, ok_hasWay F9 T C5 C7, PySem.W.mg_of X G a9, k9, b9⟩
  have C10 : Cal P w K mg base 1 "without" spWithout := ⟨_, _, _, ok_without F10 T , PySem.W.mg_of X G a10, k10, b10⟩
  have C11 : Cal P w K mg base 1 "steps_from" spSteps := ⟨_, _, _, ok_steps F11 T , PySem.W.mg_of X G a11, k11, b11⟩
  have C12 : Cal P w K mg base 4 "next_knot" spNext := ⟨_, _, _, ok_next F12 T C11 C8 C10, PySem.W.mg_of X G a12, k12, b12⟩
  have C13 : Cal P w K mg base 5 "earliest_way" spEarliest := ⟨_, _, _, ok_earliest F13 T C11 C8 C12 C10, PySem.W.mg_of X G a13, k13, b13⟩
  have C14 : Cal P w K mg base 1 "is_way" (spIsWay K) := ⟨_, _, _, ok_isWay F14 T , PySem.W.mg_of X G a14, k14, b14⟩
  have C15 : Cal P w K mg base 1 "pairs_with" (spPairsWith CP) := ⟨_, _, _, ok_pairsWith F15 T , PySem.W.mg_of X G a15, k15, b15⟩
  have S : ∀ d : Nat, Cal P w K mg base d "sets_of" (spSetsOf d) := fun d => by
    induction d with
    | zero => exact ⟨_, _, _, sets_none, PySem.W.mg_of X G a16, k16, b16⟩
    | succ d ih => exact ⟨_, _, _, ok_setsOf F16 T ih, PySem.W.mg_of X G a16, k16, b16⟩
  have C16 : Cal P w K mg base 5 "sets_of" (spSetsOf 5) := S 5
  have C17 : Cal P w K mg base 6 "sets_that_do" (spSetsDo CP) := ⟨_, _, _, ok_setsDo F17 T C16 C9 C15 C3, PySem.W.mg_of X G a17, k17, b17⟩
  have C18 : Cal P w K mg base 7 "fewest_cuts" (spFewest CP) := ⟨_, _, _, ok_fewest F18 T C17, PySem.W.mg_of X G a18, k18, b18⟩
  have MP : Mak P w K mg base 2 "Piece" CP (spPInit CP) := ⟨_, _, _, ⟨mkP, aP, iP, kcP⟩, ok_pInit FP T C1, PySem.W.mg_of X G gP, bP⟩
  have C19 : Cal P w K mg base 4 "begins" (spBegins CP CD) := ⟨_, _, _, ok_begins F19 T C2 MP, PySem.W.mg_of X G a19, k19, b19⟩
  have C20 : Cal P w K mg base 1 "tear" (spTear CP) := ⟨_, _, _, ok_tear F20 T , PySem.W.mg_of X G a20, k20, b20⟩
  have C21 : Cal P w K mg base 1 "mend" (spMend CP) := ⟨_, _, _, ok_mend F21 T , PySem.W.mg_of X G a21, k21, b21⟩
  have C22 : Cal P w K mg base 1 "ends" (spEnds CP) := ⟨_, _, _, ok_ends F22 T , PySem.W.mg_of X G a22, k22, b22⟩
  have C23 : Cal P w K mg base 3 "odd" (spOdd CP) := ⟨_, _, _, ok_odd F23 T C5 C15 C3, PySem.W.mg_of X G a23, k23, b23⟩
  have C24 : Cal P w K mg base 2 "check" (spCheck CP K) := ⟨_, _, _, ok_check F24 T C14 C15 C3, PySem.W.mg_of X G a24, k24, b24⟩
  have C25 : Cal P w K mg base 8 "best" (spBest CP) := ⟨_, _, _, ok_best F25 T C18 C13 C15 C3, PySem.W.mg_of X G a25, k25, b25⟩
  have C26 : Cal P w K mg base 9 "answered" (spAnswered CP CD K) := ⟨_, _, _, ok_answered F26 T C19 C20 C21 C22 C23 C24 C25, PySem.W.mg_of X G a26, k26, b26⟩
  have MD : Mak P w K mg base 4 "Desk" CD (spDInit CP CD) := ⟨_, _, _, ⟨mkD, aD, iD, kcD⟩, ok_dInit FD T MP, PySem.W.mg_of X G gD, bD⟩
  exact ok_answers F27 T MD C26
end Nm
open PySem PySem.W PyProof.Rows
set_option maxRecDepth 100000 in
set_option maxHeartbeats 8000000 in
theorem PySem.Challenge.cw_netmends_s01_answers_holds : PySem.Challenge.rw_netmends_s01_answers.Holds := by
  w_on; k_headS; (case hw => exact ⟨[.list [.int 4]], by decide +kernel, by decide +kernel⟩)
  k_fillS
  refine L2.walk_specK (r := PySem.Challenge.rw_netmends_s01_answers) (k := 10) (CX := L2.CX0) (ps := ["calls"]) (sp := Nm.spAnswers) (by decide +kernel) rfl rfl ⟨rfl, by decide, by decide⟩ (fun w h Y => PySem.W.kIn_of Y) ?F ?S (fun _ _ _ _ z => z)
  case F =>
    intro w mg fa h Y KX G hmg
    refine' Nm.all_mk KX G hmg ?a1 ?l1 ?c1 ?k1 ?a2 ?l2 ?c2 ?k2 ?a3 ?l3 ?c3 ?k3 ?a4 ?l4 ?c4 ?k4 ?a5 ?l5 ?c5 ?k5 ?a6 ?l6 ?c6 ?k6 ?a7 ?l7 ?c7 ?k7 ?a8 ?l8 ?c8 ?k8 ?a9 ?l9 ?c9 ?k9 ?a10 ?l10 ?c10 ?k10 ?a11 ?l11 ?c11 ?k11 ?a12 ?l12 ?c12 ?k12 ?a13 ?l13 ?c13 ?k13 ?a14 ?l14 ?c14 ?k14 ?a15 ?l15 ?c15 ?k15 ?a16 ?l16 ?c16 ?k16 ?a17 ?l17 ?c17 ?k17 ?a18 ?l18 ?c18 ?k18 ?a19 ?l19 ?c19 ?k19 ?a20 ?l20 ?c20 ?k20 ?a21 ?l21 ?c21 ?k21 ?a22 ?l22 ?c22 ?k22 ?a23 ?l23 ?c23 ?k23 ?a24 ?l24 ?c24 ?k24 ?a25 ?l25 ?c25 ?k25 ?a26 ?l26 ?c26 ?k26 ?a27 ?l27 ?c27 ?k27 ?gP ?aP ?iP ?lP ?cP ?kP ?pgP ?hdP ?poP ?saP ?mkP ?kcP ?gD ?aD ?iD ?lD ?cD ?kD ?pgD ?hdD ?poD ?saD ?mkD ?kcD ?npW ?npH ?npB ?npT ?ndP ?z_range ?z_len ?z_min ?z_max ?z_sorted ?z_list ?z_int ?q_least ?q_most ?q_mostTorn ?q_mostCut ?q_notRight ?q_noBar ?q_soAlready ?q_full ?q_cannot ?q_check ?gW ?lW
    (case a1 => k_is)
    (case l1 => k_is)
    (case c1 => k_is)
    (case k1 => k_is)
    (case a2 => k_is)
    (case l2 => k_is)
    (case c2 => k_is)
    (case k2 => k_is)
    (case a3 => k_is)
    (case l3 => k_is)
    (case c3 => k_is)
    (case k3 => k_is)
    (case a4 => k_is)
    (case l4 => k_is)
    (case c4 => k_is)
    (case k4 => k_is)
    (case a5 => k_is)
    (case l5 => k_is)
    (case c5 => k_is)
    (case k5 => k_is)
    (case a6 => k_is)
    (case l6 => k_is)
    (case c6 => k_is)
    (case k6 => k_is)
    (case a7 => k_is)
    (case l7 => k_is)
    (case c7 => k_is)
    (case k7 => k_is)
    (case a8 => k_is)
    (case l8 => k_is)
    (case c8 => k_is)
    (case k8 => k_is)
    (case a9 => k_is)
    (case l9 => k_is)
    (case c9 => k_is)
    (case k9 => k_is)
    (case a10 => k_is)
    (case l10 => k_is)
    (case c10 => k_is)
    (case k10 => k_is)
    (case a11 => k_is)
    (case l11 => k_is)
    (case c11 => k_is)
    (case k11 => k_is)
    (case a12 => k_is)
    (case l12 => k_is)
    (case c12 => k_is)
    (case k12 => k_is)
    (case a13 => k_is)
    (case l13 => k_is)
    (case c13 => k_is)
    (case k13 => k_is)
    (case a14 => k_is)
    (case l14 => k_is)
    (case c14 => k_is)
    (case k14 => k_is)
    (case a15 => k_is)
    (case l15 => k_is)
    (case c15 => k_is)
    (case k15 => k_is)
    (case a16 => k_is)
    (case l16 => k_is)
    (case c16 => k_is)
    (case k16 => k_is)
    (case a17 => k_is)
    (case l17 => k_is)
    (case c17 => k_is)
    (case k17 => k_is)
    (case a18 => k_is)
    (case l18 => k_is)
    (case c18 => k_is)
    (case k18 => k_is)
    (case a19 => k_is)
    (case l19 => k_is)
    (case c19 => k_is)
    (case k19 => k_is)
    (case a20 => k_is)
    (case l20 => k_is)
    (case c20 => k_is)
    (case k20 => k_is)
    (case a21 => k_is)
    (case l21 => k_is)
    (case c21 => k_is)
    (case k21 => k_is)
    (case a22 => k_is)
    (case l22 => k_is)
    (case c22 => k_is)
    (case k22 => k_is)
    (case a23 => k_is)
    (case l23 => k_is)
    (case c23 => k_is)
    (case k23 => k_is)
    (case a24 => k_is)
    (case l24 => k_is)
    (case c24 => k_is)
    (case k24 => k_is)
    (case a25 => k_is)
    (case l25 => k_is)
    (case c25 => k_is)
    (case k25 => k_is)
    (case a26 => k_is)
    (case l26 => k_is)
    (case c26 => k_is)
    (case k26 => k_is)
    (case a27 => k_is)
    (case l27 => k_is)
    (case c27 => k_is)
    (case k27 => k_is)
    (case gP => k_is)
    (case aP => k_is)
    (case iP => k_is)
    (case lP => k_is)
    (case cP => k_is)
    (case kP => k_is)
    (case pgP => k_is)
    (case hdP => k_is)
    (case poP => k_is)
    (case saP => k_is)
    (case mkP => k_is)
    (case kcP => k_is)
    (case gD => k_is)
    (case aD => k_is)
    (case iD => k_is)
    (case lD => k_is)
    (case cD => k_is)
    (case kD => k_is)
    (case pgD => k_is)
    (case hdD => k_is)
    (case poD => k_is)
    (case saD => k_is)
    (case mkD => k_is)
    (case kcD => k_is)
    (case npW => k_is)
    (case npH => k_is)
    (case npB => k_is)
    (case npT => k_is)
    (case ndP => k_is)
    (case z_range => k_is)
    (case z_len => k_is)
    (case z_min => k_is)
    (case z_max => k_is)
    (case z_sorted => k_is)
    (case z_list => k_is)
    (case z_int => k_is)
    (case q_least => k_is)
    (case q_most => k_is)
    (case q_mostTorn => k_is)
    (case q_mostCut => k_is)
    (case q_notRight => k_is)
    (case q_noBar => k_is)
    (case q_soAlready => k_is)
    (case q_full => k_is)
    (case q_cannot => k_is)
    (case q_check => k_is)
    (case gW => k_is)
    (case lW => k_is)
  case S =>
    intro K H xs a hO hwi hask hx
    cases hx with
    | cons h1 h2 =>
      cases h2
      cases h1 with
      | lst hs ha =>
        have e := L2.ints_dw a.1 _ ha
        subst e
        have q : ((Codec.inLen 0 30000 a.1 && a.1.all (Codec.inInt 0 4294967295)) && true) = true := hwi
        rw [Bool.and_eq_true, Bool.and_eq_true] at q
        refine ⟨_, a.1, rfl, hs, fun x hx => ?_, (Codec.inNat_iff.mp q.1.1).2, hask, fun H' p hp => .lst (L2.SqL.of hp) (L2.dw_ints _)⟩
        exact (Codec.inInt_iff.mp (List.all_eq_true.mp q.1.2 x hx)).1
#print axioms PySem.Challenge.cw_netmends_s01_answers_holds
