import PyProof.Rows.All
import Wide.All
import OpenK.AllK
import Wide.FinOn
import HandS.ForMost
import HandS.TupAny
import HandS.Deep
import HandS.NoneIn
import KE.KEqNest
import PySem.Challenge.RW_twoways_k36_whole_joined_stretches
import HandS.Codes
set_option Elab.async false
set_option linter.all false
set_option maxRecDepth 100000
set_option maxHeartbeats 4000000
/-! the plain law: machines that walk both ways over a row, told by fuel; two rows put together -/
namespace K36

inductive Mv where
  | left | right | stop
  deriving DecidableEq
structure St4 where
  mv : Mv
  q : Nat
  pc : List Int
/-- what a machine does in a stretch; out r q w: it leaves (r: on the right) in the state q -/
inductive Dd where
  | non
  | stop (w : List Int)
  | out (r : Bool) (q : Nat) (w : List Int)
  deriving DecidableEq
def Dd.pre (w : List Int) : Dd → Dd
  | .non => .non
  | .stop v => .stop (w ++ v)
  | .out r q v => .out r q (w ++ v)
theorem pre_nil (d : Dd) : Dd.pre [] d = d := by cases d <;> rfl
theorem pre_pre (v w : List Int) (d : Dd) : Dd.pre v (Dd.pre w d) = Dd.pre (v ++ w) d := by
  cases d <;> simp [Dd.pre]
theorem pre_non {w : List Int} {d : Dd} : Dd.pre w d = .non ↔ d = .non := by cases d <;> simp [Dd.pre]

structure Mc where
  m : Nat
  S : Nat
  e : Nat
  nl : Nat
  L : Nat → Nat
  mul : Nat → Nat → Nat
  tab : Nat → Nat → Nat → Nat → Option St4
structure Mc.Ok (M : Mc) : Prop where
  e_lt : M.e < M.m
  mul_lt : ∀ x y, x < M.m → y < M.m → M.mul x y < M.m
  L_lt : ∀ a, a < M.nl → M.L a < M.m
  unitl : ∀ x, x < M.m → M.mul M.e x = x
  unitr : ∀ x, x < M.m → M.mul x M.e = x
  assoc : ∀ x y z, x < M.m → y < M.m → z < M.m → M.mul (M.mul x y) z = M.mul x (M.mul y z)
  q_lt : ∀ p u c v t, M.tab p u c v = some t → t.q < M.S
def Mc.Row (M : Mc) (row : List Nat) : Prop := ∀ a ∈ row, a < M.nl
def Mc.worth (M : Mc) (row : List Nat) : Nat := row.foldl (fun x a => M.mul x (M.L a)) M.e

section
variable {M : Mc} (ok : M.Ok)
theorem fold_lt (ok : M.Ok) : ∀ (row : List Nat) (x : Nat), M.Row row → x < M.m → row.foldl (fun x a => M.mul x (M.L a)) x < M.m
  | [], _, _, hx => hx
  | a :: r, x, hr, hx => by
    rw [List.foldl_cons]
    exact fold_lt ok r _ (fun b hb => hr b (List.mem_cons_of_mem _ hb)) (ok.mul_lt _ _ hx (ok.L_lt a (hr a List.mem_cons_self)))
theorem worth_lt (ok : M.Ok) {row : List Nat} (hr : M.Row row) : M.worth row < M.m := fold_lt ok row _ hr ok.e_lt
theorem fold_mul (ok : M.Ok) : ∀ (row : List Nat) (x y : Nat), M.Row row → x < M.m → y < M.m →
    row.foldl (fun x a => M.mul x (M.L a)) (M.mul x y) = M.mul x (row.foldl (fun x a => M.mul x (M.L a)) y)
  | [], _, _, _, _, _ => rfl
  | a :: r, x, y, hr, hx, hy => by
    have ha := ok.L_lt a (hr a List.mem_cons_self)
    rw [List.foldl_cons, List.foldl_cons, ok.assoc x y _ hx hy ha]
    exact fold_mul ok r x _ (fun b hb => hr b (List.mem_cons_of_mem _ hb)) hx (ok.mul_lt _ _ hy ha)
theorem worth_append (ok : M.Ok) {a b : List Nat} (ha : M.Row a) (hb : M.Row b) : M.worth (a ++ b) = M.mul (M.worth a) (M.worth b) := by
  have hw := worth_lt ok ha
  unfold Mc.worth
  rw [List.foldl_append]
  have h := fold_mul ok b (M.worth a) M.e hb hw ok.e_lt
  rw [ok.unitr _ hw] at h
  exact h
end

def Mc.stp (M : Mc) (row : List Nat) (l r i q : Nat) : Option St4 := match row[i]? with
  | none => none
  | some c => M.tab q (M.mul l (M.worth (row.take i))) c (M.mul (M.worth (row.drop (i + 1))) r)
/-- one step at the place i; f tells what comes of crossing a boundary -/
def Mc.act (M : Mc) (row : List Nat) (l r : Nat) (f : Bool → Nat → Nat → Dd) (i q : Nat) : Dd := match M.stp row l r i q with
  | none => .non
  | some t => match t.mv with
    | .stop => .stop t.pc
    | .right => Dd.pre t.pc (f true (i + 1) t.q)
    | .left => Dd.pre t.pc (f false i t.q)
def plc (d : Bool) (b : Nat) : Nat := if d then b else b - 1
/-- the boundary b (ahead of the place b) is crossed, to the right where d; k: fuel -/
def Mc.cr (M : Mc) (row : List Nat) (l r : Nat) : Nat → Bool → Nat → Nat → Dd
  | 0, d, b, q => if d = true ∧ b = row.length then .out true q [] else if d = false ∧ b = 0 then .out false q [] else .non
  | k + 1, d, b, q => if d = true ∧ b = row.length then .out true q [] else if d = false ∧ b = 0 then .out false q [] else
      M.act row l r (M.cr row l r k) (plc d b) q
/-- the deed: entered on the left (side false) or on the right -/
def Mc.deed (M : Mc) (row : List Nat) (l r : Nat) (side : Bool) (q : Nat) : Dd := M.cr row l r (M.S * row.length + 1) (!side) (if side then row.length else 0) q

section
variable {M : Mc} {row : List Nat} {l r : Nat}
/-- within: crossing into a place -/
def Inn (n : Nat) (d : Bool) (b : Nat) : Prop := ¬ (d = true ∧ b = n) ∧ ¬ (d = false ∧ b = 0)
theorem cr_right (k q : Nat) : M.cr row l r k true row.length q = .out true q [] := by cases k <;> simp [Mc.cr]
theorem cr_left (k q : Nat) : M.cr row l r k false 0 q = .out false q [] := by cases k <;> simp [Mc.cr]
theorem cr_zero {d : Bool} {b : Nat} (q : Nat) (h : Inn row.length d b) : M.cr row l r 0 d b q = .non := by
  unfold Mc.cr; rw [if_neg h.1, if_neg h.2]
theorem cr_succ {d : Bool} {b : Nat} (k q : Nat) (h : Inn row.length d b) : M.cr row l r (k + 1) d b q = M.act row l r (M.cr row l r k) (plc d b) q := by
  rw [Mc.cr, if_neg h.1, if_neg h.2]
theorem inn_or (n : Nat) (d : Bool) (b : Nat) : (d = true ∧ b = n) ∨ (d = false ∧ b = 0) ∨ Inn n d b := by
  by_cases h1 : d = true ∧ b = n
  · exact .inl h1
  · by_cases h2 : d = false ∧ b = 0
    · exact .inr (.inl h2)
    · exact .inr (.inr ⟨h1, h2⟩)
theorem plc_lt {n : Nat} {d : Bool} {b : Nat} (h : Inn n d b) (hb : b ≤ n) : plc d b < n := by
  obtain ⟨h1, h2⟩ := h
  cases d
  · have : b ≠ 0 := fun e => h2 ⟨rfl, e⟩
    show b - 1 < n
    omega
  · have : b ≠ n := fun e => h1 ⟨rfl, e⟩
    show b < n
    omega
theorem act_mono {f g : Bool → Nat → Nat → Dd} {i q : Nat} (hfg : ∀ d b q, f d b q ≠ .non → g d b q = f d b q) (h : M.act row l r f i q ≠ .non) : M.act row l r g i q = M.act row l r f i q := by
  unfold Mc.act at h ⊢
  cases e : M.stp row l r i q with
  | none => rfl
  | some t =>
    simp only [e] at h ⊢
    cases em : t.mv with
    | stop => rfl
    | right =>
      simp only [em] at h ⊢
      rw [hfg _ _ _ fun z => h (pre_non.mpr z)]
    | left =>
      simp only [em] at h ⊢
      rw [hfg _ _ _ fun z => h (pre_non.mpr z)]
theorem cr_mono1 : ∀ (k : Nat) (d : Bool) (b q : Nat), M.cr row l r k d b q ≠ .non → M.cr row l r (k + 1) d b q = M.cr row l r k d b q := by
  intro k
  induction k with
  | zero =>
    intro d b q h
    rcases inn_or row.length d b with ⟨rfl, rfl⟩ | ⟨rfl, rfl⟩ | hi
    · rw [cr_right, cr_right]
    · rw [cr_left, cr_left]
    · exact absurd (cr_zero q hi) h
  | succ k ih =>
    intro d b q h
    rcases inn_or row.length d b with ⟨rfl, rfl⟩ | ⟨rfl, rfl⟩ | hi
    · rw [cr_right, cr_right]
    · rw [cr_left, cr_left]
    · rw [cr_succ _ _ hi] at h ⊢
      rw [cr_succ _ _ hi]
      exact act_mono ih h
theorem cr_mono {k : Nat} (j : Nat) {d : Bool} {b q : Nat} (h : M.cr row l r k d b q ≠ .non) : M.cr row l r (k + j) d b q = M.cr row l r k d b q := by
  induction j with
  | zero => rfl
  | succ j ih => rw [← Nat.add_assoc, cr_mono1 _ _ _ _ (by rw [ih]; exact h), ih]
theorem cr_le {k k' : Nat} (hk : k ≤ k') {d : Bool} {b q : Nat} (h : M.cr row l r k d b q ≠ .non) : M.cr row l r k' d b q = M.cr row l r k d b q := by
  obtain ⟨j, rfl⟩ := Nat.exists_eq_add_of_le hk
  exact cr_mono j h
theorem cr_place {d : Bool} {b : Nat} (k q : Nat) (h : Inn row.length d b) (hb : b ≤ row.length) : M.cr row l r k d b q = M.cr row l r k true (plc d b) q := by
  have hp := plc_lt h hb
  have h2 : Inn row.length true (plc d b) := ⟨fun z => Nat.ne_of_lt hp z.2, fun z => by simp at z⟩
  cases k with
  | zero => rw [cr_zero q h, cr_zero q h2]
  | succ k => rw [cr_succ _ _ h, cr_succ _ _ h2]; rfl
/-- where a step goes on -/
theorem act_next {f : Bool → Nat → Nat → Dd} {i q : Nat} (h : M.act row l r f i q ≠ .non) :
    ∃ t, M.stp row l r i q = some t ∧ (t.mv = .stop ∨ (t.mv = .right ∧ f true (i + 1) t.q ≠ .non) ∨ (t.mv = .left ∧ f false i t.q ≠ .non)) := by
  unfold Mc.act at h
  cases e : M.stp row l r i q with
  | none => simp [e] at h
  | some t =>
    refine ⟨t, rfl, ?_⟩
    simp only [e] at h
    cases em : t.mv with
    | stop => exact .inl rfl
    | right =>
      simp only [em] at h
      exact .inr (.inl ⟨rfl, fun z => h (pre_non.mpr z)⟩)
    | left =>
      simp only [em] at h
      exact .inr (.inr ⟨rfl, fun z => h (pre_non.mpr z)⟩)
theorem act_non {f : Bool → Nat → Nat → Dd} {i q : Nat} {t : St4} (e : M.stp row l r i q = some t) :
    (t.mv = .stop → M.act row l r f i q = .stop t.pc) ∧ (t.mv = .right → M.act row l r f i q = Dd.pre t.pc (f true (i + 1) t.q)) ∧ (t.mv = .left → M.act row l r f i q = Dd.pre t.pc (f false i t.q)) := by
  refine ⟨fun h => ?_, fun h => ?_, fun h => ?_⟩ <;> simp [Mc.act, e, h]
theorem stp_lt (ok : M.Ok) {i q : Nat} {t : St4} (h : M.stp row l r i q = some t) : t.q < M.S ∧ i < row.length := by
  unfold Mc.stp at h
  cases e : row[i]? with
  | none => rw [e] at h; cases h
  | some c =>
    rw [e] at h
    exact ⟨ok.q_lt _ _ _ _ _ h, (List.getElem?_eq_some_iff.mp e).1⟩

/-! ### the least fuel -/
def Mn (M : Mc) (row : List Nat) (l r : Nat) (k : Nat) (d : Bool) (b q : Nat) : Prop := M.cr row l r k d b q ≠ .non ∧ ∀ j, j < k → M.cr row l r j d b q = .non
theorem mn_ex : ∀ (k : Nat) {d : Bool} {b q : Nat}, M.cr row l r k d b q ≠ .non → ∃ k', k' ≤ k ∧ Mn M row l r k' d b q
  | 0, _, _, _, h => ⟨0, Nat.le_refl _, h, fun j hj => absurd hj (Nat.not_lt_zero j)⟩
  | k + 1, d, b, q, h => by
    by_cases e : M.cr row l r k d b q = .non
    · refine ⟨k + 1, Nat.le_refl _, h, fun j hj => ?_⟩
      by_cases ej : M.cr row l r j d b q = .non
      · exact ej
      · have := cr_le (show j ≤ k by omega) ej
        rw [e] at this
        exact absurd this.symm ej
    · obtain ⟨k', hk, m⟩ := mn_ex k e
      exact ⟨k', by omega, m⟩
theorem mn_uniq {j j' : Nat} {d : Bool} {b q : Nat} (h : Mn M row l r j d b q) (h' : Mn M row l r j' d b q) : j = j' := by
  rcases Nat.lt_trichotomy j j' with z | z | z
  · exact absurd (h'.2 j z) h.1
  · exact z
  · exact absurd (h.2 j' z) h'.1
theorem mn_chain (ok : M.Ok) : ∀ (k : Nat) (d : Bool) (b q : Nat), b ≤ row.length → q < M.S → Mn M row l r k d b q → ∀ j, j < k → ∃ i q', i < row.length ∧ q' < M.S ∧ Mn M row l r (j + 1) true i q' := by
  intro k
  induction k with
  | zero => intro d b q _ _ _ j hj; exact absurd hj (Nat.not_lt_zero j)
  | succ k ih =>
    intro d b q hb hq hm j hj
    have hi : Inn row.length d b := by
      rcases inn_or row.length d b with ⟨rfl, rfl⟩ | ⟨rfl, rfl⟩ | hi
      · have := hm.2 0 (Nat.succ_pos k)
        rw [cr_right] at this; cases this
      · have := hm.2 0 (Nat.succ_pos k)
        rw [cr_left] at this; cases this
      · exact hi
    have hp := plc_lt hi hb
    by_cases ej : j = k
    · subst ej
      refine ⟨plc d b, q, hp, hq, ?_, fun j' hj' => ?_⟩
      · rw [← cr_place _ _ hi hb]; exact hm.1
      · rw [← cr_place _ _ hi hb]; exact hm.2 j' hj'
    · -- the next crossing
      have h1 := hm.1
      rw [cr_succ _ _ hi] at h1
      obtain ⟨t, et, hc⟩ := act_next h1
      obtain ⟨hqt, _⟩ := stp_lt ok et
      obtain ⟨a1, a2, a3⟩ := @act_non M row l r (M.cr row l r (k - 1)) (plc d b) q t et
      have hz : M.act row l r (M.cr row l r (k - 1)) (plc d b) q = .non := by
        have := hm.2 k (Nat.lt_succ_self k)
        have ek : k = (k - 1) + 1 := by omega
        rw [ek, cr_succ _ _ hi] at this
        exact this
      rcases hc with em | ⟨em, hn⟩ | ⟨em, hn⟩
      · rw [a1 em] at hz; cases hz
      · rw [a2 em] at hz
        have hz := pre_non.mp hz
        have m2 : Mn M row l r k true (plc d b + 1) t.q := ⟨hn, fun j' hj' => by
          by_cases e : M.cr row l r j' true (plc d b + 1) t.q = .non
          · exact e
          · have := cr_le (show j' ≤ k - 1 by omega) e
            rw [hz] at this
            exact absurd this.symm e⟩
        exact ih true (plc d b + 1) t.q (by omega) hqt m2 j (by omega)
      · rw [a3 em] at hz
        have hz := pre_non.mp hz
        have m2 : Mn M row l r k false (plc d b) t.q := ⟨hn, fun j' hj' => by
          by_cases e : M.cr row l r j' false (plc d b) t.q = .non
          · exact e
          · have := cr_le (show j' ≤ k - 1 by omega) e
            rw [hz] at this
            exact absurd this.symm e⟩
        exact ih false (plc d b) t.q (by omega) hqt m2 j (by omega)
theorem pigeon {k N : Nat} {R : Nat → Nat → Prop} (h : ∀ j, j < k → ∃ c, c < N ∧ R j c) (u : ∀ j j' c, R j c → R j' c → j = j') : k ≤ N := by
  have h' : ∀ j, ∃ c, j < k → c < N ∧ R j c := fun j => by
    by_cases hj : j < k
    · obtain ⟨c, hc⟩ := h j hj
      exact ⟨c, fun _ => hc⟩
    · exact ⟨0, fun z => absurd z hj⟩
  have hf := fun j => Classical.choose_spec (h' j)
  have e := List.Nodup.length_le_of_subset (l₁ := (List.range k).map fun j => Classical.choose (h' j)) (l₂ := List.range N) ?_ ?_
  · simpa using e
  · refine List.pairwise_map.mpr ?_
    refine List.Pairwise.imp_of_mem (R := fun x y => x ≠ y) (fun {x y} hx hy hxy z => hxy ?_) List.nodup_range
    have h1 := (hf x (List.mem_range.mp hx)).2
    have h2 := (hf y (List.mem_range.mp hy)).2
    rw [z] at h1
    exact u _ _ _ h1 h2
  · intro c hc
    obtain ⟨j, hj, rfl⟩ := List.mem_map.mp hc
    exact List.mem_range.mpr (hf j (List.mem_range.mp hj)).1
theorem code_lt {n S i q : Nat} (hi : i < n) (hq : q < S) : i * S + q < S * n := by
  have h1 : (i + 1) * S ≤ n * S := Nat.mul_le_mul_right S hi
  rw [Nat.add_mul, Nat.one_mul] at h1
  rw [Nat.mul_comm S n]
  omega
theorem code_inj {S i q i' q' : Nat} (hq : q < S) (hq' : q' < S) (h : i * S + q = i' * S + q') : i = i' ∧ q = q' := by
  have h1 : (i * S + q) / S = i := by rw [Nat.mul_comm, Nat.mul_add_div (by omega), Nat.div_eq_of_lt hq]; rfl
  have h2 : (i' * S + q') / S = i' := by rw [Nat.mul_comm, Nat.mul_add_div (by omega), Nat.div_eq_of_lt hq']; rfl
  have e : i = i' := by rw [← h1, ← h2, h]
  subst e
  exact ⟨rfl, by omega⟩
theorem lim (ok : M.Ok) {k : Nat} {d : Bool} {b q : Nat} (hb : b ≤ row.length) (hq : q < M.S) (h : M.cr row l r k d b q ≠ .non) : M.cr row l r (M.S * row.length + 1) d b q = M.cr row l r k d b q := by
  obtain ⟨k', hk, hm⟩ := mn_ex k h
  have hN : k' ≤ M.S * row.length := by
    refine pigeon (R := fun j c => ∃ i q', i < row.length ∧ q' < M.S ∧ c = i * M.S + q' ∧ Mn M row l r (j + 1) true i q') (fun j hj => ?_) fun j j' c ⟨i, q1, hi, hq1, e1, m1⟩ ⟨i', q2, hi', hq2, e2, m2⟩ => ?_
    · obtain ⟨i, q', hi, hq', m⟩ := mn_chain ok k' d b q hb hq hm j hj
      exact ⟨i * M.S + q', code_lt hi hq', i, q', hi, hq', rfl, m⟩
    · obtain ⟨rfl, rfl⟩ := code_inj hq1 hq2 (e1.symm.trans e2)
      have := mn_uniq m1 m2
      omega
  rw [cr_le (show k' ≤ M.S * row.length + 1 by omega) hm.1, cr_le hk hm.1]
/-- fuel beyond the line changes nothing -/
theorem lim_add (ok : M.Ok) (j : Nat) {d : Bool} {b q : Nat} (hb : b ≤ row.length) (hq : q < M.S) : M.cr row l r (j + (M.S * row.length + 1)) d b q = M.cr row l r (M.S * row.length + 1) d b q := by
  by_cases h : M.cr row l r (j + (M.S * row.length + 1)) d b q = .non
  · by_cases h2 : M.cr row l r (M.S * row.length + 1) d b q = .non
    · rw [h, h2]
    · rw [Nat.add_comm, cr_mono j h2]
  · exact (lim ok hb hq h).symm
theorem cr_out_lt (ok : M.Ok) : ∀ (k : Nat) (d : Bool) (b q : Nat), q < M.S → ∀ d' q' w, M.cr row l r k d b q = .out d' q' w → q' < M.S := by
  intro k
  induction k with
  | zero =>
    intro d b q hq d' q' w h
    rcases inn_or row.length d b with ⟨rfl, rfl⟩ | ⟨rfl, rfl⟩ | hi
    · rw [cr_right] at h; cases h; exact hq
    · rw [cr_left] at h; cases h; exact hq
    · rw [cr_zero q hi] at h; cases h
  | succ k ih =>
    intro d b q hq d' q' w h
    rcases inn_or row.length d b with ⟨rfl, rfl⟩ | ⟨rfl, rfl⟩ | hi
    · rw [cr_right] at h; cases h; exact hq
    · rw [cr_left] at h; cases h; exact hq
    · rw [cr_succ _ _ hi] at h
      have hn : M.act row l r (M.cr row l r k) (plc d b) q ≠ .non := by rw [h]; intro z; cases z
      obtain ⟨t, et, hc⟩ := act_next hn
      obtain ⟨hqt, _⟩ := stp_lt ok et
      obtain ⟨a1, a2, a3⟩ := @act_non M row l r (M.cr row l r k) (plc d b) q t et
      rcases hc with em | ⟨em, _⟩ | ⟨em, _⟩
      · rw [a1 em] at h; cases h
      · rw [a2 em] at h
        cases e : M.cr row l r k true (plc d b + 1) t.q with
        | non => rw [e] at h; cases h
        | stop v => rw [e] at h; cases h
        | out d2 q2 v => rw [e] at h; cases h; exact ih _ _ _ hqt _ _ _ e
      · rw [a3 em] at h
        cases e : M.cr row l r k false (plc d b) t.q with
        | non => rw [e] at h; cases h
        | stop v => rw [e] at h; cases h
        | out d2 q2 v => rw [e] at h; cases h; exact ih _ _ _ hqt _ _ _ e
end
end K36
/-! the plain law, second part: the walk through two stretches -/
namespace K36
section
variable {M : Mc} {r1 r2 : List Nat} {l r : Nat}
theorem take_row {row : List Nat} (h : M.Row row) (i : Nat) : M.Row (row.take i) := fun a ha => h a (List.mem_of_mem_take ha)
theorem drop_row {row : List Nat} (h : M.Row row) (i : Nat) : M.Row (row.drop i) := fun a ha => h a (List.mem_of_mem_drop ha)
theorem app_row {a b : List Nat} (h1 : M.Row a) (h2 : M.Row b) : M.Row (a ++ b) := fun x hx => (List.mem_append.mp hx).elim (h1 x) (h2 x)
theorem stp_fst (ok : M.Ok) (h1 : M.Row r1) (h2 : M.Row r2) (hr : r < M.m) {i : Nat} (q : Nat) (hi : i < r1.length) :
    M.stp (r1 ++ r2) l r i q = M.stp r1 l (M.mul (M.worth r2) r) i q := by
  unfold Mc.stp
  rw [List.getElem?_append_left hi, List.take_append_of_le_length (Nat.le_of_lt hi), List.drop_append_of_le_length hi,
    worth_append ok (drop_row h1 _) h2, ok.assoc _ _ _ (worth_lt ok (drop_row h1 _)) (worth_lt ok h2) hr]
theorem stp_snd (ok : M.Ok) (h1 : M.Row r1) (h2 : M.Row r2) (hl : l < M.m) (i q : Nat) :
    M.stp (r1 ++ r2) l r (r1.length + i) q = M.stp r2 (M.mul l (M.worth r1)) r i q := by
  unfold Mc.stp
  have e1 : (r1 ++ r2)[r1.length + i]? = r2[i]? := by
    rw [List.getElem?_append_right (Nat.le_add_right _ _), Nat.add_sub_cancel_left]
  have e2 : (r1 ++ r2).take (r1.length + i) = r1 ++ r2.take i := by
    rw [List.take_append, List.take_of_length_le (by omega), Nat.add_sub_cancel_left]
  have e3 : (r1 ++ r2).drop (r1.length + i + 1) = r2.drop (i + 1) := by
    rw [List.drop_append, List.drop_of_length_le (by omega), show r1.length + i + 1 - r1.length = i + 1 by omega]
    rfl
  rw [e1, e2, e3, worth_append ok h1 (take_row h2 _), ← ok.assoc _ _ _ hl (worth_lt ok h1) (worth_lt ok (take_row h2 _))]

/-- what the first stretch's deed says of the whole -/
def LinkA (M : Mc) (r1 r2 : List Nat) (l r : Nat) (k : Nat) (d : Bool) (b q : Nat) : Dd → Prop
  | .non => M.cr (r1 ++ r2) l r k d b q = .non
  | .stop w => M.cr (r1 ++ r2) l r k d b q = .stop w
  | .out false q' w => M.cr (r1 ++ r2) l r k d b q = .out false q' w
  | .out true q' w => ∃ k', k' ≤ k ∧ (k' < k ∨ (d = true ∧ b = r1.length)) ∧ ∀ e, M.cr (r1 ++ r2) l r (k + e) d b q = Dd.pre w (M.cr (r1 ++ r2) l r (k' + e) true r1.length q')
theorem link_a (ok : M.Ok) (h1 : M.Row r1) (h2 : M.Row r2) (hr : r < M.m) : ∀ (k : Nat) (d : Bool) (b q : Nat), b ≤ r1.length →
    LinkA M r1 r2 l r k d b q (M.cr r1 l (M.mul (M.worth r2) r) k d b q) := by
  have hlen : (r1 ++ r2).length = r1.length + r2.length := List.length_append
  have inn : ∀ {d : Bool} {b : Nat}, b ≤ r1.length → Inn r1.length d b → Inn (r1 ++ r2).length d b := fun {d b} hb h => ⟨fun ⟨z1, z2⟩ => h.1 ⟨z1, by rw [hlen] at z2; omega⟩, h.2⟩
  have edge : ∀ k q, LinkA M r1 r2 l r k true r1.length q (.out true q []) := fun k q => ⟨k, Nat.le_refl _, .inr ⟨rfl, rfl⟩, fun e => (pre_nil _).symm⟩
  have edge0 : ∀ k q, LinkA M r1 r2 l r k false 0 q (.out false q []) := fun k q => cr_left k q
  intro k
  induction k with
  | zero =>
    intro d b q hb
    rcases inn_or r1.length d b with ⟨rfl, rfl⟩ | ⟨rfl, rfl⟩ | hi
    · rw [cr_right]; exact edge 0 q
    · rw [cr_left]; exact edge0 0 q
    · rw [cr_zero q hi]
      exact cr_zero q (inn hb hi)
  | succ k ih =>
    intro d b q hb
    rcases inn_or r1.length d b with ⟨rfl, rfl⟩ | ⟨rfl, rfl⟩ | hi
    · rw [cr_right]; exact edge _ q
    · rw [cr_left]; exact edge0 _ q
    · have hp := plc_lt hi hb
      have hI := inn hb hi
      rw [cr_succ _ _ hi]
      have es := stp_fst ok h1 h2 (l := l) hr q hp
      -- one step, by what the crossing behind it says
      have go : ∀ (t : St4) (d' : Bool) (b' : Nat), b' ≤ r1.length → (∀ k', M.act (r1 ++ r2) l r (M.cr (r1 ++ r2) l r k') (plc d b) q = Dd.pre t.pc (M.cr (r1 ++ r2) l r k' d' b' t.q)) →
          LinkA M r1 r2 l r (k + 1) d b q (Dd.pre t.pc (M.cr r1 l (M.mul (M.worth r2) r) k d' b' t.q)) := by
        intro t d' b' hb' ha
        have hk := ih d' b' t.q hb'
        have hs : ∀ j, M.cr (r1 ++ r2) l r (j + 1) d b q = Dd.pre t.pc (M.cr (r1 ++ r2) l r j d' b' t.q) := fun j => by rw [cr_succ _ _ hI, ha]
        cases e : M.cr r1 l (M.mul (M.worth r2) r) k d' b' t.q with
        | non =>
          rw [e] at hk
          show M.cr (r1 ++ r2) l r (k + 1) d b q = .non
          rw [hs, show M.cr (r1 ++ r2) l r k d' b' t.q = .non from hk]; rfl
        | stop w =>
          rw [e] at hk
          show M.cr (r1 ++ r2) l r (k + 1) d b q = .stop (t.pc ++ w)
          rw [hs, show M.cr (r1 ++ r2) l r k d' b' t.q = .stop w from hk]; rfl
        | out s q' w =>
          rw [e] at hk
          cases s with
          | false =>
            show M.cr (r1 ++ r2) l r (k + 1) d b q = .out false q' (t.pc ++ w)
            rw [hs, show M.cr (r1 ++ r2) l r k d' b' t.q = .out false q' w from hk]; rfl
          | true =>
            obtain ⟨k', hk', _, he⟩ := hk
            refine ⟨k', by omega, .inl (by omega), fun j => ?_⟩
            rw [show k + 1 + j = (k + j) + 1 by omega, hs, he, pre_pre]
      unfold Mc.act
      cases et : M.stp r1 l (M.mul (M.worth r2) r) (plc d b) q with
      | none =>
        show M.cr (r1 ++ r2) l r (k + 1) d b q = .non
        rw [cr_succ _ _ hI]
        unfold Mc.act
        rw [es, et]
      | some t =>
        have et' : M.stp (r1 ++ r2) l r (plc d b) q = some t := es.trans et
        simp only []
        cases em : t.mv with
        | stop =>
          show M.cr (r1 ++ r2) l r (k + 1) d b q = .stop t.pc
          rw [cr_succ _ _ hI]
          exact (act_non et').1 em
        | right => exact go t true (plc d b + 1) hp fun k' => (act_non et').2.1 em
        | left => exact go t false (plc d b) (Nat.le_of_lt hp) fun k' => (act_non et').2.2 em

def LinkB (M : Mc) (r1 r2 : List Nat) (l r : Nat) (k : Nat) (d : Bool) (b q : Nat) : Dd → Prop
  | .non => M.cr (r1 ++ r2) l r k d (r1.length + b) q = .non
  | .stop w => M.cr (r1 ++ r2) l r k d (r1.length + b) q = .stop w
  | .out true q' w => M.cr (r1 ++ r2) l r k d (r1.length + b) q = .out true q' w
  | .out false q' w => ∃ k', k' ≤ k ∧ (k' < k ∨ (d = false ∧ b = 0)) ∧ ∀ e, M.cr (r1 ++ r2) l r (k + e) d (r1.length + b) q = Dd.pre w (M.cr (r1 ++ r2) l r (k' + e) false r1.length q')
theorem link_b (ok : M.Ok) (h1 : M.Row r1) (h2 : M.Row r2) (hl : l < M.m) : ∀ (k : Nat) (d : Bool) (b q : Nat), b ≤ r2.length →
    LinkB M r1 r2 l r k d b q (M.cr r2 (M.mul l (M.worth r1)) r k d b q) := by
  have hlen : (r1 ++ r2).length = r1.length + r2.length := List.length_append
  have inn : ∀ {d : Bool} {b : Nat}, b ≤ r2.length → Inn r2.length d b → Inn (r1 ++ r2).length d (r1.length + b) := fun {d b} hb h => ⟨fun ⟨z1, z2⟩ => h.1 ⟨z1, by rw [hlen] at z2; omega⟩, fun ⟨z1, z2⟩ => h.2 ⟨z1, by omega⟩⟩
  have edge : ∀ k q, LinkB M r1 r2 l r k true r2.length q (.out true q []) := fun k q => by
    show M.cr (r1 ++ r2) l r k true (r1.length + r2.length) q = _
    rw [← hlen]; exact cr_right k q
  have edge0 : ∀ k q, LinkB M r1 r2 l r k false 0 q (.out false q []) := fun k q => ⟨k, Nat.le_refl _, .inr ⟨rfl, rfl⟩, fun e => (pre_nil _).symm⟩
  intro k
  induction k with
  | zero =>
    intro d b q hb
    rcases inn_or r2.length d b with ⟨rfl, rfl⟩ | ⟨rfl, rfl⟩ | hi
    · rw [cr_right]; exact edge 0 q
    · rw [cr_left]; exact edge0 0 q
    · rw [cr_zero q hi]
      exact cr_zero q (inn hb hi)
  | succ k ih =>
    intro d b q hb
    rcases inn_or r2.length d b with ⟨rfl, rfl⟩ | ⟨rfl, rfl⟩ | hi
    · rw [cr_right]; exact edge _ q
    · rw [cr_left]; exact edge0 _ q
    · have hp := plc_lt hi hb
      have hI := inn hb hi
      have epl : plc d (r1.length + b) = r1.length + plc d b := by
        cases d
        · have : b ≠ 0 := fun e => hi.2 ⟨rfl, e⟩
          show r1.length + b - 1 = r1.length + (b - 1)
          omega
        · rfl
      rw [cr_succ _ _ hi]
      have es := stp_snd ok h1 h2 (r := r) hl (plc d b) q
      rw [← epl] at es
      have go : ∀ (t : St4) (d' : Bool) (b' : Nat), b' ≤ r2.length → (∀ k', M.act (r1 ++ r2) l r (M.cr (r1 ++ r2) l r k') (plc d (r1.length + b)) q = Dd.pre t.pc (M.cr (r1 ++ r2) l r k' d' (r1.length + b') t.q)) →
          LinkB M r1 r2 l r (k + 1) d b q (Dd.pre t.pc (M.cr r2 (M.mul l (M.worth r1)) r k d' b' t.q)) := by
        intro t d' b' hb' ha
        have hk := ih d' b' t.q hb'
        have hs : ∀ j, M.cr (r1 ++ r2) l r (j + 1) d (r1.length + b) q = Dd.pre t.pc (M.cr (r1 ++ r2) l r j d' (r1.length + b') t.q) := fun j => by rw [cr_succ _ _ hI, ha]
        cases e : M.cr r2 (M.mul l (M.worth r1)) r k d' b' t.q with
        | non =>
          rw [e] at hk
          show M.cr (r1 ++ r2) l r (k + 1) d (r1.length + b) q = .non
          rw [hs, show M.cr (r1 ++ r2) l r k d' (r1.length + b') t.q = .non from hk]; rfl
        | stop w =>
          rw [e] at hk
          show M.cr (r1 ++ r2) l r (k + 1) d (r1.length + b) q = .stop (t.pc ++ w)
          rw [hs, show M.cr (r1 ++ r2) l r k d' (r1.length + b') t.q = .stop w from hk]; rfl
        | out s q' w =>
          rw [e] at hk
          cases s with
          | true =>
            show M.cr (r1 ++ r2) l r (k + 1) d (r1.length + b) q = .out true q' (t.pc ++ w)
            rw [hs, show M.cr (r1 ++ r2) l r k d' (r1.length + b') t.q = .out true q' w from hk]; rfl
          | false =>
            obtain ⟨k', hk', _, he⟩ := hk
            refine ⟨k', by omega, .inl (by omega), fun j => ?_⟩
            rw [show k + 1 + j = (k + j) + 1 by omega, hs, he, pre_pre]
      unfold Mc.act
      cases et : M.stp r2 (M.mul l (M.worth r1)) r (plc d b) q with
      | none =>
        show M.cr (r1 ++ r2) l r (k + 1) d (r1.length + b) q = .non
        rw [cr_succ _ _ hI]
        unfold Mc.act
        rw [es, et]
      | some t =>
        have et' : M.stp (r1 ++ r2) l r (plc d (r1.length + b)) q = some t := es.trans et
        simp only []
        cases em : t.mv with
        | stop =>
          show M.cr (r1 ++ r2) l r (k + 1) d (r1.length + b) q = .stop t.pc
          rw [cr_succ _ _ hI]
          exact (act_non et').1 em
        | right => exact go t true (plc d b + 1) hp fun k' => by rw [(act_non et').2.1 em, epl, Nat.add_assoc]
        | left => exact go t false (plc d b) (Nat.le_of_lt hp) fun k' => by rw [(act_non et').2.2 em, epl]
end

/-! ### the walk through two stretches, as the program has it -/
structure Wk where
  wh : Bool
  side : Bool
  q : Nat
  done : List Int
  seen : List (Bool × Nat)
inductive WR where
  | fin (d : Dd)
  | go (w : Wk)
def wstep (F1 F2 : Bool → Nat → Dd) (w : Wk) : WR := match (if w.wh then F2 w.side w.q else F1 w.side w.q) with
  | .non => .fin .non
  | .stop v => .fin (.stop (w.done ++ v))
  | .out s q v => if s = w.wh then .fin (.out s q (w.done ++ v)) else
      if (!w.wh, q) ∈ w.seen then .fin .non else .go ⟨!w.wh, !s, q, w.done ++ v, w.seen ++ [(!w.wh, q)]⟩
def bnd (a n : Nat) (wh side : Bool) : Nat := if wh then (if side then n else a) else (if side then a else 0)

section
variable {M : Mc} {r1 r2 : List Nat} {l r : Nat}
/-- the whole's deed from a boundary -/
abbrev DD (M : Mc) (r1 r2 : List Nat) (l r : Nat) (d : Bool) (b q : Nat) : Dd := M.cr (r1 ++ r2) l r (M.S * (r1 ++ r2).length + 1) d b q
abbrev GG (M : Mc) (r1 r2 : List Nat) (l r k : Nat) (d : Bool) (b q : Nat) : Dd := M.cr (r1 ++ r2) l r k d b q
structure WInv (M : Mc) (r1 r2 : List Nat) (l r : Nat) (T : Dd) (w : Wk) : Prop where
  tgt : T = Dd.pre w.done (DD M r1 r2 l r (!w.side) (bnd r1.length (r1 ++ r2).length w.wh w.side) w.q)
  q_lt : w.q < M.S
  old : ∀ x ∈ w.seen, ∀ k, GG M r1 r2 l r k x.1 r1.length x.2 ≠ .non → GG M r1 r2 l r k (!w.side) (bnd r1.length (r1 ++ r2).length w.wh w.side) w.q ≠ .non
  inner : w.seen = [] ∨ w.side = !w.wh
  nd : w.seen.Nodup
  lt : ∀ x ∈ w.seen, x.2 < M.S
/-- one deed within the whole -/
structure Part (M : Mc) (r1 r2 : List Nat) (l r : Nat) (wh side : Bool) (q : Nat) (d : Dd) : Prop where
  non : d = .non → DD M r1 r2 l r (!side) (bnd r1.length (r1 ++ r2).length wh side) q = .non
  stop : ∀ v, d = .stop v → DD M r1 r2 l r (!side) (bnd r1.length (r1 ++ r2).length wh side) q = .stop v
  same : ∀ q' v, d = .out wh q' v → DD M r1 r2 l r (!side) (bnd r1.length (r1 ++ r2).length wh side) q = .out wh q' v
  cross : ∀ q' v, d = .out (!wh) q' v → q' < M.S ∧ DD M r1 r2 l r (!side) (bnd r1.length (r1 ++ r2).length wh side) q = Dd.pre v (DD M r1 r2 l r (!wh) r1.length q') ∧
    ∀ k, GG M r1 r2 l r k (!side) (bnd r1.length (r1 ++ r2).length wh side) q ≠ .non → ∃ k', k' ≤ k ∧ GG M r1 r2 l r k' (!wh) r1.length q' ≠ .non ∧ (side = !wh → k' < k)
theorem bnd_le {a n : Nat} (h : a ≤ n) (wh side : Bool) : bnd a n wh side ≤ n := by
  unfold bnd
  cases wh <;> cases side <;> simp <;> omega
theorem part_fst (ok : M.Ok) (h1 : M.Row r1) (h2 : M.Row r2) (hr : r < M.m) {side : Bool} {q : Nat} (hq : q < M.S) :
    Part M r1 r2 l r false side q (M.deed r1 l (M.mul (M.worth r2) r) side q) := by
  have hlen : (r1 ++ r2).length = r1.length + r2.length := List.length_append
  have hN : M.S * r1.length + 1 ≤ M.S * (r1 ++ r2).length + 1 := by
    rw [hlen]
    exact Nat.succ_le_succ (Nat.mul_le_mul_left _ (Nat.le_add_right _ _))
  have eb : bnd r1.length (r1 ++ r2).length false side = if side then r1.length else 0 := rfl
  unfold Mc.deed
  have hb1 : (if side then r1.length else 0) ≤ r1.length := by cases side <;> simp
  have hb : (if side then r1.length else 0) ≤ (r1 ++ r2).length := by rw [hlen]; cases side <;> simp
  have hedge : side = !false → ¬ ((!side) = true ∧ (if side then r1.length else 0) = r1.length) := fun z => by subst z; simp
  have LK := fun k => link_a ok h1 h2 (l := l) hr k (!side) (if side then r1.length else 0) q hb1
  have one := @lim M r1 l (M.mul (M.worth r2) r) ok
  refine ⟨fun e => ?_, fun v e => ?_, fun q' v e => ?_, fun q' v e => ?_⟩ <;> rw [eb]
  · -- none at this fuel, none at any
    have h := LK (M.S * (r1 ++ r2).length + 1)
    have z : M.cr r1 l (M.mul (M.worth r2) r) (M.S * (r1 ++ r2).length + 1) (!side) (if side then r1.length else 0) q = .non := by
      by_cases c : M.cr r1 l (M.mul (M.worth r2) r) (M.S * (r1 ++ r2).length + 1) (!side) (if side then r1.length else 0) q = .non
      · exact c
      · have := one hb1 hq c
        rw [e] at this
        exact this.symm
    rw [z] at h
    exact h
  · have h := LK (M.S * r1.length + 1)
    rw [e] at h
    have h : M.cr (r1 ++ r2) l r (M.S * r1.length + 1) (!side) (if side then r1.length else 0) q = .stop v := h
    show M.cr (r1 ++ r2) l r (M.S * (r1 ++ r2).length + 1) (!side) _ q = _
    rw [cr_le hN (by rw [h]; intro z; cases z), h]
  · have h := LK (M.S * r1.length + 1)
    rw [e] at h
    have h : M.cr (r1 ++ r2) l r (M.S * r1.length + 1) (!side) (if side then r1.length else 0) q = .out false q' v := h
    show M.cr (r1 ++ r2) l r (M.S * (r1 ++ r2).length + 1) (!side) _ q = _
    rw [cr_le hN (by rw [h]; intro z; cases z), h]
  · have hq' : q' < M.S := cr_out_lt ok _ _ _ _ hq _ _ _ e
    have h := LK (M.S * r1.length + 1)
    rw [e] at h
    obtain ⟨k', hk', _, he⟩ := h
    refine ⟨hq', ?_, fun k hk => ?_⟩
    · have := he (M.S * (r1 ++ r2).length + 1)
      rw [lim_add ok _ hb hq, lim_add ok _ (by omega) hq'] at this
      exact this
    · have h2 := LK k
      have z : M.cr r1 l (M.mul (M.worth r2) r) k (!side) (if side then r1.length else 0) q = .out true q' v := by
        by_cases c : M.cr r1 l (M.mul (M.worth r2) r) k (!side) (if side then r1.length else 0) q = .non
        · rw [c] at h2
          exact absurd h2 hk
        · rw [← one hb1 hq c]
          exact e
      rw [z] at h2
      obtain ⟨j, hj, hs, hj2⟩ := h2
      refine ⟨j, hj, fun c => hk ?_, fun c => ?_⟩
      · have := hj2 0
        rw [Nat.add_zero, Nat.add_zero, show M.cr (r1 ++ r2) l r j true r1.length q' = .non from c] at this
        exact this
      · rcases hs with hs | hs
        · exact hs
        · exact absurd hs (hedge c)
theorem part_snd (ok : M.Ok) (h1 : M.Row r1) (h2 : M.Row r2) (hl : l < M.m) {side : Bool} {q : Nat} (hq : q < M.S) :
    Part M r1 r2 l r true side q (M.deed r2 (M.mul l (M.worth r1)) r side q) := by
  have hlen : (r1 ++ r2).length = r1.length + r2.length := List.length_append
  have hN : M.S * r2.length + 1 ≤ M.S * (r1 ++ r2).length + 1 := by
    rw [hlen]
    exact Nat.succ_le_succ (Nat.mul_le_mul_left _ (Nat.le_add_left _ _))
  have eb : bnd r1.length (r1 ++ r2).length true side = r1.length + if side then r2.length else 0 := by
    unfold bnd
    cases side <;> simp [hlen]
  unfold Mc.deed
  have hb1 : (if side then r2.length else 0) ≤ r2.length := by cases side <;> simp
  have hb : bnd r1.length (r1 ++ r2).length true side ≤ (r1 ++ r2).length := bnd_le (by omega) _ _
  have hedge : side = !true → ¬ ((!side) = false ∧ (if side then r2.length else 0) = 0) := fun z => by subst z; simp
  rw [eb] at hb
  have LK := fun k => link_b ok h1 h2 (r := r) hl k (!side) (if side then r2.length else 0) q hb1
  have one := @lim M r2 (M.mul l (M.worth r1)) r ok
  refine ⟨fun e => ?_, fun v e => ?_, fun q' v e => ?_, fun q' v e => ?_⟩ <;> rw [eb]
  · have h := LK (M.S * (r1 ++ r2).length + 1)
    have z : M.cr r2 (M.mul l (M.worth r1)) r (M.S * (r1 ++ r2).length + 1) (!side) (if side then r2.length else 0) q = .non := by
      by_cases c : M.cr r2 (M.mul l (M.worth r1)) r (M.S * (r1 ++ r2).length + 1) (!side) (if side then r2.length else 0) q = .non
      · exact c
      · have := one hb1 hq c
        rw [e] at this
        exact this.symm
    rw [z] at h
    exact h
  · have h := LK (M.S * r2.length + 1)
    rw [e] at h
    have h : M.cr (r1 ++ r2) l r (M.S * r2.length + 1) (!side) (r1.length + if side then r2.length else 0) q = .stop v := h
    show M.cr (r1 ++ r2) l r (M.S * (r1 ++ r2).length + 1) (!side) _ q = _
    rw [cr_le hN (by rw [h]; intro z; cases z), h]
  · have h := LK (M.S * r2.length + 1)
    rw [e] at h
    have h : M.cr (r1 ++ r2) l r (M.S * r2.length + 1) (!side) (r1.length + if side then r2.length else 0) q = .out true q' v := h
    show M.cr (r1 ++ r2) l r (M.S * (r1 ++ r2).length + 1) (!side) _ q = _
    rw [cr_le hN (by rw [h]; intro z; cases z), h]
  · have hq' : q' < M.S := cr_out_lt ok _ _ _ _ hq _ _ _ e
    have h := LK (M.S * r2.length + 1)
    rw [e] at h
    obtain ⟨k', hk', _, he⟩ := h
    refine ⟨hq', ?_, fun k hk => ?_⟩
    · have := he (M.S * (r1 ++ r2).length + 1)
      rw [lim_add ok _ hb hq, lim_add ok _ (by omega) hq'] at this
      exact this
    · have h2 := LK k
      have z : M.cr r2 (M.mul l (M.worth r1)) r k (!side) (if side then r2.length else 0) q = .out false q' v := by
        by_cases c : M.cr r2 (M.mul l (M.worth r1)) r k (!side) (if side then r2.length else 0) q = .non
        · rw [c] at h2
          exact absurd h2 hk
        · rw [← one hb1 hq c]
          exact e
      rw [z] at h2
      obtain ⟨j, hj, hs, hj2⟩ := h2
      refine ⟨j, hj, fun c => hk ?_, fun c => ?_⟩
      · have := hj2 0
        rw [Nat.add_zero, Nat.add_zero, show M.cr (r1 ++ r2) l r j false r1.length q' = .non from c] at this
        exact this
      · rcases hs with hs | hs
        · exact hs
        · exact absurd hs (hedge c)
/-- the start -/
theorem winv_start {side : Bool} {q : Nat} (hq : q < M.S) : WInv M r1 r2 l r (M.deed (r1 ++ r2) l r side q) ⟨side, side, q, [], []⟩ := by
  refine ⟨?_, hq, fun x hx => (by simp at hx), .inl rfl, List.nodup_nil, fun x hx => (by simp at hx)⟩
  rw [pre_nil]
  cases side <;> rfl
/-- a step keeps the target; where it ends it has found it -/
theorem wstep_ok (ok : M.Ok) (h1 : M.Row r1) (h2 : M.Row r2) (hl : l < M.m) (hr : r < M.m) {T : Dd} {w : Wk} (I : WInv M r1 r2 l r T w) :
    match wstep (M.deed r1 l (M.mul (M.worth r2) r)) (M.deed r2 (M.mul l (M.worth r1)) r) w with
    | .fin d => d = T
    | .go w' => WInv M r1 r2 l r T w' ∧ w'.seen.length = w.seen.length + 1 := by
  obtain ⟨wh, side, q, done, seen⟩ := w
  obtain ⟨tgt, hq, old, inner, nd, hlt⟩ := I
  simp only at tgt hq old inner nd hlt
  have P : Part M r1 r2 l r wh side q (if wh then M.deed r2 (M.mul l (M.worth r1)) r side q else M.deed r1 l (M.mul (M.worth r2) r) side q) := by
    cases wh
    · exact part_fst ok h1 h2 hr hq
    · exact part_snd ok h1 h2 hl hq
  unfold wstep
  simp only
  cases e : (if wh then M.deed r2 (M.mul l (M.worth r1)) r side q else M.deed r1 l (M.mul (M.worth r2) r) side q) with
  | non =>
    simp only
    rw [tgt, P.non e]; rfl
  | stop v =>
    simp only
    rw [tgt, P.stop v e]; rfl
  | out s q' v =>
    simp only
    by_cases hs : s = wh
    · subst hs
      rw [if_pos rfl]
      simp only
      rw [tgt, P.same q' v e]; rfl
    · rw [if_neg hs]
      obtain rfl : s = !wh := by revert hs; cases s <;> cases wh <;> simp
      obtain ⟨hq', hD, hk⟩ := P.cross q' v e
      have oldD : ∀ x ∈ seen, ∀ k, GG M r1 r2 l r k x.1 r1.length x.2 ≠ .non → ∃ k', k' < k ∧ GG M r1 r2 l r k' (!wh) r1.length q' ≠ .non := fun x hx k hn => by
        obtain ⟨k', _, h3, h4⟩ := hk k (old x hx k hn)
        refine ⟨k', h4 ?_, h3⟩
        rcases inner with z | z
        · rw [z] at hx; simp at hx
        · exact z
      by_cases hm : (!wh, q') ∈ seen
      · rw [if_pos hm]
        simp only
        -- it never ends
        have never : ∀ k, GG M r1 r2 l r k (!wh) r1.length q' = .non := by
          intro k
          induction k using Nat.strongRecOn with
          | _ k ih =>
            by_cases c : GG M r1 r2 l r k (!wh) r1.length q' = .non
            · exact c
            · obtain ⟨k', h3, h4⟩ := oldD _ hm k c
              exact absurd (ih k' h3) h4
        rw [tgt, hD, show DD M r1 r2 l r (!wh) r1.length q' = .non from never _]; rfl
      · rw [if_neg hm]
        simp only
        have eb : bnd r1.length (r1 ++ r2).length (!wh) wh = r1.length := by cases wh <;> rfl
        refine ⟨⟨?_, hq', fun x hx k hn => ?_, .inr (by simp), ?_, fun x hx => ?_⟩, by simp⟩
        · simp only [Bool.not_not]
          rw [tgt, hD, pre_pre, eb]
        · simp only [Bool.not_not]
          rw [eb]
          rcases List.mem_append.mp hx with hx | hx
          · obtain ⟨k', h3, h4⟩ := oldD x hx k hn
            rw [show GG M r1 r2 l r k (!wh) r1.length q' = GG M r1 r2 l r k' (!wh) r1.length q' from cr_le (Nat.le_of_lt h3) h4]
            exact h4
          · obtain rfl := List.mem_singleton.mp hx
            exact hn
        · refine List.nodup_append.mpr ⟨nd, by simp, fun a ha b hb z => ?_⟩
          obtain rfl := List.mem_singleton.mp hb
          subst z
          exact hm ha
        · rcases List.mem_append.mp hx with hx | hx
          · exact hlt x hx
          · obtain rfl := List.mem_singleton.mp hx
            exact hq'
/-- seen never has more than two entries a state -/
theorem seen_le {T : Dd} {w : Wk} (I : WInv M r1 r2 l r T w) : w.seen.length ≤ 2 * M.S := by
  have e := List.Nodup.length_le_of_subset (l₁ := w.seen) (l₂ := (List.range M.S).map (fun q => (false, q)) ++ (List.range M.S).map (fun q => (true, q))) I.nd ?_
  · have : ((List.range M.S).map (fun q => (false, q)) ++ (List.range M.S).map (fun q => (true, q))).length = 2 * M.S := by
      rw [List.length_append, List.length_map, List.length_map, List.length_range]; omega
    rw [this] at e
    exact e
  · rintro ⟨b, q⟩ hx
    have hq := I.lt _ hx
    cases b
    · exact List.mem_append_left _ (List.mem_map.mpr ⟨q, List.mem_range.mpr hq, rfl⟩)
    · exact List.mem_append_right _ (List.mem_map.mpr ⟨q, List.mem_range.mpr hq, rfl⟩)
end
end K36
/-! equality of tuples that hold dicts whose keys are tuples: the case of equal things -/
namespace K36
open PySem PySem.Spec PyProof.Rows L2
section
variable {prog : Program} {w : World} {K : Type} [DecidableEq K] {knd : HeapKind prog w K} {A : Around} {E : Value → Shared → Prop} {s : Shared}
theorem pairs_eq {nm : String} {a b : Addr} {ka kb : List (K × Addr × Value)} {Q : Bool → Shared → Prop} (hu : knd.room A) (ha : (a == sysModules) = false) (hb : (b == sysModules) = false)
    (da : s.heap.DictOfH knd a ka) (db : s.heap.DictOfH knd b kb) (hl : ka.length = kb.length) (hits : ∀ x ∈ ka, ∃ p, atKey kb x.1 = some p ∧ SeqAt.EqIn prog w A s x.2.2 p.2 true) (h : Q true s) :
    wpAny (model prog w) A (Builtin.Dict.samePairs nm a b) Q E s := by
  obtain ⟨oa, ea, epa, hoa, _, hda, hea, hia, hna⟩ := da
  obtain ⟨ob, eb, epb, hob, _, hdb, heb, hib, hnb⟩ := db
  have sa : ea.size = ka.length := size_of_entries hea
  have sb : eb.size = kb.length := size_of_entries heb
  have ss : ea.size = eb.size := by rw [sa, sb, hl]
  have na : ¬ (a == sysModules) = true := by rw [ha]; simp
  have nb : ¬ (b == sysModules) = true := by rw [hb]; simp
  unfold Builtin.Dict.samePairs Builtin.Dict.showsAll
  rw [if_neg na, if_neg nb]
  refine wpAny_bind (wpAny_pure (wpAny_bind (wpAny_pure (wpAny_bind (wpAny_dictEntries hoa hda ?_)))))
  dsimp only
  refine wpAny_bind (wpAny_dictEntries hob hdb ?_)
  rw [if_neg (show ¬ (ea.size != eb.size) = true by rw [ss]; simp)]
  refine wpAny_bind (wpAny_dictEpoch hoa hda (wpAny_bind ?_))
  rw [Std.Legacy.Range.forIn_eq_forIn_range']
  simp only [Std.Legacy.Range.size, Nat.sub_zero, Nat.add_sub_cancel, Nat.div_one]
  refine wpAny_forIn_list _ (fun rest q s' => s' = s ∧ q = (none, ()) ∧ ∃ i, i ≤ ea.size ∧ rest = List.range' i (ea.size - i)) _ ?_ ?_ _ _ ⟨rfl, rfl, 0, Nat.zero_le _, by simp⟩
  · rintro x rest q s' ⟨rfl, rfl, i, hi, hr⟩
    obtain ⟨n, hn⟩ : ∃ n, ea.size - i = n + 1 := by
      cases e : ea.size - i with
      | zero => rw [e] at hr; cases hr
      | succ n => exact ⟨n, rfl⟩
    rw [hn, List.range'_succ] at hr
    obtain ⟨rfl, hrest⟩ := List.cons.inj hr
    have hlt : x < ka.length := by omega
    refine wpAny_bind (wpAny_dictEntries hoa hda ?_)
    rw [entry_at hea x, List.getElem?_eq_getElem hlt]
    have hm : ka[x] ∈ ka := List.getElem_mem hlt
    obtain ⟨p, hp, he⟩ := hits _ hm
    have hkey := hia _ hm
    revert hp he hkey
    generalize ka[x] = y
    intro hp he hkey
    show wpAny _ _ (holding [(entryOfKey knd y).key, (entryOfKey knd y).val] _ >>= _) _ _ _
    refine wpAny_bind (wpAny_holding (wpAny_bind (wpAny_dictFind_heap hu hkey hob hdb heb hib hnb (fun no => ?_) fun j p' hj => ?_)))
    · rw [atKey_none_of_get no] at hp
      cases hp
    · have ep : p' = p := Option.some.inj ((atKey_of_get hnb hj).symm.trans hp)
      subst ep
      refine wpAny_bind (wpAny_dictEntries hob hdb ?_)
      rw [entry_at heb j, hj]
      refine wpAny_holding (he _ _ ?_)
      show wpAny _ _ (if (!true) = true then _ else _) _ _ _
      rw [if_neg (by decide)]
      refine wpAny_bind (wpAny_dictEpoch hoa hda ?_)
      rw [if_neg (by simp)]
      exact wpAny_pure ⟨rfl, rfl, x + 1, by omega, by rw [hrest]; congr 1; omega⟩
  · rintro q s' ⟨rfl, rfl, i, hi, hr⟩
    exact wpAny_pure h
theorem rc_dicts {a b : Addr} {ka kb : List (K × Addr × Value)} (ha : (a == sysModules) = false) (hb : (b == sysModules) = false) (da : s.heap.DictOfH knd a ka) (db : s.heap.DictOfH knd b kb) (hr : knd.room A.in1) (hu : A.units < cLine)
    (hl : ka.length = kb.length) (hits : ∀ x ∈ ka, ∃ p, atKey kb x.1 = some p ∧ SeqAt.EqIn prog w A.in1 s x.2.2 p.2 true) (E Q : Value → Shared → Prop) (h : Q (.bool true) s) : wpAny (model prog w) A (richCompare .Eq (.ref a) (.ref b)) Q E s := by
  refine wpAny_richCompare_same_room (op := .Eq) da.typeIs db.typeIs PySem.F.slot_dict_eq (wpAny_call_entry PySem.F.slot_dict_eq da.typeIs PySem.F.entry_dict_eq ?_ (PySem.F.args_dict_eq_2 _ _)) hu
  show wpAny _ _ (Builtin.Dict.dictSlotArgs "__eq__" ⟨[.ref a, .ref b], []⟩ >>= _) _ _ s
  refine wpAny_bind ?_
  unfold Builtin.Dict.dictSlotArgs
  refine wpAny_bind (wpAny_notOrdered_dict da.typeIs ?_)
  refine wpAny_pure (a := (Value.ref a, Value.ref b)) (wpAny_bind (wpAny_isInstance (T := "dict") db.typeIs PySem.F.sub_dict_dict ?_))
  simp only [Bool.not_true, Bool.false_eq_true, if_false]
  refine wpAny_bind (wpAny_pure (wpAny_bind (wpAny_pure (wpAny_bind (pairs_eq hr ha hb da db hl hits ?_)))))
  exact wpAny_pure ⟨_, rfl, (fun z => nomatch z), h⟩
end
section
variable {prog : Program} {w : World}
open PySem.SeqAt (EqIn)
open AutoSeq1 (wpAny_loadPart')
/-- two tuples of two things each, equal one by one: they are not unequal -/
theorem tup2_ne (l b : Addr) (x y u v : Value) (n n2 : Nat) (dd dd2 : Option Addr) (sl sl2 : Array (Option Value)) :
    MeetsIn prog w (Builtin.«tuple.__ne__» ⟨[.ref l, .ref b], []⟩)
      (fun A R s => s.heap.get? l = some { cls := .type "tuple", dict := dd, data := .seq #[x, y] n, slots := sl } ∧ s.heap.get? b = some { cls := .type "tuple", dict := dd2, data := .seq #[u, v] n2, slots := sl2 } ∧
        EqIn prog w A.in1 s x u true ∧ EqIn prog w A.in1 s y v true ∧ R (.ok (.ret (.bool false))) s) :=
  .of_wp fun A R s h => by
    obtain ⟨hp, g, d, tk, os⟩ := s; obtain ⟨hl, hb, h1, h2, h⟩ := h
    have f2 := AutoSeq1.sub_tuple_tuple
    wp_walk using wpAny_loadPart' hl, wpAny_loadPart' hb, wpAny_forIn_list _ (fun rest r s' => r.1 = none ∧ s' = ⟨hp, g, d, tk, os⟩ ∧ (∀ p ∈ rest, EqIn prog w A.in1 ⟨hp, g, d, tk, os⟩ p.1 p.2 true)) _
    case turn =>
      rintro ⟨p, q⟩ rest r s' ⟨hr, rfl, hall⟩
      have he := hall (p, q) List.mem_cons_self
      refine wpAny_bind (he _ _ ?_)
      wp_walk
      exact ⟨rfl, rfl, fun z hz => hall z (List.mem_cons_of_mem _ hz)⟩
    case fin =>
      rintro ⟨b1, b2⟩ s' ⟨hr, rfl, _⟩
      simp only at hr
      subst hr
      wp_walk
      exact ⟨_, rfl, by simpa [Builtin.Tuple.tupleCompareSizes] using h⟩
    case h =>
      refine ⟨rfl, rfl, fun p hp => ?_⟩
      have : p ∈ [(x, u), (y, v)] := by simpa using hp
      rcases List.mem_cons.mp this with rfl | this
      · exact h1
      · obtain rfl := List.mem_singleton.mp this
        exact h2
end
end K36
/-! the rule: a != b of two pairs (a number, a dict with tuple keys) that are equal -/
namespace K36
open PySem PySem.Spec PyProof.Rows L2
theorem kt_keys {H : Hp} {kvs : List (List Key × V)} {xs : List (List Key × Addr × Value)} (r : KT H kvs xs) : kvs.map (·.1) = xs.map (·.1) := by
  unfold KT at r
  induction r with
  | nil => rfl
  | cons h _ ih => rw [List.map_cons, List.map_cons, ih, h.1]
theorem val_mem {κ : Type} [DecidableEq κ] {kvs : List (κ × V)} {k : κ} : (valV kvs k).isSome = true ↔ k ∈ kvs.map (·.1) := by
  rw [← valV_any, List.any_eq_true]
  constructor
  · rintro ⟨p, hp, e⟩
    exact List.mem_map.mpr ⟨p, hp, of_decide_eq_true e⟩
  · intro h
    obtain ⟨p, hp, e⟩ := List.mem_map.mp h
    exact ⟨p, hp, decide_eq_true e⟩
/-- equal values, of nesting told by data -/
def SameD (K : PySem.W.Frag) (H : Hp) (x y : V) : Prop := ∃ d, Dp K H x d ∧ Dp K H y d ∧ SeqAt.shaped d = true
def rNeS (K : PySem.W.Frag) : R2 := fun x y H Q => ∃ (a b da db : Addr) (n : Int) (ka kb : List (List Key × V)), x = .ref a ∧ y = .ref b ∧ SqT K H a [.int n, .ref da] ∧ SqT K H b [.int n, .ref db] ∧ H da = some (.dT ka) ∧ H db = some (.dT kb) ∧
  (∀ k, (valV ka k).isSome = (valV kb k).isSome) ∧ (∀ k x y, valV ka k = some x → valV kb k = some y → SameD K H x y) ∧ Q (.bl false) H
section
variable {X : Cx} {pins : List (Addr × Obj)} {σ : L2.St} {H : Hp} {s : Shared}
theorem sameD_run (I : Inv X pins σ H s) {A : Around} (hu : A.units + 64 < cLine) {x y : V} {v u : Value} (h : SameD X.K H x y) (rx : RelV x v) (ry : RelV y u) : SeqAt.EqIn X.prog X.w A s v u true := by
  obtain ⟨d, h1, h2, sh⟩ := h
  obtain ⟨as, r1⟩ := Dp.reads I d x v h1 rx
  obtain ⟨bs, r2⟩ := Dp.reads I d y u h2 ry
  have e := SeqAt.eqAt_reads d d A s v u as bs r1 r2 (SeqAt.canLay_of_shaped sh) (SeqAt.canLay_of_shaped sh) (SeqAt.room_of_shaped sh hu)
  rw [SeqAt.eqv_refl d (SeqAt.canLay_of_shaped sh)] at e
  exact e.inModel _ _
theorem dicts_run (I : Inv X pins σ H s) {A : Around} (hu : A.units + 70 < cLine) {da db : Addr} {ka kb : List (List Key × V)} (ha : H da = some (.dT ka)) (hb : H db = some (.dT kb)) (hk : ∀ k, (valV ka k).isSome = (valV kb k).isSome)
    (hv : ∀ k x y, valV ka k = some x → valV kb k = some y → SameD X.K H x y) : SeqAt.EqIn X.prog X.w A s (.ref da) (.ref db) true := by
  obtain ⟨_, sa, xa, ra, dda⟩ := dt_of I.hok ha
  obtain ⟨_, sb, xb, rb, ddb⟩ := dt_of I.hok hb
  by_cases hne : da = db
  · subst hne
    exact (SeqAt.EqAt.same _).inModel _ _
  · have na : (xa.map (·.1)).Nodup := by obtain ⟨_, _, _, _, _, _, _, _, n⟩ := dda; exact n
    have nb : (xb.map (·.1)).Nodup := by obtain ⟨_, _, _, _, _, _, _, _, n⟩ := ddb; exact n
    have hl : xa.length = xb.length := by
      have e : xa.map (·.1) ⊆ xb.map (·.1) := fun k m => by
        rw [← kt_keys ra, ← val_mem, hk k, val_mem, kt_keys rb] at m; exact m
      have e' : xb.map (·.1) ⊆ xa.map (·.1) := fun k m => by
        rw [← kt_keys rb, ← val_mem, ← hk k, val_mem, kt_keys ra] at m; exact m
      have l1 := List.Nodup.length_le_of_subset na e
      have l2 := List.Nodup.length_le_of_subset nb e'
      rw [List.length_map, List.length_map] at l1 l2
      omega
    refine SeqAt.EqIn.of_refs hne fun E Q q => ?_
    refine rc_dicts (knd := tupleKind (mixKind X.prog X.w)) sa sb dda ddb (show A.units + 1 < cLine by omega) (by omega) hl (fun z hz => ?_) E Q q
    obtain ⟨i, hi⟩ := List.mem_iff_getElem?.mp hz
    have ea : atKey xa z.1 = some z.2 := atKey_of_get na hi
    have r1 := KT.val ra z.1
    rw [ea] at r1
    have s1 : (valV ka z.1).isSome = true := by
      rw [val_mem, kt_keys ra]
      exact List.mem_map.mpr ⟨z, hz, rfl⟩
    obtain ⟨vx, ex⟩ := Option.isSome_iff_exists.mp s1
    rw [hk] at s1
    obtain ⟨vy, ey⟩ := Option.isSome_iff_exists.mp s1
    have r2 := KT.val rb z.1
    rw [ey] at r2
    rw [ex] at r1
    cases eb : atKey xb z.1 with
    | none => rw [eb] at r2; exact r2.elim
    | some p =>
      rw [eb] at r2
      exact ⟨p, rfl, sameD_run I (A := A.in1) (show A.units + 1 + 64 < cLine by omega) (hv z.1 vx vy ex ey) r1 r2⟩
end
section
variable {X : Cx}
theorem op_neS (hu : X.A.units + 80 < cLine) : OpR X (compareOp .NotEq) (rNeS X.K) := by
  intro pins s σ H x y v u Q I rx ry h
  obtain ⟨a, b, da, db, n, ka, kb, rfl, rfl, ha, hb, hda, hdb, hk, hv, q⟩ := h
  cases rx
  cases ry
  obtain ⟨its, r1, p1, _⟩ := I.tuple ha
  obtain ⟨its2, r2, p2, _⟩ := I.tuple hb
  obtain ⟨i1, i2, rfl, q1, q2⟩ := vals2 r1
  obtain ⟨j1, j2, rfl, q3, q4⟩ := vals2 r2
  obtain ⟨t, rfl⟩ := q1
  obtain ⟨t', rfl⟩ := q3
  cases q2
  cases q4
  obtain ⟨⟨cls, dd, data, sl⟩, ho, hc, m, hd⟩ := id p1
  obtain ⟨⟨cls2, dd2, data2, sl2⟩, ho2, hc2, m2, hd2⟩ := id p2
  simp only at hc hd hc2 hd2
  subst hc hd hc2 hd2
  have ta : s.TypeIs (.ref a) "tuple" := ⟨_, ho, rfl⟩
  have tb : s.TypeIs (.ref b) "tuple" := ⟨_, ho2, rfl⟩
  refine wpAny_richCompare_same_room (op := .NotEq) ta tb PySem.F.slot_tuple_ne (call_meetsIn PySem.F.slot_tuple_ne ta PySem.F.entry_tuple_ne (PySem.F.args_tuple_ne_2 _ _) (tup2_ne a b _ _ _ _ m m2 dd dd2 sl sl2) ⟨ho, ho2, ?_, ?_, ?_⟩) (by omega)
  · have e := SeqAt.eqAt_reads (.int n) (.int n) X.A.in1 s _ _ _ _ (Reads.int n t) (Reads.int n t') rfl rfl (by show X.A.units + 1 + _ < cLine; simp [PyData.depth]; omega)
    rw [SeqAt.eqv_refl (.int n) rfl] at e
    exact e.inModel _ _
  · exact dicts_run I (A := X.A.in1) (show X.A.units + 1 + 70 < cLine by omega) hda hdb hk hv
  · exact ⟨(fun z => nomatch z), ⟨.bl false, H, I, rfl, q⟩⟩
end
end K36
/-! small rules over the layer: an attribute within a target, a range as a value and walked, a class without __init__ -/
namespace K36
open PySem PySem.Spec PyProof.Rows L2
section
variable {X : Cx}
/-- o.f = .. within a target -/
def gFld (K : PySem.W.Frag) (ta : TE) (f : Str) : TG := fun v σ H Q => ta σ H fun x H1 => ∃ a C dx fs, x = .ref a ∧ H1 a = some (.ins C dx fs) ∧ Cls K C ∧ NoAttr K C f ∧ fs.length < 1000 ∧ Q σ (upd H1 a (.ins C dx (putF f v fs)))
theorem pg_fld {o : Expr} {f : Str} {pos : Pos} {ta : TE} (ha : PE X o ta) : PG X (.Attribute o f pos) (gFld X.K ta f) := by
  refine ⟨fun pins s σ H v u Q I r h => PySem.W.kas_attr (thn (ha.run pins s σ H _ I h) fun ov s1 hx => ?_)⟩
  obtain ⟨x, H1, I1, rx, a, C, dx, fs, ex, ea, c, n, l, q⟩ := hx
  subst ex
  obtain rfl : ov = Value.ref a := rx
  exact setattr_ok I1 ea c n l r fun s2 I2 => ⟨σ, _, I2, q⟩
/-- range(n), a value -/
theorem cr_rng : CallR X (.type "range") (fun vs H Q => ∃ j, vs = [V.int j] ∧ ∀ p, H p = none → Q (.ref p) (upd H p (.rng 0 j))) := by
  intro pins s σ H vs us Q I r h
  obtain ⟨j, rfl, q⟩ := h
  cases r with
  | cons r1 rr =>
    cases rr
    obtain ⟨t, rfl⟩ := r1
    have hn : H s.heap.objs.size = none := I.hok.fresh (Nat.le_refl _)
    exact call_range_1 ⟨.ref s.heap.objs.size, upd H s.heap.objs.size (.rng 0 j), I.laid (t' := s.toks + 1 + 1) (fun b o e => Heap.get?_push_of_some _ e) (Nat.le_refl _) ⟨_, _, _, Heap.get?_push_size _ rfl⟩, rfl, q _ hn⟩
/-- a range that stands at an address, walked -/
def iRngV (tl : TE) : TI := fun σ H R => tl σ H fun x H1 => ∃ a j, x = .ref a ∧ H1 a = some (.rng 0 j) ∧ (-(2 ^ 62) ≤ j ∧ j < 2 ^ 62) ∧ R (Itr 0 j.toNat) H1
theorem pi_rngv {tg l : Expr} {tl : TE} (hl : PE X l tl) : PI X tg l (iRngV tl) := by
  refine ⟨fun pins s σ H R I h => thn (hl.run pins s σ H _ I h) fun v s1 hx => ?_⟩
  obtain ⟨x, H1, I1, r1, a, j, e, ea, ⟨h1, h2⟩, q⟩ := hx
  subst e
  obtain rfl : v = Value.ref a := r1
  obtain ⟨t, u, z, ho⟩ := I1.hok a _ ea
  refine wpAny_pyIter_range (show IsRange s1.heap a 0 j 1 t u z from ho) (small_one (by omega) (by omega) h1 h2) ?_
  refine ⟨s1.heap.objs.size, [s1.heap.objs.size], _, _, H1, rfl, I1.kept (t' := s1.toks) fun b o e => Heap.get?_push_of_some _ e, turn_range _ 0 j.toNat, ?_, fun b hb => ?_, q⟩
  · have e1 : (0 : Int) + ((0 : Nat) : Int) * 1 = 0 := by simp
    have e2 : ((j.toNat : Nat) : Int) - ((0 : Nat) : Int) = Builtin.Range.rangeSize 0 j 1 := by rw [rangeSize_one]; split <;> omega
    show IsRangeIter _ _ ((0 : Int) + ((0 : Nat) : Int) * 1) (((j.toNat : Nat) : Int) - ((0 : Nat) : Int)) 1
    rw [e1, e2]
    exact Heap.get?_push_size _ rfl
  · obtain rfl := List.mem_singleton.mp hb
    exact I1.fpOk (Nat.le_refl _) (I1.hok.fresh (Nat.le_refl _))
/-- C() where __init__ is object's -/
structure MkO (K : PySem.W.Frag) (C : Addr) : Prop where
  makes : PySem.W.makesIn K C = true
  init : PySem.W.findIn K (.ref C) "__init__" = some (some (.builtin "object.__init__"))
  kp : PySem.W.keepIn K (.ref C) = true
def tMakeO (C : Addr) : TE := fun _ H Q => ∀ x dx, H x = none → H dx = none → dx ≠ x → Q (.ref x) (upd (upd H dx (.own x)) x (.ins C dx []))
theorem pe_makeO {C : Addr} {x : Str} {p pos : Pos} (M : MkO X.K C) (hg : Gl X x) (hm : X.mg x = some (.ref C)) (hdb : (x == ("__debug__" : Str)) = false := by decide) : PE X (.Call (.Name x p) [] [] pos) (tMakeO C) := by
  refine ⟨fun pins s σ H Q I h => ?_⟩
  refine wpAny_Call_Name_kw (ld_glob I hg hm ?_ hdb)
  refine PySem.W.callWith_K0 I.kIn M.kp (wpAny_call (make_map0 I.kIn M.makes M.init (fun self => PySem.W.Looks.of_pure (PySem.W.oi_bind self)) ?_))
  have I2 := Inv.made (C := C) I
  have Y := PySem.W.makes_of (M := model X.prog X.w) I.kIn M.makes
  have k : ∀ b o, s.heap.get? b = some o → ((s.heap.push PySem.W.emptyDict).push (PySem.W.instObj C s.heap.objs.size)).get? b = some o := fun b o e => Heap.get?_push_of_some _ (Heap.get?_push_of_some _ e)
  have hx : ((s.heap.push PySem.W.emptyDict).push (PySem.W.instObj C s.heap.objs.size)).get? (s.heap.objs.size + 1) = some (PySem.W.instObj C s.heap.objs.size) := by
    have := Heap.get?_push_size (s.heap.push PySem.W.emptyDict) (o := PySem.W.instObj C s.heap.objs.size) rfl
    rwa [Heap.size_push] at this
  have t1 : PySem.W.Looks (model X.prog X.w) ((s.heap.push PySem.W.emptyDict).push (PySem.W.instObj C s.heap.objs.size)) (typeOf (.ref (s.heap.objs.size + 1))) (.ref C) := (PySem.W.Looks.ld hx).andThen .now
  have t2 : PySem.W.Looks (model X.prog X.w) ((s.heap.push PySem.W.emptyDict).push (PySem.W.instObj C s.heap.objs.size)) (isInstance (.ref (s.heap.objs.size + 1)) (.type "object")) true := t1.andThen (Y.top.keeps k)
  refine codeAny_call_builtin PySem.W.oi_plain PySem.W.entry_oi (@PySem.W.check_slot (model X.prog X.w) _ _ _ "object.__init__" "object" "__init__" (.ref (s.heap.objs.size + 1)) [] [] _ PySem.W.oi_kind PySem.W.oi_split t2 (PySem.W.oi_args (.ref (s.heap.objs.size + 1))) ?_)
  rw [PySem.W.oi_run]
  exact wpAny_pure (And.intro rfl (show EP X pins σ Q _ _ from ⟨V.ref (s.heap.objs.size + 1), _, I2, rfl, h (s.heap.objs.size + 1) s.heap.objs.size (I.hok.fresh (Nat.le_succ _)) (I.hok.fresh (Nat.le_refl _)) (Nat.ne_of_lt (Nat.lt_succ_self _))⟩))
end
end K36
/-! list comprehensions of several clauses without tests: a rule a clause -/
namespace K36
open PySem PySem.Spec PyProof.Rows L2
/-- a turn of one clause; B: what comes behind the target's store, ahead of the next turn -/
def turnOf (p : Pos) (tg : Expr) (B : Sem Fin → Sem Fin) (e : Expr) (d : Nat) (it acc : Value) (env : Env) : Sem Fin := do
  standAt p
  match ← pyNext it with
  | none => pure (.done .next)
  | some v =>
    letOwnedTupleGo tg it v
    assign tg env v
    B (again (.compLoop e d it acc env))
/-- the next clause -/
def nextB (iter : Expr) (e : Expr) (d : Nat) (acc : Value) (env : Env) (k : Sem Fin) : Sem Fin := do
  let x ← eval iter env
  standAt iter.pos
  let x ← foldedSetIterable iter env x
  let _ ← runOwn (.compStart e d (← holding [x] (pyIter x)) acc env) env
  k
def emitB (elt : Expr) (acc : Value) (env : Env) (k : Sem Fin) : Sem Fin := do
  (do let _ ← call (.builtin "list.append") [acc, ← eval elt env])
  k
section
variable (elt t0 i0 t1 i1 t2 i2 : Expr) (scope : Scope) (pos : Pos) (it acc : Value) (env : Env)
abbrev lc3 : Expr := .ListComp elt [⟨t0, i0, [], 0⟩, ⟨t1, i1, [], 0⟩, ⟨t2, i2, [], 0⟩] scope pos
theorem turn3_0 : compTurn (lc3 elt t0 i0 t1 i1 t2 i2 scope pos) 0 it acc env = turnOf i0.pos t0 (nextB i1 (lc3 elt t0 i0 t1 i1 t2 i2 scope pos) 1 acc env) (lc3 elt t0 i0 t1 i1 t2 i2 scope pos) 0 it acc env := by rfl
theorem turn3_1 : compTurn (lc3 elt t0 i0 t1 i1 t2 i2 scope pos) 1 it acc env = turnOf i1.pos t1 (nextB i2 (lc3 elt t0 i0 t1 i1 t2 i2 scope pos) 2 acc env) (lc3 elt t0 i0 t1 i1 t2 i2 scope pos) 1 it acc env := by rfl
theorem turn3_2 : compTurn (lc3 elt t0 i0 t1 i1 t2 i2 scope pos) 2 it acc env = turnOf i2.pos t2 (emitB elt acc env) (lc3 elt t0 i0 t1 i1 t2 i2 scope pos) 2 it acc env := by rfl
end
section
variable {prog : Program} {w : World} {A : Around} {R : Result → Shared → Prop} {s : Shared} {elt : Expr} {gens : List Comprehension} {scope : Scope} {pos : Pos} {d : Nat} {tg iter : Expr} {it acc : Value} {env : Env}
theorem start_at (hcl : gens[d]? = some ⟨tg, iter, [], 0⟩) (h0 : codeAny (model prog w) A (.compLoop (.ListComp elt gens scope pos) d it acc env) R s)
    (h : wpAny (model prog w) A (pyIter it) (fun it' s' => codeAny (model prog w) A (.compLoop (.ListComp elt gens scope pos) d it' acc env) R s') (notedBy (model prog w) A env fun x s' => R (.error x) s') s) :
    codeAny (model prog w) A (.compStart (.ListComp elt gens scope pos) d it acc env) R s := by
  refine codeAny_of_tree ?_
  show wpAny _ _ ((compStart (.ListComp elt gens scope pos) d it acc env).onRaise (fun x => do noteFrame x env; standAt theWindowsPlace)) _ _ s
  refine wpAny_notedAt ?_
  unfold compStart
  rw [show clausesOf (.ListComp elt gens scope pos) = gens from rfl, hcl]
  show wpAny _ _ (ask >>= _) _ _ s
  refine wpAny_bind (wpAny_askSetting (wpAny_ite ?_))
  split
  · first
      | exact wpAny_bind (wpAny_pure (wpAny_pure (And.intro rfl h0)))
      | exact wpAny_pure (And.intro rfl h0)
  · refine wpAny_bind (wpAny_rule ?_)
    show wpAny _ _ (standAt iter.pos >>= _) _ _ s
    exact wpAny_bind (wpAny_standAt (wpAny_bind (wpAny_mono h (fun it' s' h' => wpAny_pure (And.intro rfl h')) fun _ _ x => x)))
end
/-- what is done for one item, from the clause behind: the list at D grows, the slots vs are forgotten behind it -/
abbrev TB := L2.St → Hp → (Hp → Prop) → Prop
structure PB (X : Cx) (B : Sem Fin → Sem Fin) (vs : List Nat) (t : TB) : Prop where
  run : ∀ (pins : List (Addr × Obj)) (s : Shared) (σ : L2.St) (H : Hp) (Nx : Hp → Prop) (k : Sem Fin) (Q : Fin → Shared → Prop) (E : Value → Shared → Prop), Inv X pins σ H s → t σ H Nx →
    (∀ s' H', Inv X pins (wipe σ vs) H' s' → Nx H' → wpAny (model X.prog X.w) X.A k Q E s') → wpAny (model X.prog X.w) X.A (B k) Q E s
def tEmit (D : Addr) (te : TE) : TB := fun σ H Nx => te σ H fun y H1 => ∃ xs, H1 D = some (.lst xs) ∧ xs.length < sizeLine ∧ Nx (upd H1 D (.lst (xs ++ [y])))
/-- a clause: W by the turn and a measure -/
def tClause (wi : TI) (g : TG) (t : TB) (vs : List Nat) : TB := fun σ H Nx => wi σ H fun J H1 => ∃ W : Nat → Nat → Hp → Prop, (∃ m, W 0 m H1) ∧ ∀ i m H, W i m H →
  (J.stop i H ∧ Nx H) ∨ (J.go i H ∧ ∃ N1 : Hp → Prop, (∀ H', N1 H' → ∃ m', m' < m ∧ W (i + 1) m' H') ∧ ∀ x H', J.yld i H x H' → g x (wipe σ vs) H' fun σ2 H2 => wipe σ2 vs = wipe σ vs ∧ t σ2 H2 N1)
section
variable {X : Cx}
theorem pb_emit {elt : Expr} {te : TE} {D : Addr} (hx : X.xe = fun _ _ => False) (he : PE X elt te) : PB X (emitB elt (.ref D) X.env) [] (tEmit D te) := by
  refine ⟨fun pins s σ H Nx k Q E I h hk => ?_⟩
  have h1 := he.run pins s σ H _ I h
  rw [hx] at h1
  unfold emitB
  refine wpAny_bind (wpAny_bind (thnF h1 fun y s1 ⟨v, H1, I1, r1, xs, hD, hz, nx⟩ => ?_))
  exact wpAny_bind (app_ok I1 hD hz r1 fun s2 I2 => wpAny_pure (hk s2 _ I2 nx))
/-- the loop of one clause -/
theorem clause_loop (hc : X.calm = true) (hx : X.xe = fun _ _ => False) {elt : Expr} {gens : List Comprehension} {scope : Scope} {pos : Pos} {d : Nat} {tg : Expr} {B : Sem Fin → Sem Fin} {p : Pos} {acc : Value} {it : Addr} {fp : List Addr} {tn : Nat → Heap → Prop} {J : It} {g : TG} {vs vs2 : List Nat} {t : TB}
    (ht : compTurn (.ListComp elt gens scope pos) d (.ref it) acc X.env = turnOf p tg B (.ListComp elt gens scope pos) d (.ref it) acc X.env) (T : Turn X.prog X.w X.K tg J fp it tn) (pg : PG X tg g) (pb : PB X B vs2 t) (hv : ∀ i ∈ vs2, i ∈ vs)
    {pins : List (Addr × Obj)} {s : Shared} {σ : L2.St} {H : Hp} {Nx : Hp → Prop} (I : Inv X pins (wipe σ vs) H s) (st : tn 0 s.heap) (hf : ∀ b ∈ fp, FpOk X pins H b)
    {W : Nat → Nat → Hp → Prop} {m0 : Nat} (w0 : W 0 m0 H) (turn : ∀ i m H, W i m H →
      (J.stop i H ∧ Nx H) ∨ (J.go i H ∧ ∃ N1 : Hp → Prop, (∀ H', N1 H' → ∃ m', m' < m ∧ W (i + 1) m' H') ∧ ∀ x H', J.yld i H x H' → g x (wipe σ vs) H' fun σ2 H2 => wipe σ2 vs = wipe σ vs ∧ t σ2 H2 N1)) :
    codeAny (model X.prog X.w) X.A (.compLoop (.ListComp elt gens scope pos) d (.ref it) acc X.env) (fun r s' => match r with
      | .ok _ => ∃ H', Inv X pins (wipe σ vs) H' s' ∧ Nx H'
      | .error _ => False) s := by
  have stat : ∀ {H' : Hp}, (∀ b ∈ fp, H' b = none) → ∀ b ∈ fp, FpOk X pins H' b := fun hn b hb => ⟨hn b hb, (hf b hb).2⟩
  refine codeAny_loop rfl (fun n s' => ∃ i H', Inv X pins (wipe σ vs) H' s' ∧ tn i s'.heap ∧ (∀ b ∈ fp, H' b = none) ∧ W i n H') (fun n s1 h1 => ?_) m0 ⟨0, H, I, st, fun b hb => (hf b hb).1, w0⟩
  obtain ⟨i, H1, I1, st1, n1, w1⟩ := h1
  show wpAny _ X.A ((compTurn (.ListComp elt gens scope pos) d (.ref it) acc X.env).onRaise (fun x => do noteFrame x X.env; theTreesLotGoes x)) _ _ s1
  refine wpAny_noted ?_
  rw [ht]
  unfold turnOf
  rcases turn i n H1 w1 with ⟨stop, nx⟩ | ⟨go, N1, hN, step⟩
  · refine wpAny_bind (wpAny_standAt (wpAny_bind (thnF (T.done X rfl rfl rfl hc i pins s1 _ H1 (fun _ _ => False) I1 (stat n1) st1 stop) fun r s2 ⟨hr, I2⟩ => ?_)))
    subst hr
    exact wpAny_pure ⟨H1, I2, nx⟩
  · refine wpAny_bind (wpAny_standAt (wpAny_bind (thnF (T.item X rfl rfl rfl hc i pins s1 _ H1 (fun _ _ => False) I1 (stat n1) st1 go) fun r s2 ⟨u, hr, h2⟩ => ?_)))
    subst hr
    refine wpAny_bind (thnF h2 fun _ s3 ⟨x, H3, I3, r3, y3, st3, n3⟩ => ?_)
    have I3' := I3.pinned (stat n3) (T.obj _ _ st3)
    have h3 := pg.run _ s3 _ H3 x u _ I3' r3 (step x H3 y3)
    rw [hx] at h3
    refine wpAny_bind (thnF h3 fun _ s4 ⟨σ4, H4, I4, hw4, t4⟩ => ?_)
    refine pb.run _ s4 σ4 H4 N1 _ _ _ I4 t4 fun s5 H5 I5 nx5 => ?_
    obtain ⟨m', hm, w5⟩ := hN H5 nx5
    have pin5 : ∀ b ∈ fp, ∀ o, s3.heap.get? b = some o → s5.heap.get? b = some o ∧ H5 b = none := fun b hb o eo =>
      let z := I5.pin (b, o) (List.mem_append_right _ (List.mem_append_right _ (mem_pinsAt hb eo)))
      ⟨z.1, z.2.1⟩
    have hl : (wipe σ vs).length = (wipe σ4 vs2).length := by rw [← hw4, wipe_length, wipe_length]
    refine wpAny_pure ⟨rfl, m', hm, i + 1, H5, I5.unpinned.weak hl (fun j v ev => ?_), T.keep _ _ _ st3 fun b hb o eo => (pin5 b hb o eo).1, fun b hb => ?_, w5⟩
    · rw [← hw4] at ev
      obtain ⟨e1, e2⟩ := wipe_some ev
      rw [wipe_out fun z => e2 (hv j z)]
      exact e1
    · obtain ⟨o, eo, _⟩ := T.obj _ _ st3 b hb
      exact (pin5 b hb o eo).2
/-- a clause behind another one -/
theorem pb_clause (hc : X.calm = true) (hx : X.xe = fun _ _ => False) {elt : Expr} {gens : List Comprehension} {scope : Scope} {pos : Pos} {d : Nat} {tg iter : Expr} {B : Sem Fin → Sem Fin} {p : Pos} {acc : Value} {wi : TI} {g : TG} {vs vs2 : List Nat} {t : TB}
    (hcl : gens[d]? = some ⟨tg, iter, [], 0⟩) (ht : ∀ it, compTurn (.ListComp elt gens scope pos) d it acc X.env = turnOf p tg B (.ListComp elt gens scope pos) d it acc X.env) (hi : PI X tg iter wi) (pg : PG X tg g) (pb : PB X B vs2 t) (hv : ∀ i ∈ vs2, i ∈ vs)
    (hs : ∀ x, foldedSetIterable iter X.env x = pure x := by intro _; rfl) : PB X (nextB iter (.ListComp elt gens scope pos) d acc X.env) vs (tClause wi g t vs) := by
  refine ⟨fun pins s σ H Nx k Q E I h hk => ?_⟩
  unfold nextB
  have h1 := hi.run pins s σ H _ I h
  rw [hx] at h1
  refine wpAny_bind (thnF h1 fun v s1 hv1 => ?_)
  refine wpAny_bind (wpAny_standAt (wpAny_bind (wpAny_of_eq (hs v) (wpAny_bind (wpAny_holding (thnF hv1 fun itv s2 h2 => ?_))))))
  obtain ⟨it, fp, tn, J, H2, rfl, I2, T, st2, f2, W, ⟨m0, w0⟩, turn⟩ := h2
  have loop := clause_loop hc hx (ht (.ref it)) T pg pb hv (I2.weak (wipe_length _ _) fun j v ev => (wipe_some ev).1) st2 f2 w0 turn
  refine wpAny_bind (wpAny_runOwn ?_)
  rw [Around.mark_none]
  refine codeAny_mono (start_at hcl loop (T.self X.A 0 _ _ _ st2 loop)) fun r s' hr => ?_
  cases r with
  | error z => exact hr.elim
  | ok f =>
    obtain ⟨H', I', nx⟩ := hr
    exact hk s' H' I' nx
end
end K36
/-! the whole of such a comprehension, as a value -/
namespace K36
open PySem PySem.Spec PyProof.Rows L2
def tLcB (wi : TI) (g : TG) (t : Addr → TB) (vs : List Nat) : TE := fun σ H Q => wi σ H fun J H1 => ∀ D, H1 D = none → ∃ W : Nat → Nat → Hp → Prop, (∃ m, W 0 m (upd H1 D (.lst []))) ∧ ∀ i m H, W i m H →
  (J.stop i H ∧ Q (.ref D) H) ∨ (J.go i H ∧ ∃ N1 : Hp → Prop, (∀ H', N1 H' → ∃ m', m' < m ∧ W (i + 1) m' H') ∧ ∀ x H', J.yld i H x H' → g x (wipe σ vs) H' fun σ2 H2 => wipe σ2 vs = wipe σ vs ∧ t D σ2 H2 N1)
section
variable {X : Cx}
theorem pe_lcB {elt tg iter : Expr} {gs : List Comprehension} {scope : Scope} {pos : Pos} {own : List (Str × Nat)} {vs2 : List Nat} {wi : TI} {g : TG} {t : Addr → TB} {B : Addr → Env → Sem Fin → Sem Fin} (hc : X.calm = true) (hN : X.N.Nodup) (hi : PI X tg iter wi)
    (ok : BlkOk X.N X.env.scope scope own) (ht : ∀ D env it, compTurn (.ListComp elt (⟨tg, iter, [], 0⟩ :: gs) scope pos) 0 it (.ref D) env = turnOf iter.pos tg (B D env) (.ListComp elt (⟨tg, iter, [], 0⟩ :: gs) scope pos) 0 it (.ref D) env)
    (hg : ∀ (s : Shared) (H : Hp) (C : Addr) (cl : List (Str × Addr)) (fp : List Addr), PG (X.blk s H scope (compEnvC scope cl C X.env) fp) tg g)
    (hb : ∀ (s : Shared) (H : Hp) (C : Addr) (cl : List (Str × Addr)) (fp : List Addr) (D : Addr), PB (X.blk s H scope (compEnvC scope cl C X.env) fp) (B D (compEnvC scope cl C X.env)) vs2 (t D))
    (hv : ∀ i ∈ vs2, i ∈ own.map (·.2)) (hs : ∀ x, foldedSetIterable iter X.env x = pure x := by intro _; rfl) :
    PE X (.ListComp elt (⟨tg, iter, [], 0⟩ :: gs) scope pos) (tLcB wi g t (own.map (·.2))) := by
  refine ⟨fun pins s σ H Q I h => ?_⟩
  rw [eval_ListComp]
  have hfree : ∀ y ∈ scope.names, y.2 = .free → ∃ c, X.env.cells.lookup y.1 = some c := fun y hy ey => (ok.free y hy ey).elim (fun k => I.ok.has _ (.inl k)) fun k => I.ok.has _ (.inr k)
  refine wpAny_comprehension_free (use := none) rfl hs (closure_ok hfree) ok.kind (fun y hy ey => by rw [ok.uniq y hy, ey]) (thn (hi.run pins s σ H _ I h) fun xv s1 hx => thn hx fun itv s2 h2 => ?_)
  obtain ⟨it, fp, tn, J, H2, rfl, I2, T, st2, f2, q⟩ := h2
  refine wpAny_newObj_type (newEnv_comp ?_) (by show 0 ≤ sizeLine; decide)
  have hD0 : H2 s2.heap.objs.size = none := I2.hok.fresh (Nat.le_refl _)
  obtain ⟨W, ⟨m0, w0⟩, turn⟩ := q _ hD0
  have hgetD : (s2.heap.push { cls := .type "list", data := .seq ([] : List Value).toArray }).get? s2.heap.objs.size = some { cls := .type "list", data := .seq ([] : List Value).toArray } := Heap.get?_push_size _ rfl
  have I3 : Inv X pins σ (upd H2 s2.heap.objs.size (.lst [])) { s2 with heap := s2.heap.push { cls := .type "list", data := .seq ([] : List Value).toArray } } :=
    I2.laid (t' := s2.toks) (fun b o eo => Heap.get?_push_of_some _ eo) (Nat.le_refl _) ⟨Nat.zero_le _, [], 0, .nil, hgetD⟩
  generalize hDD : s2.heap.objs.size = D at *
  have f3 : ∀ b ∈ fp, FpOk X pins (upd H2 D (.lst [])) b ∧ b < (s2.heap.push { cls := .type "list", data := .seq ([] : List Value).toArray }).objs.size := fun b hb => by
    obtain ⟨o, eo, _⟩ := T.obj _ _ st2 b hb
    have hlt := Heap.lt_size eo
    refine ⟨⟨?_, (f2 b hb).2⟩, by rw [Heap.size_push]; exact Nat.lt_succ_of_lt hlt⟩
    rw [upd_ne (by rw [← hDD]; exact Nat.ne_of_lt hlt)]
    exact (f2 b hb).1
  have st3 : tn 0 (s2.heap.push { cls := .type "list", data := .seq ([] : List Value).toArray }) := T.keep _ _ _ st2 fun b _ o eo => Heap.get?_push_of_some _ eo
  generalize hs3 : ({ s2 with heap := s2.heap.push { cls := .type "list", data := .seq ([] : List Value).toArray } } : Shared) = s3 at *
  have h3 : s2.heap.push { cls := .type "list", data := .seq ([] : List Value).toArray } = s3.heap := by rw [← hs3]
  rw [h3] at f3 st3
  generalize hH3 : upd H2 D (.lst []) = H3 at *
  have I4 := block_start I3 ok hN f3
  show codeAny _ _ (.compStart (.ListComp elt (⟨tg, iter, [], 0⟩ :: gs) scope pos) 0 (.ref it) (.ref D) (compEnvC scope (cellsFrom (s3.heap.objs.size + 1) scope.names (cloFrom X.env.cells scope.names [])) s3.heap.objs.size X.env))
    (compPost (model X.prog X.w) X.A X.xe none (EP X pins σ Q) (.ref D) s3.heap.objs.size) { s3 with heap := pushCells (s3.heap.push { cls := .type "dict", data := .dict #[] }) scope.names }
  have pg := hg s3 H3 s3.heap.objs.size (cellsFrom (s3.heap.objs.size + 1) scope.names (cloFrom X.env.cells scope.names [])) fp
  have pb := hb s3 H3 s3.heap.objs.size (cellsFrom (s3.heap.objs.size + 1) scope.names (cloFrom X.env.cells scope.names [])) fp D
  have st4 : tn 0 (pushCells (s3.heap.push { cls := .type "dict", data := .dict #[] }) scope.names) := T.keep _ _ _ st3 fun b _ o eo => pushCells_keeps _ _ _ _ (Heap.get?_push_of_some _ eo)
  have f4 : ∀ b ∈ fp, FpOk (X.blk s3 H3 scope (compEnvC scope (cellsFrom (s3.heap.objs.size + 1) scope.names (cloFrom X.env.cells scope.names [])) s3.heap.objs.size X.env) fp) [] H3 b := fun b hb =>
    ⟨(f3 b hb).1.1, (I4.ok.exf b hb).1, I4.ok.exfs b hb, .inl hb, fun x c ec => (I4.ok.exf b hb).2 x c ec, fun p hp => absurd (show p ∈ ([] : List (Addr × Obj)) ++ [] from hp) (by simp)⟩
  have cL : (compEnvC scope (cellsFrom (s3.heap.objs.size + 1) scope.names (cloFrom X.env.cells scope.names [])) s3.heap.objs.size X.env).locals = s3.heap.objs.size := rfl
  have loop := clause_loop (X := X.blk s3 H3 scope (compEnvC scope (cellsFrom (s3.heap.objs.size + 1) scope.names (cloFrom X.env.cells scope.names [])) s3.heap.objs.size X.env) fp) (Nx := fun H' => Q (.ref D) H') hc rfl
    (ht D _ (.ref it)) T pg pb hv I4 st4 f4 w0 turn
  have loop' := codeAny_mono (R' := compPost (model X.prog X.w) X.A X.xe none (EP X pins σ Q) (.ref D) s3.heap.objs.size) loop fun r s' hr => by
    cases r with
    | error z => exact hr.elim
    | ok f =>
      obtain ⟨H', I', q'⟩ := hr
      have I7 : Inv X pins σ H' s' := I3.call' (ch := fp) I'.os I'.base I'.hok I'.bare fun b hb => ⟨(f3 b hb).1.2.2.2.1, (f3 b hb).1.2.1, (f3 b hb).1.2.2.2.2.1, (f3 b hb).1.2.2.2.2.2⟩
      have nC : H' s3.heap.objs.size = none := I'.free
      obtain ⟨m, hn, _⟩ := I'.loc
      obtain ⟨c0, c1, c2, c3, c4, c5⟩ := I3.fpOk (Nat.le_refl _) nC
      exact ⟨m, hn, fun h' sb => ⟨.ref D, H', I7.turned (t' := s'.toks) (fun b o hb eo => (sb.2 b hb).trans eo) c0 c1 c3 c4 c5, rfl, q'⟩⟩
  exact codeAny_compStart_list loop' (T.self X.A 0 _ _ _ st4 loop')
/-- three clauses -/
theorem pe_lc3 {elt t0 i0 t1 i1 t2 i2 : Expr} {scope : Scope} {pos : Pos} {own : List (Str × Nat)} {vs1 vs2 : List Nat} {wi wi1 wi2 : TI} {g g1 g2 : TG} {te : TE} (hc : X.calm = true) (hN : X.N.Nodup) (hi : PI X t0 i0 wi) (ok : BlkOk X.N X.env.scope scope own)
    (hv1 : ∀ i ∈ vs1, i ∈ own.map (·.2)) (hv2 : ∀ i ∈ vs2, i ∈ vs1)
    (hg : ∀ (s : Shared) (H : Hp) (C : Addr) (cl : List (Str × Addr)) (fp : List Addr), PG (X.blk s H scope (compEnvC scope cl C X.env) fp) t0 g)
    (hi1 : ∀ (s : Shared) (H : Hp) (C : Addr) (cl : List (Str × Addr)) (fp : List Addr), PI (X.blk s H scope (compEnvC scope cl C X.env) fp) t1 i1 wi1)
    (hg1 : ∀ (s : Shared) (H : Hp) (C : Addr) (cl : List (Str × Addr)) (fp : List Addr), PG (X.blk s H scope (compEnvC scope cl C X.env) fp) t1 g1)
    (hi2 : ∀ (s : Shared) (H : Hp) (C : Addr) (cl : List (Str × Addr)) (fp : List Addr), PI (X.blk s H scope (compEnvC scope cl C X.env) fp) t2 i2 wi2)
    (hg2 : ∀ (s : Shared) (H : Hp) (C : Addr) (cl : List (Str × Addr)) (fp : List Addr), PG (X.blk s H scope (compEnvC scope cl C X.env) fp) t2 g2)
    (he : ∀ (s : Shared) (H : Hp) (C : Addr) (cl : List (Str × Addr)) (fp : List Addr), PE (X.blk s H scope (compEnvC scope cl C X.env) fp) elt te)
    (hs : ∀ x, foldedSetIterable i0 X.env x = pure x := by intro _; rfl) (hs1 : ∀ env x, foldedSetIterable i1 env x = pure x := by intro _ _; rfl) (hs2 : ∀ env x, foldedSetIterable i2 env x = pure x := by intro _ _; rfl) :
    PE X (lc3 elt t0 i0 t1 i1 t2 i2 scope pos) (tLcB wi g (fun D => tClause wi1 g1 (tClause wi2 g2 (tEmit D te) vs2) vs1) (own.map (·.2))) :=
  pe_lcB (B := fun D env => nextB i1 (lc3 elt t0 i0 t1 i1 t2 i2 scope pos) 1 (.ref D) env) hc hN hi ok (fun D env it => turn3_0 elt t0 i0 t1 i1 t2 i2 scope pos it (.ref D) env) hg
    (fun s H C cl fp D => pb_clause (X := X.blk s H scope (compEnvC scope cl C X.env) fp) hc rfl rfl (fun it => turn3_1 elt t0 i0 t1 i1 t2 i2 scope pos it (.ref D) _) (hi1 s H C cl fp) (hg1 s H C cl fp)
      (pb_clause (X := X.blk s H scope (compEnvC scope cl C X.env) fp) hc rfl rfl (fun it => turn3_2 elt t0 i0 t1 i1 t2 i2 scope pos it (.ref D) _) (hi2 s H C cl fp) (hg2 s H C cl fp)
        (pb_emit (X := X.blk s H scope (compEnvC scope cl C X.env) fp) rfl (he s H C cl fp)) (fun i hi => absurd hi (by simp)) (hs2 _)) hv2 (hs1 _)) hv1 hs
end
end K36
/-! how machines, deeds and kept stretches stand in the heap -/
namespace K36
open PySem PySem.Spec PyProof.Rows L2
abbrev natV (n : Nat) : V := .int (n : Int)
def sideS (b : Bool) : Str := if b then "right" else "left"
def mvS : Mv → Str
  | .left => "left"
  | .right => "right"
  | .stop => "stop"
abbrev Ctx4 : Type := Nat × Nat × Bool × Nat
def kk (z : Ctx4) : List Key := [.inl (z.1 : Int), .inl (z.2.1 : Int), .inr (sideS z.2.2.1), .inl (z.2.2.2 : Int)]
theorem ne_lr : ¬ ("left" : Str) = "right" := by decide +kernel
theorem sideS_inj {a b : Bool} (h : sideS a = sideS b) : a = b := by
  cases a <;> cases b
  · rfl
  · exact absurd h ne_lr
  · exact absurd h.symm ne_lr
  · rfl
theorem kk_inj {z y : Ctx4} (h : kk z = kk y) : z = y := by
  obtain ⟨a, b, c, d⟩ := z
  obtain ⟨a', b', c', d'⟩ := y
  unfold kk at h
  simp only [List.cons.injEq, Sum.inl.injEq, Sum.inr.injEq, and_true, Int.natCast_inj] at h
  obtain ⟨rfl, rfl, h3, rfl⟩ := h
  rw [sideS_inj h3]
def allZ (m S : Nat) : List Ctx4 := (List.range m).flatMap fun u => (List.range m).flatMap fun v => [false, true].flatMap fun b => (List.range S).map fun p => (u, v, b, p)
theorem mem_allZ {m S : Nat} {z : Ctx4} : z ∈ allZ m S ↔ z.1 < m ∧ z.2.1 < m ∧ z.2.2.2 < S := by
  obtain ⟨u, v, b, p⟩ := z
  unfold allZ
  simp only [List.mem_flatMap, List.mem_map, List.mem_range]
  constructor
  · rintro ⟨u', hu, v', hv, b', _, p', hp, e⟩
    simp only [Prod.mk.injEq] at e
    obtain ⟨rfl, rfl, rfl, rfl⟩ := e
    exact ⟨hu, hv, hp⟩
  · rintro ⟨hu, hv, hp⟩
    exact ⟨u, hu, v, hv, b, (by cases b <;> simp), p, hp, rfl⟩

/-- tuples never change -/
def TK (H H' : Hp) : Prop := ∀ a xs, H a = some (.tup xs) → H' a = some (.tup xs)
theorem TK.refl (H : Hp) : TK H H := fun _ _ h => h
theorem TK.trans {H H1 H2 : Hp} (a : TK H H1) (b : TK H1 H2) : TK H H2 := fun c xs h => b c xs (a c xs h)
theorem TK.of {H H' : Hp} (s : Same H H') : TK H H' := fun a xs h => s a _ h
theorem same_upd {H : Hp} {p : Addr} {o : HO} (h : H p = none) : Same H (upd H p o) := fun b x e => by
  rw [upd_ne (ne_of_none e h)]; exact e
theorem tk_upd {H : Hp} {p : Addr} {o : HO} (h : H p = none) : TK H (upd H p o) := TK.of (same_upd h)
/-- a list, dict or instance at p is written -/
theorem tk_write {H : Hp} {p : Addr} {o u : HO} (h : H p = some u) (hu : ∀ xs, u ≠ .tup xs) : TK H (upd H p o) := fun a xs e => by
  rw [upd_ne fun z => by subst z; rw [h] at e; exact hu xs (Option.some.inj e)]; exact e

/-! ### deeds -/
def DeedAt (H : Hp) (v : V) : Dd → Prop
  | .non => v = .non
  | .stop w => ∃ a p, v = .ref a ∧ H a = some (.tup [.str "stop", .ref p]) ∧ H p = some (.tup (w.map V.int))
  | .out s q w => ∃ a p, v = .ref a ∧ H a = some (.tup [.str "out", .str (sideS s), natV q, .ref p]) ∧ H p = some (.tup (w.map V.int))
theorem DeedAt.mono {H H' : Hp} {v : V} {d : Dd} (t : TK H H') (h : DeedAt H v d) : DeedAt H' v d := by
  cases d with
  | non => exact h
  | stop w => obtain ⟨a, p, e, h1, h2⟩ := h; exact ⟨a, p, e, t _ _ h1, t _ _ h2⟩
  | out s q w => obtain ⟨a, p, e, h1, h2⟩ := h; exact ⟨a, p, e, t _ _ h1, t _ _ h2⟩
def dataOf : Dd → PyData
  | .non => .none
  | .stop w => .tuple [.str "stop", .tuple (w.map PyData.int)]
  | .out s q w => .tuple [.str "out", .str (sideS s), .int q, .tuple (w.map PyData.int)]
theorem ints_lay : ∀ w : List Int, PyData.canLayAll0 (w.map PyData.int) = true
  | [] => rfl
  | x :: r => by simp [PyData.canLayAll0, PyData.canLay0, ints_lay r]
theorem ints_depth : ∀ w : List Int, PyData.depthAll (w.map PyData.int) = 0
  | [] => rfl
  | x :: r => by simp [PyData.depthAll, PyData.depth, ints_depth r]
theorem dataOf_shaped (d : Dd) : SeqAt.shaped (dataOf d) = true := by
  have h1 : PyData.strOk ("stop" : Str) = true := by decide +kernel
  have h2 : PyData.strOk ("out" : Str) = true := by decide +kernel
  have h3 : ∀ s, PyData.strOk (sideS s) = true := fun s => by cases s <;> decide +kernel
  cases d with
  | non => rfl
  | stop w => simp [SeqAt.shaped, dataOf, PyData.canLay0, PyData.canLayAll0, PyData.depth, PyData.depthAll, ints_lay, ints_depth, h1]
  | out s q w => simp [SeqAt.shaped, dataOf, PyData.canLay0, PyData.canLayAll0, PyData.depth, PyData.depthAll, ints_lay, ints_depth, h2, h3]
theorem dpInts {K : PySem.W.Frag} {H : Hp} : ∀ w : List Int, DpAll K H (w.map V.int) (w.map PyData.int)
  | [] => .nil
  | x :: r => .cons (.int x) (dpInts r)
theorem DeedAt.dp {K : PySem.W.Frag} {H : Hp} {v : V} {d : Dd} (h : DeedAt H v d) : Dp K H v (dataOf d) := by
  cases d with
  | non => cases h; exact .non
  | stop w =>
    obtain ⟨a, p, rfl, h1, h2⟩ := h
    exact .tup (.of h1) (.cons (.str _) (.cons (.tup (.of h2) (dpInts w)) .nil))
  | out s q w =>
    obtain ⟨a, p, rfl, h1, h2⟩ := h
    exact .tup (.of h1) (.cons (.str _) (.cons (.str _) (.cons (.int _) (.cons (.tup (.of h2) (dpInts w)) .nil))))

/-! ### the dict of a kept stretch -/
structure DictIs (H : Hp) (kvs : List (List Key × V)) (F : Ctx4 → Dd) (done : List Ctx4) : Prop where
  len : kvs.length ≤ done.length
  only : ∀ k, (valV kvs k).isSome = true → ∃ z ∈ done, k = kk z
  all : ∀ z ∈ done, ∃ x, valV kvs (kk z) = some x ∧ DeedAt H x (F z)
theorem DictIs.nil {H : Hp} {F : Ctx4 → Dd} : DictIs H [] F [] := ⟨Nat.le_refl _, fun k h => (by rw [valV_nil] at h; exact absurd h (by simp)), fun z h => absurd h (by simp)⟩
theorem DictIs.mono {H H' : Hp} {kvs : List (List Key × V)} {F : Ctx4 → Dd} {done : List Ctx4} (t : TK H H') (h : DictIs H kvs F done) : DictIs H' kvs F done :=
  ⟨h.len, h.only, fun z hz => by obtain ⟨x, e, d⟩ := h.all z hz; exact ⟨x, e, d.mono t⟩⟩
theorem DictIs.put {H : Hp} {kvs : List (List Key × V)} {F : Ctx4 → Dd} {done : List Ctx4} {z : Ctx4} {x : V} (h : DictIs H kvs F done) (d : DeedAt H x (F z)) : DictIs H (putK kvs (kk z) x) F (done ++ [z]) := by
  refine ⟨?_, fun k hk => ?_, fun y hy => ?_⟩
  · have := length_putK kvs (kk z) x
    have := h.len
    rw [List.length_append, List.length_singleton]; omega
  · rw [valV_put] at hk
    by_cases e : k = kk z
    · exact ⟨z, by simp, e⟩
    · rw [if_neg e] at hk
      obtain ⟨y, hy, ey⟩ := h.only k hk
      exact ⟨y, List.mem_append_left _ hy, ey⟩
  · rw [valV_put]
    by_cases e : kk y = kk z
    · rw [if_pos e, kk_inj e]
      exact ⟨x, rfl, d⟩
    · rw [if_neg e]
      rcases List.mem_append.mp hy with hy | hy
      · exact h.all y hy
      · obtain rfl := List.mem_singleton.mp hy
        exact absurd rfl e
/-- a kept stretch at a: its value, its deeds -/
def StrAt (H : Hp) (a : Addr) (val : Nat) (F : Ctx4 → Dd) (zs : List Ctx4) : Prop := ∃ d kvs, H a = some (.tup [natV val, .ref d]) ∧ H d = some (.dT kvs) ∧ DictIs H kvs F zs
theorem StrAt.mono {H H' : Hp} {a : Addr} {val : Nat} {F : Ctx4 → Dd} {zs : List Ctx4} (s : Same H H') (h : StrAt H a val F zs) : StrAt H' a val F zs := by
  obtain ⟨d, kvs, h1, h2, h3⟩ := h
  exact ⟨d, kvs, s _ _ h1, s _ _ h2, h3.mono (TK.of s)⟩
/-- two kept stretches that tell the same are not unequal -/
theorem StrAt.same {K : PySem.W.Frag} {H : Hp} {a b : Addr} {val : Nat} {F G : Ctx4 → Dd} {zs : List Ctx4} {Q : VK} (h : StrAt H a val F zs) (h' : StrAt H b val G zs) (e : ∀ z ∈ zs, F z = G z) (q : Q (.bl false) H) : rNeS K (.ref a) (.ref b) H Q := by
  obtain ⟨d, kvs, h1, h2, h3⟩ := h
  obtain ⟨d', kvs', h1', h2', h3'⟩ := h'
  refine ⟨a, b, d, d', val, kvs, kvs', rfl, rfl, .of h1, .of h1', h2, h2', fun k => ?_, fun k x y ex ey => ?_, q⟩
  · rw [Bool.eq_iff_iff]
    constructor
    · intro hk
      obtain ⟨z, hz, rfl⟩ := h3.only k hk
      obtain ⟨x, ex, _⟩ := h3'.all z hz
      rw [ex]; rfl
    · intro hk
      obtain ⟨z, hz, rfl⟩ := h3'.only k hk
      obtain ⟨x, ex, _⟩ := h3.all z hz
      rw [ex]; rfl
  · obtain ⟨z, hz, rfl⟩ := h3.only k (by rw [ex]; rfl)
    obtain ⟨x', ex', d1⟩ := h3.all z hz
    obtain ⟨y', ey', d2⟩ := h3'.all z hz
    rw [ex] at ex'; cases ex'
    rw [ey] at ey'; cases ey'
    rw [← e z hz] at d2
    exact ⟨dataOf (F z), d1.dp, d2.dp, dataOf_shaped _⟩

/-! ### machines -/
structure Stp where
  p : Nat
  u : Nat
  c : Nat
  v : Nat
  st : St4
def Stp.key (t : Stp) : List Key := [.inl (t.p : Int), .inl (t.u : Int), .inl (t.c : Int), .inl (t.v : Int)]
def StAt (H : Hp) (a : Addr) (t : Stp) : Prop := ∃ pa, H a = some (.tup [natV t.p, natV t.u, natV t.c, natV t.v, .str (mvS t.st.mv), natV t.st.q, .ref pa]) ∧ H pa = some (.tup (t.st.pc.map V.int))
theorem StAt.mono {H H' : Hp} {a : Addr} {t : Stp} (s : TK H H') (h : StAt H a t) : StAt H' a t := by
  obtain ⟨pa, h1, h2⟩ := h
  exact ⟨pa, s _ _ h1, s _ _ h2⟩
structure Mach where
  n : Nat
  S : Nat
  e : Nat
  L : List Nat
  mul : List (List Nat)
  T : List Stp
def lookT (T : List Stp) (k : List Key) : Option St4 := T.foldl (fun acc t => if t.key = k then some t.st else acc) none
def Mach.mc (M : Mach) : Mc where
  m := M.mul.length
  S := M.S
  e := M.e
  nl := M.n + 2
  L := fun a => M.L.getD a 0
  mul := fun x y => (M.mul.getD x []).getD y 0
  tab := fun p u c v => lookT M.T [.inl (p : Int), .inl (u : Int), .inl (c : Int), .inl (v : Int)]
structure LookAt (H : Hp) (a : Addr) (M : Mach) : Prop where
  ex : ∃ al am rows ac, H a = some (.tup [natV M.e, .ref al, .ref am, ac]) ∧ H al = some (.tup (M.L.map natV)) ∧ H am = some (.tup (rows.map V.ref)) ∧ Paired (fun r xs => H r = some (.tup (List.map natV xs))) rows M.mul
structure MachAt (H : Hp) (a : Addr) (M : Mach) : Prop where
  ex : ∃ lk wv ov ts ss, H a = some (.tup [natV M.n, natV M.S, .ref lk, wv, ov, .ref ts]) ∧ LookAt H lk M ∧ H ts = some (.tup (ss.map V.ref)) ∧ Paired (fun s t => StAt H s t) ss M.T
theorem LookAt.mono {H H' : Hp} {a : Addr} {M : Mach} (s : TK H H') (h : LookAt H a M) : LookAt H' a M := by
  obtain ⟨al, am, rows, ac, h1, h2, h3, h4⟩ := h.ex
  exact ⟨al, am, rows, ac, s _ _ h1, s _ _ h2, s _ _ h3, L2.Paired.mapP h4 fun r xs e => s _ _ e⟩
theorem MachAt.mono {H H' : Hp} {a : Addr} {M : Mach} (s : TK H H') (h : MachAt H a M) : MachAt H' a M := by
  obtain ⟨lk, wv, ov, ts, ss, h1, h2, h3, h4⟩ := h.ex
  exact ⟨lk, wv, ov, ts, ss, s _ _ h1, h2.mono s, s _ _ h3, L2.Paired.mapP h4 fun r t e => e.mono s⟩
structure Mach.Good (M : Mach) : Prop where
  ok : M.mc.Ok
  L_len : M.L.length = M.n + 2
  rows : ∀ r ∈ M.mul, r.length = M.mul.length
  small : M.mul.length ≤ 3 ∧ M.S ≤ 3 ∧ M.T.length ≤ 1000
  pcs : ∀ t ∈ M.T, t.st.pc.length ≤ 2
abbrev Mach.deeds (M : Mach) (row : List Nat) (z : Ctx4) : Dd := M.mc.deed row z.1 z.2.1 z.2.2.1 z.2.2.2
abbrev Mach.zs (M : Mach) : List Ctx4 := allZ M.mul.length M.S
theorem flat_len {α β : Type} (f : α → List β) (n : Nat) (h : ∀ a, (f a).length ≤ n) : ∀ l : List α, (l.flatMap f).length ≤ l.length * n
  | [] => by simp
  | a :: r => by
    have := flat_len f n h r
    have := h a
    rw [List.flatMap_cons, List.length_append, List.length_cons, Nat.add_mul]; omega
theorem zs_len {M : Mach} (g : M.Good) : M.zs.length ≤ 54 := by
  obtain ⟨h1, h2, _⟩ := g.small
  have a1 : ∀ (u v : Nat) (b : Bool), ((List.range M.S).map fun p => ((u, v, b, p) : Ctx4)).length ≤ 3 := fun u v b => by simpa using h2
  have a2 : ∀ (u v : Nat), ([false, true].flatMap fun b => (List.range M.S).map fun p => ((u, v, b, p) : Ctx4)).length ≤ 6 := fun u v => flat_len _ 3 (a1 u v) _
  have a3 : ∀ (u : Nat), ((List.range M.mul.length).flatMap fun v => [false, true].flatMap fun b => (List.range M.S).map fun p => ((u, v, b, p) : Ctx4)).length ≤ 18 := fun u => by
    have := flat_len _ 6 (a2 u) (List.range M.mul.length)
    rw [List.length_range] at this
    omega
  have := flat_len _ 18 a3 (List.range M.mul.length)
  rw [List.length_range] at this
  show (allZ M.mul.length M.S).length ≤ 54
  unfold allZ
  omega
/-- a tuple's item -/
theorem pairedGet {α β : Type} {F : α → β → Prop} : ∀ {xs : List α} {ys : List β} {i : Nat} {y : β}, Paired F xs ys → ys[i]? = some y → ∃ x, xs[i]? = some x ∧ F x y
  | _, _, _, _, .nil, e => by simp at e
  | _, _, 0, _, .cons r _, e => by simp at e; subst e; exact ⟨_, rfl, r⟩
  | _, _, i + 1, y, .cons _ t, e => by
    obtain ⟨x, h1, h2⟩ := pairedGet (i := i) (y := y) t (by simpa using e)
    exact ⟨x, by simpa using h1, h2⟩
theorem lookT_mem (k : List Key) : ∀ (T : List Stp) (acc : Option St4) (st : St4), T.foldl (fun acc t => if t.key = k then some t.st else acc) acc = some st → acc = some st ∨ ∃ t ∈ T, t.st = st ∧ t.key = k
  | [], _, _, h => .inl h
  | t :: r, acc, st, h => by
    rw [List.foldl_cons] at h
    rcases lookT_mem k r _ st h with h | ⟨t', ht', e, ek⟩
    · by_cases c : t.key = k
      · rw [if_pos c] at h
        exact .inr ⟨t, List.mem_cons_self, Option.some.inj h, c⟩
      · rw [if_neg c] at h
        exact .inl h
    · exact .inr ⟨t', List.mem_cons_of_mem _ ht', e, ek⟩
theorem lookT_some {T : List Stp} {k : List Key} {st : St4} (h : lookT T k = some st) : ∃ t ∈ T, t.st = st ∧ t.key = k := by
  rcases lookT_mem k T none st h with h | h
  · cases h
  · exact h
/-- the letters that a deed has written -/
def wr : Dd → List Int
  | .non => []
  | .stop w => w
  | .out _ _ w => w
theorem wr_pre (w : List Int) (d : Dd) : (wr (Dd.pre w d)).length ≤ w.length + (wr d).length := by
  cases d <;> simp [wr, Dd.pre]
theorem cr_len {M : Mc} {row : List Nat} {l r B : Nat} (hB : ∀ i q t, M.stp row l r i q = some t → t.pc.length ≤ B) : ∀ (k : Nat) (d : Bool) (b q : Nat), (wr (M.cr row l r k d b q)).length ≤ B * k := by
  intro k
  induction k with
  | zero =>
    intro d b q
    rcases inn_or row.length d b with ⟨rfl, rfl⟩ | ⟨rfl, rfl⟩ | hi
    · rw [cr_right]; simp [wr]
    · rw [cr_left]; simp [wr]
    · rw [cr_zero q hi]; simp [wr]
  | succ k ih =>
    intro d b q
    rcases inn_or row.length d b with ⟨rfl, rfl⟩ | ⟨rfl, rfl⟩ | hi
    · rw [cr_right]; simp [wr]
    · rw [cr_left]; simp [wr]
    · rw [cr_succ _ _ hi]
      unfold Mc.act
      have eB : B * (k + 1) = B * k + B := Nat.mul_succ B k
      cases e : M.stp row l r (plc d b) q with
      | none => simp [wr]
      | some t =>
        have h1 := hB _ _ _ e
        simp only
        cases t.mv with
        | stop =>
          show t.pc.length ≤ _
          omega
        | right =>
          have := wr_pre t.pc (M.cr row l r k true (plc d b + 1) t.q)
          have := ih true (plc d b + 1) t.q
          simp only
          omega
        | left =>
          have := wr_pre t.pc (M.cr row l r k false (plc d b) t.q)
          have := ih false (plc d b) t.q
          simp only
          omega
theorem deeds_len {M : Mach} (g : M.Good) {row : List Nat} (hr : row.length ≤ 100) (z : Ctx4) : (wr (M.deeds row z)).length ≤ 1000 := by
  have h := cr_len (M := M.mc) (row := row) (l := z.1) (r := z.2.1) (B := 2) (fun i q t e => by
    unfold Mc.stp at e
    cases c : row[i]? with
    | none => rw [c] at e; cases e
    | some a =>
      rw [c] at e
      obtain ⟨t', ht', rfl, _⟩ := lookT_some e
      exact g.pcs t' ht') (M.mc.S * row.length + 1) (!z.2.2.1) (if z.2.2.1 then row.length else 0) z.2.2.2
  have hS : M.mc.S ≤ 3 := g.small.2.1
  have h2 : M.mc.S * row.length ≤ 3 * 100 := Nat.mul_le_mul hS hr
  have h : (wr (M.deeds row z)).length ≤ 2 * (M.mc.S * row.length + 1) := h
  omega
/-- the table of products -/
theorem mul_at {M : Mach} (g : M.Good) {H : Hp} {rows : List Addr} (pr : Paired (fun r xs => H r = some (.tup (List.map natV xs))) rows M.mul) {x y : Nat} (hx : x < M.mul.length) (hy : y < M.mul.length) :
    ∃ (ra : Addr) (xs : List Nat), (rows.map V.ref)[x]? = some (.ref ra) ∧ H ra = some (.tup (xs.map natV)) ∧ (xs.map natV)[y]? = some (natV (M.mc.mul x y)) := by
  have e := List.getElem?_eq_getElem hx
  obtain ⟨ra, h1, h2⟩ := pairedGet pr e
  have hl := g.rows _ (List.getElem_mem hx)
  refine ⟨ra, M.mul[x], by rw [List.getElem?_map, h1]; rfl, h2, ?_⟩
  have hy' : y < M.mul[x].length := by rw [hl]; exact hy
  rw [List.getElem?_map, List.getElem?_eq_getElem hy']
  show some (natV M.mul[x][y]) = some (natV ((M.mul.getD x []).getD y 0))
  have e1 : M.mul.getD x [] = M.mul[x] := by rw [List.getD_eq_getElem?_getD, e]; rfl
  rw [e1, List.getD_eq_getElem?_getD, List.getElem?_eq_getElem hy']
  rfl
end K36
/-! the text by places; what the top leaves; walks of clauses -/
namespace K36
open PySem PySem.Spec PyProof.Rows L2
def top (i : Nat) : Stmt := PySem.Challenge.pw_twoways_k36_whole_joined_stretches.main.body.getD i (.Pass ⟨0, 0, 0, 0⟩)
abbrev sNothing : Stmt := inClass (top 3) 0
abbrev sAdd : Stmt := inClass (top 3) 2
abbrev sContexts : Stmt := top 4
abbrev sInit : Stmt := inClass (top 5) 0
abbrev sStep : Stmt := inClass (top 5) 1
abbrev sJDeed : Stmt := top 6
abbrev sJWith : Stmt := top 7
abbrev sJoined : Stmt := top 8
abbrev sDraw : Stmt := top 10
abbrev sProduct : Stmt := top 11
abbrev sWord : Stmt := top 12
abbrev sWorth : Stmt := top 13
abbrev sReader : Stmt := top 14
abbrev sMachine : Stmt := top 15
abbrev sGoes : Stmt := top 16
abbrev sDeed : Stmt := top 17
abbrev sStretch : Stmt := top 18
abbrev sLaw : Stmt := top 19
/-- what stands free: the built-ins' names -/
structure Free (mg : Str → Option Value) : Prop where
  range : mg "range" = none
  len : mg "len" = none
  int : mg "int" = none
  max : mg "max" = none
  tuple : mg "tuple" = none
  list : mg "list" = none
/-- the two classes, the sides. CR: Writing, CW: Walk -/
structure Txt (K : PySem.W.Frag) (mg : Str → Option Value) (CR CW aS : Addr) : Prop where
  fr : Free mg
  clR : Cls K CR
  clW : Cls K CW
  mkR : MkO K CR
  mgR : mg "Writing" = some (.ref CR)
  mgW : mg "Walk" = some (.ref CW)
  mgS : mg "SIDES" = some (.ref aS)
  sides : ∀ H, SqT K H aS [.str "left", .str "right"]
  nPair : NoAttr K CW "pair"
  nContent : NoAttr K CW "content"
  nAround : NoAttr K CW "around"
  nWhere : NoAttr K CW "where"
  nDone : NoAttr K CW "done"
  nSeen : NoAttr K CW "seen"
  nSide : NoAttr K CW "side"
  nState : NoAttr K CW "state"

/-! ### walks of clauses, by an invariant over the turn -/
section
variable {K : PySem.W.Frag} {g : TG} {t : TB} {vs : List Nat} {σ : L2.St} {H1 : Hp} {Nx : Hp → Prop}
theorem cl_rng {n : Nat} (Pv : Nat → Hp → Prop) (h0 : Pv 0 H1) (hs : ∀ i H, i < n → Pv i H → g (natV i) (wipe σ vs) H fun σ2 H2 => wipe σ2 vs = wipe σ vs ∧ t σ2 H2 (Pv (i + 1))) (hd : ∀ H, Pv n H → Nx H) :
    ∃ W : Nat → Nat → Hp → Prop, (∃ m, W 0 m H1) ∧ ∀ i m H, W i m H → ((Itr 0 n).stop i H ∧ Nx H) ∨ ((Itr 0 n).go i H ∧ ∃ N1 : Hp → Prop, (∀ H', N1 H' → ∃ m', m' < m ∧ W (i + 1) m' H') ∧
      ∀ x H', (Itr 0 n).yld i H x H' → g x (wipe σ vs) H' fun σ2 H2 => wipe σ2 vs = wipe σ vs ∧ t σ2 H2 N1) := by
  refine ⟨fun i m H => i + m = n ∧ Pv i H, ⟨n, by omega, h0⟩, fun i m H ⟨e, p⟩ => ?_⟩
  cases m with
  | zero =>
    have : i = n := by omega
    subst this
    exact .inl ⟨Nat.le_refl _, hd H p⟩
  | succ m =>
    refine .inr ⟨(show i < n by omega), Pv (i + 1), fun H' p' => ⟨m, Nat.lt_succ_self m, by omega, p'⟩, fun x H' hy => ?_⟩
    obtain ⟨rfl, rfl⟩ := hy
    rw [Int.zero_add]
    exact hs i _ (by omega) p
theorem cl_list {a : Addr} {xs : List V} (Pv : Nat → Hp → Prop) (h0 : Pv 0 H1) (hl : ∀ i H, Pv i H → SqL K H a xs) (hs : ∀ i x H, xs[i]? = some x → Pv i H → g x (wipe σ vs) H fun σ2 H2 => wipe σ2 vs = wipe σ vs ∧ t σ2 H2 (Pv (i + 1))) (hd : ∀ H, Pv xs.length H → Nx H) :
    ∃ W : Nat → Nat → Hp → Prop, (∃ m, W 0 m H1) ∧ ∀ i m H, W i m H → ((Itl K a).stop i H ∧ Nx H) ∨ ((Itl K a).go i H ∧ ∃ N1 : Hp → Prop, (∀ H', N1 H' → ∃ m', m' < m ∧ W (i + 1) m' H') ∧
      ∀ x H', (Itl K a).yld i H x H' → g x (wipe σ vs) H' fun σ2 H2 => wipe σ2 vs = wipe σ vs ∧ t σ2 H2 N1) := by
  refine ⟨fun i m H => i + m = xs.length ∧ Pv i H, ⟨xs.length, by omega, h0⟩, fun i m H ⟨e, p⟩ => ?_⟩
  cases m with
  | zero =>
    have : i = xs.length := by omega
    subst this
    exact .inl ⟨⟨xs, hl _ _ p, Nat.le_refl _⟩, hd H p⟩
  | succ m =>
    refine .inr ⟨⟨xs, xs[i]'(by omega), hl _ _ p, List.getElem?_eq_getElem _⟩, Pv (i + 1), fun H' p' => ⟨m, Nat.lt_succ_self m, by omega, p'⟩, fun x H' hy => ?_⟩
    obtain ⟨rfl, hx⟩ := hy
    exact hs i x _ (hx xs (hl _ _ p)) p
theorem cl_tup {a : Addr} {xs : List V} (Pv : Nat → Hp → Prop) (h0 : Pv 0 H1) (hl : ∀ i H, Pv i H → SqT K H a xs) (hs : ∀ i x H, xs[i]? = some x → Pv i H → g x (wipe σ vs) H fun σ2 H2 => wipe σ2 vs = wipe σ vs ∧ t σ2 H2 (Pv (i + 1))) (hd : ∀ H, Pv xs.length H → Nx H) :
    ∃ W : Nat → Nat → Hp → Prop, (∃ m, W 0 m H1) ∧ ∀ i m H, W i m H → ((Itt K a).stop i H ∧ Nx H) ∨ ((Itt K a).go i H ∧ ∃ N1 : Hp → Prop, (∀ H', N1 H' → ∃ m', m' < m ∧ W (i + 1) m' H') ∧
      ∀ x H', (Itt K a).yld i H x H' → g x (wipe σ vs) H' fun σ2 H2 => wipe σ2 vs = wipe σ vs ∧ t σ2 H2 N1) := by
  refine ⟨fun i m H => i + m = xs.length ∧ Pv i H, ⟨xs.length, by omega, h0⟩, fun i m H ⟨e, p⟩ => ?_⟩
  cases m with
  | zero =>
    have : i = xs.length := by omega
    subst this
    exact .inl ⟨⟨xs, hl _ _ p, Nat.le_refl _⟩, hd H p⟩
  | succ m =>
    refine .inr ⟨⟨xs, xs[i]'(by omega), hl _ _ p, List.getElem?_eq_getElem _⟩, Pv (i + 1), fun H' p' => ⟨m, Nat.lt_succ_self m, by omega, p'⟩, fun x H' hy => ?_⟩
    obtain ⟨rfl, hx⟩ := hy
    exact hs i x _ (hx xs (hl _ _ p)) p
end
theorem small_le {n : Nat} (h : n ≤ 100000) : n ≤ sizeLine := by rw [sizeLine_eq]; omega
theorem small_lt {n : Nat} (h : n ≤ 100000) : n < sizeLine := by rw [sizeLine_eq]; omega
/-- a machine's part -/
theorem pairs_snoc {α β : Type} {F : α → β → Prop} {x : α} {y : β} (r : F x y) : ∀ {xs : List α} {ys : List β}, Paired F xs ys → Paired F (xs ++ [x]) (ys ++ [y])
  | _, _, .nil => .cons r .nil
  | _, _, .cons q t => .cons q (pairs_snoc r t)
end K36
/-! the Walk object in the heap -/
namespace K36
open PySem PySem.Spec PyProof.Rows L2
def bI (b : Bool) : Int := if b then 1 else 0
def wfs (pa co ar dn sn : Addr) (wh side : Bool) (q : Nat) : List (Str × V) :=
  [("side", .str (sideS side)), ("state", natV q), ("pair", .ref pa), ("content", .ref co), ("around", .ref ar), ("where", .int (bI wh)), ("done", .ref dn), ("seen", .ref sn)]
section
variable {pa co ar dn sn : Addr} {wh side : Bool} {q : Nat}
theorem lk_hit {f : Str} {v : V} {r : List (Str × V)} : List.lookup f ((f, v) :: r) = some v := by simp
theorem lk_miss {f g : Str} {v : V} {r : List (Str × V)} (h : (f == g) = false) : List.lookup f ((g, v) :: r) = List.lookup f r := by rw [List.lookup_cons, h]
theorem wl_side : (wfs pa co ar dn sn wh side q).lookup ("side" : Str) = some (.str (sideS side)) := lk_hit
theorem wl_state : (wfs pa co ar dn sn wh side q).lookup ("state" : Str) = some (natV q) := by
  unfold wfs; rw [lk_miss (by decide +kernel)]; exact lk_hit
theorem wl_pair : (wfs pa co ar dn sn wh side q).lookup ("pair" : Str) = some (.ref pa) := by
  unfold wfs; rw [lk_miss (by decide +kernel), lk_miss (by decide +kernel)]; exact lk_hit
theorem wl_content : (wfs pa co ar dn sn wh side q).lookup ("content" : Str) = some (.ref co) := by
  unfold wfs; rw [lk_miss (by decide +kernel), lk_miss (by decide +kernel), lk_miss (by decide +kernel)]; exact lk_hit
theorem wl_around : (wfs pa co ar dn sn wh side q).lookup ("around" : Str) = some (.ref ar) := by
  unfold wfs; rw [lk_miss (by decide +kernel), lk_miss (by decide +kernel), lk_miss (by decide +kernel), lk_miss (by decide +kernel)]; exact lk_hit
theorem wl_where : (wfs pa co ar dn sn wh side q).lookup ("where" : Str) = some (.int (bI wh)) := by
  unfold wfs; rw [lk_miss (by decide +kernel), lk_miss (by decide +kernel), lk_miss (by decide +kernel), lk_miss (by decide +kernel), lk_miss (by decide +kernel)]; exact lk_hit
theorem wl_done : (wfs pa co ar dn sn wh side q).lookup ("done" : Str) = some (.ref dn) := by
  unfold wfs; rw [lk_miss (by decide +kernel), lk_miss (by decide +kernel), lk_miss (by decide +kernel), lk_miss (by decide +kernel), lk_miss (by decide +kernel), lk_miss (by decide +kernel)]; exact lk_hit
theorem wl_seen : (wfs pa co ar dn sn wh side q).lookup ("seen" : Str) = some (.ref sn) := by
  unfold wfs; rw [lk_miss (by decide +kernel), lk_miss (by decide +kernel), lk_miss (by decide +kernel), lk_miss (by decide +kernel), lk_miss (by decide +kernel), lk_miss (by decide +kernel), lk_miss (by decide +kernel)]; exact lk_hit
theorem pf_hit {f : Str} {v v' : V} {r : List (Str × V)} : putF f v ((f, v') :: r) = (f, v) :: r := by
  show (if f = f then _ else _) = _
  rw [if_pos rfl]
theorem pf_miss {f g : Str} {v v' : V} {r : List (Str × V)} (h : decide (g = f) = false) : putF f v ((g, v') :: r) = (g, v') :: putF f v r := by
  show (if g = f then _ else _) = _
  rw [if_neg (of_decide_eq_false h)]
theorem wp_side {s : Bool} : putF ("side" : Str) (.str (sideS s)) (wfs pa co ar dn sn wh side q) = wfs pa co ar dn sn wh s q := by unfold wfs; rw [pf_hit]
theorem wp_state {p : Nat} : putF ("state" : Str) (natV p) (wfs pa co ar dn sn wh side q) = wfs pa co ar dn sn wh side p := by
  unfold wfs; rw [pf_miss (by decide +kernel), pf_hit]
theorem wp_where {z : Bool} {i : Int} (h : i = bI z) : putF ("where" : Str) (.int i) (wfs pa co ar dn sn wh side q) = wfs pa co ar dn sn z side q := by
  subst h
  unfold wfs; rw [pf_miss (by decide +kernel), pf_miss (by decide +kernel), pf_miss (by decide +kernel), pf_miss (by decide +kernel), pf_miss (by decide +kernel), pf_hit]
theorem wp_done {d : Addr} : putF ("done" : Str) (.ref d) (wfs pa co ar dn sn wh side q) = wfs pa co ar d sn wh side q := by
  unfold wfs; rw [pf_miss (by decide +kernel), pf_miss (by decide +kernel), pf_miss (by decide +kernel), pf_miss (by decide +kernel), pf_miss (by decide +kernel), pf_miss (by decide +kernel), pf_hit]
theorem wfs_len : (wfs pa co ar dn sn wh side q).length < 1000 := by show 8 < 1000; decide
/-- the fields as __init__ stores them -/
theorem pf_nil {f : Str} {v : V} : putF f v [] = [(f, v)] := rfl
theorem wfs_made : putF ("seen" : Str) (.ref sn) (putF ("done" : Str) (.ref dn) (putF ("where" : Str) (.int (bI wh)) (putF ("around" : Str) (.ref ar) (putF ("content" : Str) (.ref co) (putF ("pair" : Str) (.ref pa) (putF ("state" : Str) (natV q) (putF ("side" : Str) (.str (sideS side)) []))))))) = wfs pa co ar dn sn wh side q := by
  simp (disch := decide +kernel) only [pf_nil, pf_miss]
  rfl
end
/-- what does not change while one walk runs -/
structure WkS (H : Hp) (CR pa co ar : Addr) (M : Mach) (l r v1 v2 : Nat) (F1 F2 : Ctx4 → Dd) : Prop where
  pair : ∃ s1 s2, H pa = some (.tup [.ref s1, .ref s2]) ∧ StrAt H s1 v1 F1 M.zs ∧ StrAt H s2 v2 F2 M.zs
  around : ∃ a1 a2, H ar = some (.tup [.ref a1, .ref a2]) ∧ H a1 = some (.tup [natV l, natV (M.mc.mul v2 r)]) ∧ H a2 = some (.tup [natV (M.mc.mul l v1), natV r])
  content : ∃ dxc, H co = some (.ins CR dxc [])
structure WkD (H : Hp) (p CW pa co ar sn : Addr) (w : Wk) : Prop where
  obj : ∃ dx dn, H p = some (.ins CW dx (wfs pa co ar dn sn w.wh w.side w.q)) ∧ H dn = some (.tup (w.done.map V.int))
  seen : ∃ as : List Addr, H sn = some (.lst (as.map V.ref)) ∧ Paired (fun a (x : Bool × Nat) => H a = some (.tup [.int (bI x.1), natV x.2])) as w.seen
/-- all but the walk's own object and its list stay -/
def Kept (p sn : Addr) (H H' : Hp) : Prop := ∀ b o, H b = some o → b ≠ p → b ≠ sn → H' b = some o
theorem WkS.kept {H H' : Hp} {p sn CR CW pa co ar : Addr} {M : Mach} {l r v1 v2 : Nat} {F1 F2 : Ctx4 → Dd} {dx : Addr} {fs : List (Str × V)} {xs : List V} (h : WkS H CR pa co ar M l r v1 v2 F1 F2) (hp : H p = some (.ins CW dx fs)) (hn : H sn = some (.lst xs)) (hc : p ≠ co) (k : Kept p sn H H') : WkS H' CR pa co ar M l r v1 v2 F1 F2 := by
  have tp : ∀ a ys, H a = some (.tup ys) → H' a = some (.tup ys) := fun a ys e => k a _ e (ne_of e hp (fun z => by cases z)) (ne_of e hn (fun z => by cases z))
  have st : ∀ {a : Addr} {v : Nat} {F : Ctx4 → Dd}, StrAt H a v F M.zs → StrAt H' a v F M.zs := fun {a v F} ⟨d, kvs, h1, h2, h3⟩ =>
    ⟨d, kvs, tp _ _ h1, k _ _ h2 (ne_of h2 hp (fun z => by cases z)) (ne_of h2 hn (fun z => by cases z)), h3.mono tp⟩
  obtain ⟨s1, s2, e1, e2, e3⟩ := h.pair
  obtain ⟨a1, a2, e4, e5, e6⟩ := h.around
  obtain ⟨dxc, e7⟩ := h.content
  exact ⟨⟨s1, s2, tp _ _ e1, st e2, st e3⟩, ⟨a1, a2, tp _ _ e4, tp _ _ e5, tp _ _ e6⟩, ⟨dxc, k _ _ e7 hc.symm (ne_of e7 hn (fun z => by cases z))⟩⟩
/-- data of what has been seen -/
def pd (x : Bool × Nat) : PyData := .tuple [.int (bI x.1), .int (x.2 : Int)]
theorem bI_inj {a b : Bool} (h : bI a = bI b) : a = b := by
  cases a <;> cases b <;> simp [bI] at h <;> rfl
theorem pd_eqv (x y : Bool × Nat) : PyData.eqv (pd x) (pd y) = decide (x = y) := by
  obtain ⟨a, b⟩ := x
  obtain ⟨c, d⟩ := y
  unfold pd
  simp only [PyData.eqv, PyData.eqvAll, Bool.and_true]
  rw [Bool.eq_iff_iff]
  simp only [Bool.and_eq_true, beq_iff_eq, decide_eq_true_eq, Prod.mk.injEq, Int.natCast_inj]
  constructor
  · rintro ⟨h1, h2⟩; exact ⟨bI_inj h1, h2⟩
  · rintro ⟨rfl, rfl⟩; exact ⟨rfl, rfl⟩
theorem pd_lay : ∀ l : List (Bool × Nat), PyData.canLayAll0 (l.map pd) = true
  | [] => rfl
  | x :: r => by simp [PyData.canLayAll0, PyData.canLay0, pd, pd_lay r]
theorem pd_depth : ∀ l : List (Bool × Nat), PyData.depthAll (l.map pd) ≤ 1
  | [] => by simp [PyData.depthAll]
  | x :: r => by
    have := pd_depth r
    simp only [List.map_cons, PyData.depthAll, pd, PyData.depth]
    omega
theorem pd_shaped (x : Bool × Nat) : SeqAt.shaped (pd x) = true := by simp [SeqAt.shaped, pd, PyData.canLay0, PyData.canLayAll0, PyData.depth, PyData.depthAll]
theorem pds_shaped (l : List (Bool × Nat)) : SeqAt.shaped (.list (l.map pd)) = true := by
  have := pd_depth l
  simp only [SeqAt.shaped, PyData.canLay0, PyData.depth, pd_lay, Bool.true_and, decide_eq_true_eq]
  exact decide_eq_true (by omega)
theorem any_pd (l : List (Bool × Nat)) (x : Bool × Nat) : ((l.map pd).any fun z => PyData.eqv z (pd x)) = decide (x ∈ l) := by
  rw [Bool.eq_iff_iff, List.any_eq_true, decide_eq_true_eq]
  constructor
  · rintro ⟨z, hz, e⟩
    obtain ⟨y, hy, rfl⟩ := List.mem_map.mp hz
    rw [pd_eqv, decide_eq_true_eq] at e
    subst e; exact hy
  · intro h
    exact ⟨pd x, List.mem_map.mpr ⟨x, h, rfl⟩, by rw [pd_eqv]; simp⟩
theorem dp_pd {K : PySem.W.Frag} {H : Hp} {a : Addr} {x : Bool × Nat} (h : H a = some (.tup [.int (bI x.1), natV x.2])) : Dp K H (.ref a) (pd x) := .tup (.of h) (.cons (.int _) (.cons (.int _) .nil))
theorem dp_pds {K : PySem.W.Frag} {H : Hp} : ∀ {as : List Addr} {l : List (Bool × Nat)}, Paired (fun a (x : Bool × Nat) => H a = some (.tup [.int (bI x.1), natV x.2])) as l → DpAll K H (as.map V.ref) (l.map pd)
  | _, _, .nil => .nil
  | _, _, .cons h t => .cons (dp_pd h) (dp_pds t)
end K36
/-! Writing's methods; contexts -/
namespace K36
open PySem PySem.Spec PyProof.Rows L2
section
variable {P : Program} {w : World} {K : PySem.W.Frag} {mg : Str → Option Value} {base : Heap} {CR CW aS : Addr}
def spNothing : Sp := fun vs H Q _ => ∃ c, vs = [.ref c] ∧ ∀ p, H p = none → Q (.ref p) (upd H p (.tup []))
theorem scNothing : FnScope ["self"] ["self"] (defScope sNothing) := ⟨rfl, rfl, rfl, by decide +kernel, rfl, by decide +kernel, by decide +kernel⟩
theorem ok_nothing {f : Addr} {fd : FuncData} (F : Fun K "nothing" "Writing.nothing" sNothing f fd) : FnOk P w K mg base CX0 1 f fd ["self"] spNothing := by
  refine F.ok scNothing (fun vs H Q E h => ?_) (fun cdv A outer s H vs Q E hr h => ?_)
  · obtain ⟨c, rfl, _⟩ := h
    rfl
  · obtain ⟨c, rfl, k⟩ := h
    exact ⟨_, pss_one (ps_ret (pe_tup pa_nil)), Nat.zero_le _, k⟩
def spAdd : Sp := fun vs H Q _ => ∃ (c a b : Addr) (xs ys : List V), vs = [.ref c, .ref a, .ref b] ∧ H a = some (.tup xs) ∧ H b = some (.tup ys) ∧ xs.length + ys.length ≤ sizeLine ∧ ∀ p H', Same H H' → H' p = some (.tup (xs ++ ys)) → Q (.ref p) H'
theorem scAdd : FnScope ["self", "one", "two"] ["self", "one", "two"] (defScope sAdd) := ⟨rfl, rfl, rfl, by decide +kernel, rfl, by decide +kernel, by decide +kernel⟩
theorem ok_add {f : Addr} {fd : FuncData} (F : Fun K "add" "Writing.add" sAdd f fd) : FnOk P w K mg base CX0 1 f fd ["self", "one", "two"] spAdd := by
  refine F.ok scAdd (fun vs H Q E h => ?_) (fun cdv A outer s H vs Q E hr h => ?_)
  · obtain ⟨c, a, b, xs, ys, rfl, _⟩ := h
    rfl
  · obtain ⟨c, a, b, xs, ys, rfl, ha, hb, hz, k⟩ := h
    refine ⟨_, pss_one (ps_ret (pe_op op_catA (pv 1) (pv 2))), _, rfl, _, rfl, a, b, xs, ys, rfl, rfl, .of ha, .of hb, hz, fun e => ?_, fun _ e => ?_, fun _ _ p hp => ?_⟩
    · subst e
      exact k b H (Same.refl H) hb
    · subst e
      exact k a H (Same.refl H) (by rw [List.append_nil]; exact ha)
    · exact k p _ (same_upd hp) upd_same
def pairsN (m : Nat) : List (Nat × Nat) := (List.range m).flatMap fun u => (List.range m).map fun v => (u, v)
def blkZ (S : Nat) (z : Nat × Nat) (b : Bool) : List Ctx4 := (List.range S).map fun p => (z.1, z.2, b, p)
theorem pairs_all (m S : Nat) : (pairsN m).flatMap (fun z => [false, true].flatMap (blkZ S z)) = allZ m S := by
  unfold pairsN allZ
  rw [List.flatMap_assoc]
  congr 1
  funext u
  rw [List.flatMap_map]
  rfl
def spContexts : Sp := fun vs H Q _ => ∃ (m : Addr) (M : Mach), vs = [.ref m] ∧ MachAt H m M ∧ M.Good ∧
  ∀ (l : Addr) (as : List Addr) (H' : Hp), Same H H' → H l = none → H' l = some (.lst (as.map V.ref)) → Paired (fun a z => H' a = some (.tup ((kk z).map kV))) as M.zs → Q (.ref l) H'
theorem scContexts : FnScope ["machine", "many", "around", "left", "right", "side", "state"] ["machine"] (defScope sContexts) := ⟨rfl, rfl, rfl, by decide +kernel, rfl, by decide +kernel, by decide +kernel⟩
/-- what a list of new tuples is, turn by turn -/
structure Made {α : Type} (H0 H : Hp) (D : Addr) (f : α → List V) (zs : List α) : Prop where
  same : Same H0 H
  ex : ∃ as : List Addr, H D = some (.lst (as.map V.ref)) ∧ Paired (fun a z => H a = some (.tup (f z))) as zs
theorem Made.start {α : Type} {H0 : Hp} {D : Addr} {f : α → List V} (h : H0 D = none) : Made H0 (upd H0 D (.lst [])) D f [] := ⟨same_upd h, [], upd_same, .nil⟩
theorem Made.step {α : Type} {H0 H : Hp} {D p : Addr} {f : α → List V} {zs : List α} {z : α} (h : Made H0 H D f zs) (hD : H0 D = none) (hp : H p = none) (hl : zs.length < 100000) :
    ∃ xs, (upd H p (.tup (f z))) D = some (.lst xs) ∧ xs.length < sizeLine ∧ Made H0 (upd (upd H p (.tup (f z))) D (.lst (xs ++ [.ref p]))) D f (zs ++ [z]) := by
  obtain ⟨as, e, pr⟩ := h.ex
  have np : D ≠ p := ne_of_none e hp
  refine ⟨as.map V.ref, by rw [upd_ne np]; exact e, ?_, fun b o eb => ?_, as ++ [p], by rw [upd_same]; simp, ?_⟩
  · rw [List.length_map, Paired.length pr]
    exact small_lt (by omega)
  · rw [upd_ne (ne_of_none eb hD), upd_ne (ne_of_none (h.same _ _ eb) hp)]
    exact h.same _ _ eb
  · refine pairs_snoc (by rw [upd_ne np.symm, upd_same]) (L2.Paired.mapP pr fun a y ea => ?_)
    have nD : a ≠ D := ne_of ea e (fun z => by cases z)
    rw [upd_ne nD, upd_ne (ne_of_none ea hp)]
    exact ea
theorem Made.get {α : Type} {H0 H : Hp} {D : Addr} {f : α → List V} {zs : List α} (h : Made H0 H D f zs) : ∃ as : List Addr, H D = some (.lst (as.map V.ref)) ∧ Paired (fun a z => H a = some (.tup (f z))) as zs := h.ex
theorem ok_contexts {f : Addr} {fd : FuncData} (F : Fun K "contexts" "contexts" sContexts f fd) (T : Txt K mg CR CW aS) : FnOk P w K mg base CX0 1 f fd ["machine"] spContexts := by
  refine F.ok scContexts (fun vs H Q E h => ?_) (fun cdv A outer s H vs Q E hr h => ?_)
  · obtain ⟨m, M, rfl, _⟩ := h
    rfl
  · obtain ⟨m, M, rfl, hM, g, k⟩ := h
    obtain ⟨lk, wv, ov, ts, ss, h1, ⟨al, am, rows, ac, h2, h3, h4, h5⟩, h6, h7⟩ := hM.ex
    obtain ⟨s1, s2, s3⟩ := g.small
    refine ⟨_, pss_cons (ps_set (i := 1) scContexts.nd rfl (Or.inr rfl) (pe_callTy cr_rng (by rfl) T.fr.range (by decide +kernel) (pa_cons (pe_callB call_len_seq (by rfl) T.fr.len PySem.boot_len (pa_cons (pe_ix ix_tup (pe_ix ix_tup (pv 0) pe_int (fun _ _ => rfl)) pe_int (fun _ _ => rfl)) pa_nil)) pa_nil)))
      (pss_cons (ps_setLc2 (i := 2) (own := [("left", 3), ("right", 4)]) (vs1 := [4]) (g := gName 3) (g1 := gName 4) (tt := tYes) (tt1 := tYes) rfl scContexts.nd rfl rfl (sw_true rfl rfl rfl (by decide +kernel)) (pi_rngv (pv 1))
          (blkOk_by (N := ["machine", "many", "around", "left", "right", "side", "state"]) (sc := defScope sContexts) (by decide +kernel)) (by decide)
          (fun _ _ _ _ _ => pg_name (i := 3) scContexts.nd rfl (Or.inl rfl)) (fun _ _ _ _ _ => pts_nil)
          (fun _ _ _ _ _ => pi_rngv (pv 1)) (fun _ _ _ _ _ => pg_name (i := 4) scContexts.nd rfl (Or.inl rfl)) (fun _ _ _ _ _ => pts_nil)
          (fun _ _ _ _ _ => pe_tup (pa_cons (pv 3) (pa_cons (pv 4) pa_nil))))
      (pss_one (ps_ret (pe_lc3 (own := [("left", 3), ("right", 4), ("side", 5), ("state", 6)]) (vs1 := [5, 6]) (vs2 := [6]) (g := gTup K 2 (gCons (gName 3) (gCons (gName 4) gNil))) (g1 := gName 5) (g2 := gName 6)
          (wi1 := iTup K (tC (.ref aS))) (wi2 := iRng1 (tCons (tOp (rIxT K) (tVar 0) (tC (.int 1))) tNil)) rfl scContexts.nd (pi_list (pv 2))
          (blkOk_by (N := ["machine", "many", "around", "left", "right", "side", "state"]) (sc := defScope sContexts) (by decide +kernel)) (by decide) (by decide)
          (fun _ _ _ _ _ => pg_tup rfl (pgs_cons (pg_name (i := 3) scContexts.nd rfl (Or.inl rfl)) (pgs_cons (pg_name (i := 4) scContexts.nd rfl (Or.inl rfl)) pgs_nil)))
          (fun _ _ _ _ _ => pi_tup (pe_glob rfl T.mgS rfl)) (fun _ _ _ _ _ => pg_name (i := 5) scContexts.nd rfl (Or.inl rfl))
          (fun _ _ _ _ _ => pi_range1 rfl T.fr.range (pa_cons (pe_ix ix_tup (pv 0) pe_int (fun _ _ => rfl)) pa_nil)) (fun _ _ _ _ _ => pg_name (i := 6) scContexts.nd rfl (Or.inl rfl))
          (fun _ _ _ _ _ => pe_tup (pa_cons (pv 3) (pa_cons (pv 4) (pa_cons (pv 5) (pa_cons (pv 6) pa_nil))))))))), ?_⟩
    -- many
    have el : (rows.map V.ref).length = M.mul.length := by rw [List.length_map, Paired.length h5]
    refine ⟨_, rfl, m, _, 2, .ref lk, rfl, rfl, .of h1, atI_nat (j := 2) rfl, lk, _, 2, .ref am, rfl, rfl, .of h2, atI_nat (j := 2) rfl, am, _, rfl, .inr (.of h4), _, rfl, fun p np => ?_⟩
    rw [el]
    have sm : Same H (upd H p (.rng 0 (M.mul.length : Int))) := same_upd np
    have ep : (upd H p (.rng 0 (M.mul.length : Int))) p = some (.rng 0 (M.mul.length : Int)) := upd_same
    revert sm ep
    generalize upd H p (.rng 0 (M.mul.length : Int)) = H1
    intro sm ep
    -- around
    refine ⟨.ref p, rfl, p, _, rfl, ep, ⟨by omega, by omega⟩, fun D nD => ?_⟩
    rw [Int.toNat_natCast]
    have b1 : ∀ i, (((List.range i).flatMap fun u => (List.range M.mul.length).map fun v => (u, v)).length) ≤ i * 3 := fun i => by
      have := flat_len (fun u => (List.range M.mul.length).map fun v => (u, v)) 3 (fun u => by simpa using s1) (List.range i)
      rwa [List.length_range] at this
    refine cl_rng (fun i H' => Made H1 H' D (fun z : Nat × Nat => [natV z.1, natV z.2]) ((List.range i).flatMap fun u => (List.range M.mul.length).map fun v => (u, v))) (Made.start nD) (fun i Hc hi pm => ⟨rfl, ?_⟩) fun H2 pm => ?_
    · refine ⟨.ref p, rfl, p, _, rfl, pm.same _ _ ep, ⟨by omega, by omega⟩, ?_⟩
      rw [Int.toNat_natCast]
      refine cl_rng (vs := [4]) (fun j H' => Made H1 H' D (fun z : Nat × Nat => [natV z.1, natV z.2]) (((List.range i).flatMap fun u => (List.range M.mul.length).map fun v => (u, v)) ++ (List.range j).map fun v => (i, v))) (by simpa using pm)
        (fun j Hd hj pd => ⟨rfl, _, rfl, _, rfl, small_le (by show 2 ≤ 100000; decide), fun q nq => ?_⟩) fun H' pd => ?_
      · have st := Made.step (z := (i, j)) pd nD nq (by
          have := b1 i
          rw [List.length_append, List.length_map, List.length_range]
          omega)
        rw [List.range_succ, List.map_append, ← List.append_assoc]
        exact st
      · rw [List.range_succ, List.flatMap_append]
        simpa using pd
    · -- the contexts
      obtain ⟨as, eD, pr⟩ := pm.ex
      have pr : Paired (fun a (z : Nat × Nat) => H2 a = some (.tup [natV z.1, natV z.2])) as (pairsN M.mul.length) := pr
      have s2' : Same H H2 := sm.trans pm.same
      have lp : (pairsN M.mul.length).length ≤ 9 := by
        have := b1 M.mul.length
        show ((List.range M.mul.length).flatMap _).length ≤ 9
        omega
      have b2 : ∀ (l : List (Nat × Nat)), (l.flatMap fun z => [false, true].flatMap (blkZ M.S z)).length ≤ l.length * 6 := fun l => flat_len _ 6 (fun z => by
        have := flat_len (blkZ M.S z) 3 (fun b => by unfold blkZ; simpa using s2) [false, true]
        simpa using this) l
      have b3 : ∀ (z : Nat × Nat) (l : List Bool), (l.flatMap (blkZ M.S z)).length ≤ l.length * 3 := fun z l => flat_len (blkZ M.S z) 3 (fun b => by unfold blkZ; simpa using s2) l
      refine ⟨.ref D, rfl, D, rfl, ⟨_, .of eD⟩, fun D2 nD2 => ?_⟩
      refine cl_list (xs := as.map V.ref) (fun i H' => Made H2 H' D2 (fun z : Ctx4 => (kk z).map kV) (((pairsN M.mul.length).take i).flatMap fun z => [false, true].flatMap (blkZ M.S z))) (Made.start nD2) (fun i H' p3 => .of (p3.same _ _ eD)) (fun i x Hc hx p3 => ?_) fun H3 p3 => ?_
      · have hil : i < as.length := by
          have := (List.getElem?_eq_some_iff.mp hx).1
          rwa [List.length_map] at this
        have hil2 : i < (pairsN M.mul.length).length := by rw [← Paired.length pr]; exact hil
        obtain ⟨a, ea, ha⟩ := pairedGet pr (List.getElem?_eq_getElem hil2)
        rw [List.getElem?_map, ea] at hx
        obtain rfl : V.ref a = x := Option.some.inj hx
        have et : (pairsN M.mul.length).take (i + 1) = (pairsN M.mul.length).take i ++ [(pairsN M.mul.length)[i]] := by
          rw [List.take_add_one, List.getElem?_eq_getElem hil2]; rfl
        rw [et]
        revert ha
        generalize (pairsN M.mul.length)[i] = z
        intro ha
        refine ⟨a, _, rfl, .of (p3.same _ _ ha), rfl, _, _, rfl, _, _, rfl, rfl, rfl, ?_⟩
        refine ⟨aS, rfl, ⟨_, T.sides _⟩, ?_⟩
        refine cl_tup (xs := [.str "left", .str "right"]) (fun j H' => Made H2 H' D2 (fun z : Ctx4 => (kk z).map kV) ((((pairsN M.mul.length).take i).flatMap fun z => [false, true].flatMap (blkZ M.S z)) ++ ([false, true].take j).flatMap (blkZ M.S z)))
          (by simpa using p3) (fun _ _ _ => T.sides _) (fun j y Hd hy p4 => ?_) fun H' p4 => ?_
        · obtain ⟨b, rfl, et2⟩ : ∃ b : Bool, y = .str (sideS b) ∧ [false, true].take (j + 1) = [false, true].take j ++ [b] := by
            match j, hy with
            | 0, hy => exact ⟨false, (Option.some.inj hy).symm, rfl⟩
            | 1, hy => exact ⟨true, (Option.some.inj hy).symm, rfl⟩
          have lj : ([false, true].take j).length ≤ 2 := by rw [List.length_take]; exact Nat.min_le_right _ _
          refine ⟨rfl, _, rfl, m, _, 1, natV M.S, rfl, rfl, .of (p4.same _ _ (s2' _ _ h1)), atI_nat (j := 1) rfl, (M.S : Int), rfl, by omega, by omega, ?_⟩
          rw [Int.toNat_natCast, et2]
          refine cl_rng (fun q H' => Made H2 H' D2 (fun z : Ctx4 => (kk z).map kV) (((((pairsN M.mul.length).take i).flatMap fun z => [false, true].flatMap (blkZ M.S z)) ++ ([false, true].take j).flatMap (blkZ M.S z)) ++ (List.range q).map fun p => (z.1, z.2, b, p)))
            (by simpa using p4) (fun q He hq p5 => ⟨rfl, _, rfl, _, rfl, _, rfl, _, rfl, small_le (by show 4 ≤ 100000; decide), fun r nr => ?_⟩) fun H' p5 => ?_
          · have st := Made.step (z := (z.1, z.2, b, q)) p5 nD2 nr (by
              have := b2 ((pairsN M.mul.length).take i)
              have := b3 z ([false, true].take j)
              rw [List.length_append, List.length_append, List.length_map, List.length_range]
              rw [List.length_take] at *
              have : min i (pairsN M.mul.length).length ≤ 9 := Nat.le_trans (Nat.min_le_right _ _) lp
              omega)
            rw [List.range_succ, List.map_append, ← List.append_assoc]
            exact st
          · rw [List.flatMap_append, ← List.append_assoc]
            simpa [blkZ] using p5
        · rw [List.flatMap_append]
          simpa using p4
      · obtain ⟨as3, eD3, pr3⟩ := p3.ex
        refine k D2 as3 H3 (s2'.trans p3.same) (s2'.free nD2) eD3 ?_
        rw [List.length_map, Paired.length pr, List.take_length, pairs_all] at pr3
        exact pr3
end
end K36
/-! Walk.step -/
namespace K36
open PySem PySem.Spec PyProof.Rows L2
def wres (d : Dd) (w : Wk) : WR := match d with
  | .non => .fin .non
  | .stop v => .fin (.stop (w.done ++ v))
  | .out s q v => if s = w.wh then .fin (.out s q (w.done ++ v)) else
      if (!w.wh, q) ∈ w.seen then .fin .non else .go ⟨!w.wh, !s, q, w.done ++ v, w.seen ++ [(!w.wh, q)]⟩
theorem wstep_eq (F1 F2 : Bool → Nat → Dd) (w : Wk) : wstep F1 F2 w = wres (if w.wh then F2 w.side w.q else F1 w.side w.q) w := rfl
/-- a stage of the step -/
structure Stg (H H' : Hp) (p sn CW dx : Addr) (fs : List (Str × V)) (dn : Addr) (done : List Int) (as : List Addr) : Prop where
  kept : Kept p sn H H'
  obj : H' p = some (.ins CW dx fs)
  dnv : H' dn = some (.tup (done.map V.int))
  lst : H' sn = some (.lst (as.map V.ref))
section
variable {H H' H2 : Hp} {p sn CW dx : Addr} {fs fs2 : List (Str × V)} {dn : Addr} {done : List Int} {as : List Addr}
theorem Stg.same (g : Stg H H' p sn CW dx fs dn done as) (s : Same H' H2) : Stg H H2 p sn CW dx fs dn done as :=
  ⟨fun b o e h1 h2 => s _ _ (g.kept b o e h1 h2), s _ _ g.obj, s _ _ g.dnv, s _ _ g.lst⟩
theorem Stg.put (g : Stg H H' p sn CW dx fs dn done as) : Stg H (upd H' p (.ins CW dx fs2)) p sn CW dx fs2 dn done as :=
  ⟨fun b o e h1 h2 => by rw [upd_ne h1]; exact g.kept b o e h1 h2, upd_same, by rw [upd_ne (ne_of g.dnv g.obj (fun z => by cases z))]; exact g.dnv, by rw [upd_ne (ne_of g.lst g.obj (fun z => by cases z))]; exact g.lst⟩
end
theorem side_if {s : Bool} {σ : L2.St} {H : Hp} {Q : VK} (h : Q (.str (sideS (!s))) H) :
    (fun (c : Bool) (H1 : Hp) => if c = true then tC (.str "left") σ H1 Q else tC (.str "right") σ H1 Q) (decide (V.str (sideS s) = V.str "right")) H := by
  cases s
  · exact ite2 (fun z => absurd (of_decide_eq_true z) (by decide +kernel)) fun _ => h
  · exact ite2 (fun _ => h) fun z => absurd (decide_eq_true rfl) z
theorem same_end {s wh : Bool} : decide (V.bl (decide (V.str (sideS s) = V.str "left")) = V.bl (decide (V.int (bI wh) = V.int 0))) = decide (s = wh) := by
  cases s <;> cases wh <;> decide +kernel
section
variable {P : Program} {w : World} {K : PySem.W.Frag} {mg : Str → Option Value} {base : Heap} {CR CW aS : Addr}
def spStep (CR CW : Addr) : Sp := fun vs H Q _ => ∃ (p pa co ar sn : Addr) (M : Mach) (l r v1 v2 : Nat) (F1 F2 : Ctx4 → Dd) (w : Wk), vs = [.ref p] ∧ WkS H CR pa co ar M l r v1 v2 F1 F2 ∧ WkD H p CW pa co ar sn w ∧ p ≠ co ∧
  (l < M.mul.length ∧ r < M.mul.length ∧ M.mc.mul v2 r < M.mul.length ∧ M.mc.mul l v1 < M.mul.length ∧ w.q < M.S) ∧ (∀ z ∈ M.zs, (wr (F1 z)).length ≤ 1000 ∧ (wr (F2 z)).length ≤ 1000) ∧ w.done.length ≤ 50000 ∧ w.seen.length ≤ 1000 ∧
  match wres (if w.wh then F2 (M.mc.mul l v1, r, w.side, w.q) else F1 (l, M.mc.mul v2 r, w.side, w.q)) w with
  | .fin d => ∀ v H', Kept p sn H H' → DeedAt H' v d → Q v H'
  | .go w' => ∀ H', Kept p sn H H' → WkD H' p CW pa co ar sn w' → Q (.str "on") H'
theorem scStep : FnScope ["self", "left", "right", "deed"] ["self"] (defScope sStep) := ⟨rfl, rfl, rfl, by decide +kernel, rfl, by decide +kernel, by decide +kernel⟩
theorem ok_step {f fA : Addr} {fd fdA : FuncData} (F : Fun K "step" "Walk.step" sStep f fd) (T : Txt K mg CR CW aS) (FA : Fun K "add" "Writing.add" sAdd fA fdA) (bA : Binds K fdA ["self", "one", "two"] []) (mA : Meth K CR "add" fA) :
    FnOk P w K mg base CX0 2 f fd ["self"] (spStep CR CW) := by
  have GA : FnOk P w K mg base CX0 1 fA fdA ["self", "one", "two"] spAdd := ok_add FA
  refine F.ok scStep (fun vs H Q E h => ?_) (fun cdv A outer s H vs Q E hr h => ?_)
  · obtain ⟨p, pa, co, ar, sn, M, l, r, v1, v2, F1, F2, w, rfl, _⟩ := h
    rfl
  · obtain ⟨p, pa, co, ar, sn, M, l, r, v1, v2, F1, F2, w, rfl, WS, WD, npc, ⟨b1, b2, b3, b4, b5⟩, bw, bd, bs, k⟩ := h
    have hu := hu_of hr
    have hu65 : A.units + 3 + 65 < cLine := by have := hr.un; show (A.deeper (envOfC "Walk.step" (defScope sStep) s.heap.objs.size f cdv)).units + 65 < cLine; omega
    refine ⟨_, pss_cons (ps_asg (pe_ix ix_tup (pe_fld (pv 0) rfl) (pe_fld (pv 0) rfl) (fun _ _ => rfl)) (pg_tup rfl (pgs_cons (pg_name (i := 1) scStep.nd rfl (Or.inl rfl)) (pgs_cons (pg_name (i := 2) scStep.nd rfl (Or.inl rfl)) pgs_nil))))
      (pss_cons (ps_set (i := 3) scStep.nd rfl (Or.inl rfl) (pe_dget hu (pe_ix ix_tup (pe_ix ix_tup (pe_fld (pv 0) rfl) (pe_fld (pv 0) rfl) (fun _ _ => rfl)) pe_int (fun _ _ => rfl)) (pe_tup (pa_cons (pv 1) (pa_cons (pv 2) (pa_cons (pe_fld (pv 0) rfl) (pa_cons (pe_fld (pv 0) rfl) pa_nil))))) (fun _ _ => rfl)))
      (pss_cons (ps_if (pt_cmpR op_isN (pv 3) pe_non (nomark _)) (pss_one (ps_ret pe_non)) pss_nil)
      (pss_cons (ps_fld (pv 0) (pe_meth (pe_fld (pv 0) rfl) T.clR mA GA hr bA .nil pass0 (pa_cons (pe_fld (pv 0) rfl) (pa_cons (pe_ix ix_tup (pv 3) (pe_un un_neg pe_int) (fun _ _ => rfl)) pa_nil))) rfl)
      (pss_cons (ps_if (pt_cmpR op_eq (pe_ix ix_tup (pv 3) pe_int (fun _ _ => rfl)) pe_str (nomark _)) (pss_one (ps_ret (pe_tup (pa_cons pe_str (pa_cons (pe_fld (pv 0) rfl) pa_nil))))) pss_nil)
      (pss_cons (ps_if (pt_cmpR op_eq (pe_cmpR op_eq (pe_ix ix_tup (pv 3) pe_int (fun _ _ => rfl)) pe_str (nomark _)) (pe_cmpR op_eq (pe_fld (pv 0) rfl) pe_int (nomark _)) (nomark _))
          (pss_one (ps_ret (pe_tup (pa_cons pe_str (pa_cons (pe_ix ix_tup (pv 3) pe_int (fun _ _ => rfl)) (pa_cons (pe_ix ix_tup (pv 3) pe_int (fun _ _ => rfl)) (pa_cons (pe_fld (pv 0) rfl) pa_nil))))))) pss_nil)
      (pss_cons (ps_fld (pv 0) (pe_op op_sub pe_int (pe_fld (pv 0) rfl)) rfl)
      (pss_cons (ps_fld (pv 0) (pe_ifExp (pt_cmpR op_eq (pe_ix ix_tup (pv 3) pe_int (fun _ _ => rfl)) pe_str (nomark _)) pe_str pe_str) rfl)
      (pss_cons (ps_fld (pv 0) (pe_ix ix_tup (pv 3) pe_int (fun _ _ => rfl)) rfl)
      (pss_cons (ps_if (pt_cmpR (op_inD hu65) (pe_tup (pa_cons (pe_fld (pv 0) rfl) (pa_cons (pe_fld (pv 0) rfl) pa_nil))) (pe_fld (pv 0) rfl) rfl) (pss_one (ps_ret pe_non)) pss_nil)
      (pss_cons (ps_expr (pe_bm PySem.F.plainAttrs_list PySem.F.slot_list_append PySem.F.type_list_append mt_append (pe_fld (pv 0) rfl) (pa_cons (pe_tup (pa_cons (pe_fld (pv 0) rfl) (pa_cons (pe_fld (pv 0) rfl) pa_nil))) pa_nil)))
      (pss_one (ps_ret pe_str)))))))))))), ?_⟩
    obtain ⟨dx, dn, hp, hdn⟩ := WD.obj
    obtain ⟨as, hsn, prs⟩ := WD.seen
    obtain ⟨s1, s2, hpa, st1, st2⟩ := WS.pair
    obtain ⟨a1, a2, har, ha1, ha2⟩ := WS.around
    obtain ⟨dxc, hco⟩ := WS.content
    obtain ⟨wh, side, q, done, seen⟩ := w
    simp only at hp hdn prs b5 bd bs k
    -- the part that is walked
    obtain ⟨z1, z2, ax, sx, vx, Fx, iax, eax, isx, stx, hz, hF, hw⟩ : ∃ (z1 z2 : Nat) (ax sx : Addr) (vx : Nat) (Fx : Ctx4 → Dd), atI [V.ref a1, V.ref a2] (bI wh) = some (.ref ax) ∧ H ax = some (.tup [natV z1, natV z2]) ∧ atI [V.ref s1, V.ref s2] (bI wh) = some (.ref sx) ∧ StrAt H sx vx Fx M.zs ∧
        ((z1, z2, side, q) : Ctx4) ∈ M.zs ∧ (if wh then F2 (M.mc.mul l v1, r, side, q) else F1 (l, M.mc.mul v2 r, side, q)) = Fx (z1, z2, side, q) ∧ (wr (Fx (z1, z2, side, q))).length ≤ 1000 := by
      cases wh
      · exact ⟨l, M.mc.mul v2 r, a1, s1, v1, F1, rfl, ha1, rfl, st1, mem_allZ.mpr ⟨b1, b3, b5⟩, rfl, (bw _ (mem_allZ.mpr ⟨b1, b3, b5⟩)).1⟩
      · exact ⟨M.mc.mul l v1, r, a2, s2, v2, F2, rfl, ha2, rfl, st2, mem_allZ.mpr ⟨b4, b2, b5⟩, rfl, (bw _ (mem_allZ.mpr ⟨b4, b2, b5⟩)).2⟩
    rw [hF] at k
    obtain ⟨d, kvs, esx, ed, di⟩ := stx
    obtain ⟨x, ex, dat⟩ := di.all _ hz
    -- left, right = self.around[self.where]
    refine ⟨_, rfl, p, CW, dx, _, _, rfl, hp, T.clW, T.nAround, wl_around, _, rfl, p, CW, dx, _, _, rfl, hp, T.clW, T.nWhere, wl_where, ar, _, _, .ref ax, rfl, rfl, .of har, iax, ax, _, rfl, .of eax, rfl, _, _, rfl, _, _, rfl, rfl, ?_⟩
    -- deed = self.pair[self.where][1][..]
    refine ⟨_, rfl, p, CW, dx, _, _, rfl, hp, T.clW, T.nPair, wl_pair, _, rfl, p, CW, dx, _, _, rfl, hp, T.clW, T.nWhere, wl_where, pa, _, _, .ref sx, rfl, rfl, .of hpa, isx, sx, _, 1, .ref d, rfl, rfl, .of esx, atI_nat (j := 1) rfl,
      _, rfl, _, rfl, _, rfl, p, CW, dx, _, _, rfl, hp, T.clW, T.nSide, wl_side, _, rfl, p, CW, dx, _, _, rfl, hp, T.clW, T.nState, wl_state, small_le (by show 4 ≤ 100000; decide), fun kt nk => ?_⟩
    have sa : Same H (upd H kt (.tup [natV z1, natV z2, .str (sideS side), natV q])) := same_upd nk
    have ek : (upd H kt (.tup [natV z1, natV z2, .str (sideS side), natV q])) kt = some (.tup ((kk (z1, z2, side, q)).map kV)) := upd_same
    refine ⟨d, x, rfl, ex ▸ DGet.t (sa _ _ ed) ek, ?_⟩
    have G0 : Stg H H p sn CW dx (wfs pa co ar dn sn wh side q) dn done as := ⟨fun _ _ e _ _ => e, hp, hdn, hsn⟩
    have Ga := G0.same sa
    have dat := dat.mono (TK.of sa)
    have hco := sa _ _ hco
    have keepT : ∀ a ys, H a = some (.tup ys) → a ≠ p ∧ a ≠ sn := fun a ys e => ⟨ne_of e hp (fun z => by cases z), ne_of e hsn (fun z => by cases z)⟩
    have prs0 := prs
    clear ek sa hp hdn hsn
    revert Ga dat hco
    generalize upd H kt (.tup [natV z1, natV z2, .str (sideS side), natV q]) = Ha
    intro Ga dat hco
    -- if deed is None
    refine ⟨_, rfl, rfl, _, rfl, ?_⟩
    cases hd : Fx (z1, z2, side, q) with
    | non =>
      rw [hd] at dat k
      obtain rfl : x = .non := dat
      exact ite2 (fun _ => k .non Ha Ga.kept rfl) fun z => absurd (decide_eq_true rfl) z
    | stop v =>
      rw [hd] at dat k hw
      obtain ⟨da, pw, rfl, hda, hpw⟩ := dat
      refine ite2 (fun z => absurd (of_decide_eq_true z) (by simp)) fun _ => ?_
      -- self.done = self.content.add(self.done, deed[-1])
      refine ⟨_, rfl, p, CW, dx, _, _, rfl, Ga.obj, T.clW, T.nContent, wl_content, co, dxc, [], rfl, hco, rfl, _, rfl, p, CW, dx, _, _, rfl, Ga.obj, T.clW, T.nDone, wl_done, _, rfl, 1, rfl, da, _, _, .ref pw, rfl, rfl, .of hda, rfl,
        co, dn, pw, _, _, rfl, Ga.dnv, hpw, small_le (by rw [List.length_map, List.length_map]; have : v.length ≤ 1000 := hw; omega), fun dn' Hb sb hdn' => ?_⟩
      have Gb : Stg H Hb p sn CW dx (wfs pa co ar dn sn wh side q) dn' (done ++ v) as := ⟨(Ga.same sb).kept, (Ga.same sb).obj, by rw [List.map_append]; exact hdn', (Ga.same sb).lst⟩
      have hda := sb _ _ hda
      refine ⟨_, rfl, p, CW, dx, _, rfl, Gb.obj, T.clW, T.nDone, wfs_len, ?_⟩
      rw [wp_done]
      have Gc := Gb.put (fs2 := wfs pa co ar dn' sn wh side q)
      have hda : (upd Hb p (.ins CW dx (wfs pa co ar dn' sn wh side q))) da = _ := (upd_ne (ne_of hda Gb.obj (fun z => by cases z))).trans hda
      revert Gc hda
      generalize upd Hb p (.ins CW dx (wfs pa co ar dn' sn wh side q)) = Hc
      intro Gc hda
      -- if deed[0] == 'stop'
      refine ⟨_, rfl, da, _, 0, _, rfl, rfl, .of hda, atI_nat (j := 0) rfl, rfl, _, rfl, ite2 (fun _ => ?_) fun z => absurd (decide_eq_true rfl) z⟩
      refine ⟨_, rfl, p, CW, dx, _, _, rfl, Gc.obj, T.clW, T.nDone, wl_done, small_le (by show 2 ≤ 100000; decide), fun rp nr => ?_⟩
      have Gd := Gc.same (same_upd (o := .tup [.str "stop", .ref dn']) nr)
      exact k _ _ Gd.kept ⟨rp, dn', rfl, upd_same, Gd.dnv⟩
    | out s q' v =>
      rw [hd] at dat k hw
      obtain ⟨da, pw, rfl, hda, hpw⟩ := dat
      refine ite2 (fun z => absurd (of_decide_eq_true z) (by simp)) fun _ => ?_
      refine ⟨_, rfl, p, CW, dx, _, _, rfl, Ga.obj, T.clW, T.nContent, wl_content, co, dxc, [], rfl, hco, rfl, _, rfl, p, CW, dx, _, _, rfl, Ga.obj, T.clW, T.nDone, wl_done, _, rfl, 1, rfl, da, _, _, .ref pw, rfl, rfl, .of hda, rfl,
        co, dn, pw, _, _, rfl, Ga.dnv, hpw, small_le (by rw [List.length_map, List.length_map]; have : v.length ≤ 1000 := hw; omega), fun dn' Hb sb hdn' => ?_⟩
      have Gb : Stg H Hb p sn CW dx (wfs pa co ar dn sn wh side q) dn' (done ++ v) as := ⟨(Ga.same sb).kept, (Ga.same sb).obj, by rw [List.map_append]; exact hdn', (Ga.same sb).lst⟩
      have hda := sb _ _ hda
      refine ⟨_, rfl, p, CW, dx, _, rfl, Gb.obj, T.clW, T.nDone, wfs_len, ?_⟩
      rw [wp_done]
      have Gc := Gb.put (fs2 := wfs pa co ar dn' sn wh side q)
      have hda : (upd Hb p (.ins CW dx (wfs pa co ar dn' sn wh side q))) da = _ := (upd_ne (ne_of hda Gb.obj (fun z => by cases z))).trans hda
      revert Gc hda
      generalize upd Hb p (.ins CW dx (wfs pa co ar dn' sn wh side q)) = Hc
      intro Gc hda
      refine ⟨_, rfl, da, _, 0, _, rfl, rfl, .of hda, atI_nat (j := 0) rfl, rfl, _, rfl, ite2 (fun z => absurd (of_decide_eq_true z) (by decide +kernel)) fun _ => ?_⟩
      -- if (deed[1] == 'left') == (self.where == 0)
      refine ⟨_, rfl, da, _, 1, _, rfl, rfl, .of hda, atI_nat (j := 1) rfl, rfl, _, rfl, p, CW, dx, _, _, rfl, Gc.obj, T.clW, T.nWhere, wl_where, rfl, rfl, _, rfl, ?_⟩
      rw [same_end]
      unfold wres at k
      simp only at k
      by_cases hs : s = wh
      · rw [if_pos hs] at k
        rw [decide_eq_true hs]
        refine iteT ⟨_, rfl, da, _, 1, _, rfl, rfl, .of hda, atI_nat (j := 1) rfl, _, rfl, da, _, 2, _, rfl, rfl, .of hda, atI_nat (j := 2) rfl, _, rfl, p, CW, dx, _, _, rfl, Gc.obj, T.clW, T.nDone, wl_done, small_le (by show 4 ≤ 100000; decide), fun rp nr => ?_⟩
        have Gd := Gc.same (same_upd (o := .tup [.str "out", .str (sideS s), natV q', .ref dn']) nr)
        exact k _ _ Gd.kept ⟨rp, dn', rfl, upd_same, Gd.dnv⟩
      · rw [if_neg hs] at k
        rw [decide_eq_false hs]
        refine iteF ?_
        -- self.where = 1 - self.where
        refine ⟨_, rfl, p, CW, dx, _, _, rfl, Gc.obj, T.clW, T.nWhere, wl_where, 1, bI wh, rfl, rfl, _, rfl, p, CW, dx, _, rfl, Gc.obj, T.clW, T.nWhere, wfs_len, ?_⟩
        rw [wp_where (z := !wh) (by cases wh <;> rfl)]
        have Gd := Gc.put (fs2 := wfs pa co ar dn' sn (!wh) side q)
        have hda : (upd Hc p (.ins CW dx (wfs pa co ar dn' sn (!wh) side q))) da = _ := (upd_ne (ne_of hda Gc.obj (fun z => by cases z))).trans hda
        revert Gd hda
        generalize upd Hc p (.ins CW dx (wfs pa co ar dn' sn (!wh) side q)) = Hd
        intro Gd hda
        -- self.side = ..
        refine ⟨_, rfl, da, _, 1, _, rfl, rfl, .of hda, atI_nat (j := 1) rfl, rfl, _, rfl, side_if ?_⟩
        refine ⟨_, rfl, p, CW, dx, _, rfl, Gd.obj, T.clW, T.nSide, wfs_len, ?_⟩
        rw [wp_side]
        have Ge := Gd.put (fs2 := wfs pa co ar dn' sn (!wh) (!s) q)
        have hda : (upd Hd p (.ins CW dx (wfs pa co ar dn' sn (!wh) (!s) q))) da = _ := (upd_ne (ne_of hda Gd.obj (fun z => by cases z))).trans hda
        revert Ge hda
        generalize upd Hd p (.ins CW dx (wfs pa co ar dn' sn (!wh) (!s) q)) = He
        intro Ge hda
        -- self.state = deed[2]
        refine ⟨_, rfl, da, _, 2, _, rfl, rfl, .of hda, atI_nat (j := 2) rfl, _, rfl, p, CW, dx, _, rfl, Ge.obj, T.clW, T.nState, wfs_len, ?_⟩
        rw [wp_state]
        have Gf := Ge.put (fs2 := wfs pa co ar dn' sn (!wh) (!s) q')
        revert Gf
        generalize upd He p (.ins CW dx (wfs pa co ar dn' sn (!wh) (!s) q')) = Hf
        intro Gf
        -- if (self.where, self.state) in self.seen
        refine ⟨_, rfl, p, CW, dx, _, _, rfl, Gf.obj, T.clW, T.nWhere, wl_where, _, rfl, p, CW, dx, _, _, rfl, Gf.obj, T.clW, T.nState, wl_state, small_le (by show 2 ≤ 100000; decide), fun tk ntk => ?_⟩
        have Gg := Gf.same (same_upd (o := .tup [.int (bI !wh), natV q']) ntk)
        have prg : Paired (fun a (x : Bool × Nat) => (upd Hf tk (.tup [.int (bI !wh), natV q'])) a = some (.tup [.int (bI x.1), natV x.2])) as seen := L2.Paired.mapP prs0 fun a x e => Gg.kept a _ e (keepT a _ e).1 (keepT a _ e).2
        refine ⟨_, rfl, p, CW, dx, _, _, rfl, Gg.obj, T.clW, T.nSeen, wl_seen, pd (!wh, q'), seen.map pd, dp_pd upd_same, .lst (.of Gg.lst) (dp_pds prg), pd_shaped _, pds_shaped _, _, rfl, ?_⟩
        rw [any_pd]
        by_cases hm : (!wh, q') ∈ seen
        · rw [if_pos hm] at k
          rw [decide_eq_true hm]
          exact iteT (k .non _ Gg.kept rfl)
        · rw [if_neg hm] at k
          rw [decide_eq_false hm]
          refine iteF ?_
          revert Gg prg
          generalize upd Hf tk (.tup [.int (bI !wh), natV q']) = Hg
          intro Gg prg
          -- self.seen.append(..)
          refine ⟨_, rfl, p, CW, dx, _, _, rfl, Gg.obj, T.clW, T.nSeen, wl_seen, .inl ⟨rfl, _, .of Gg.lst⟩, _, rfl, p, CW, dx, _, _, rfl, Gg.obj, T.clW, T.nWhere, wl_where, _, rfl, p, CW, dx, _, _, rfl, Gg.obj, T.clW, T.nState, wl_state, small_le (by show 2 ≤ 100000; decide), fun t2 nt2 => ?_⟩
          have Gh := Gg.same (same_upd (o := .tup [.int (bI !wh), natV q']) nt2)
          have prh : Paired (fun a (x : Bool × Nat) => (upd Hg t2 (.tup [.int (bI !wh), natV q'])) a = some (.tup [.int (bI x.1), natV x.2])) (as ++ [t2]) (seen ++ [(!wh, q')]) := by
            refine pairs_snoc ?_ (L2.Paired.mapP prg fun a x e => ?_)
            · exact upd_same
            · exact same_upd nt2 _ _ e
          refine ⟨sn, _, _, rfl, rfl, Gh.lst, small_lt (by rw [List.length_map, Paired.length prs0]; omega), ?_⟩
          have npn : p ≠ sn := ne_of Gh.obj Gh.lst (fun z => by cases z)
          refine k _ (fun b o e h1 h2 => ?_) ⟨⟨dx, dn', ?_, ?_⟩, as ++ [t2], ?_, ?_⟩
          · rw [upd_ne h2]; exact Gh.kept b o e h1 h2
          · rw [upd_ne npn]; exact Gh.obj
          · rw [upd_ne (ne_of Gh.dnv Gh.lst (fun z => by cases z))]; exact Gh.dnv
          · rw [upd_same, List.map_append]; rfl
          · exact L2.Paired.mapP prh fun a x e => by rw [upd_ne (ne_of e Gh.lst (fun z => by cases z))]; exact e
end
end K36
/-! Walk.__init__ -/
namespace K36
open PySem PySem.Spec PyProof.Rows L2
structure StgI (H H' : Hp) (p CW dx : Addr) (fs : List (Str × V)) : Prop where
  kept : ∀ b o, H b = some o → b ≠ p → H' b = some o
  obj : H' p = some (.ins CW dx fs)
section
variable {H H' H2 : Hp} {p CW dx : Addr} {fs fs2 : List (Str × V)}
theorem StgI.same (g : StgI H H' p CW dx fs) (s : Same H' H2) : StgI H H2 p CW dx fs := ⟨fun b o e h => s _ _ (g.kept b o e h), s _ _ g.obj⟩
theorem StgI.put (g : StgI H H' p CW dx fs) : StgI H (upd H' p (.ins CW dx fs2)) p CW dx fs2 := ⟨fun b o e h => by rw [upd_ne h]; exact g.kept b o e h, upd_same⟩
end
theorem plen {f : Str} {v : V} {fs : List (Str × V)} {n : Nat} (h : fs.length ≤ n) : (putF f v fs).length ≤ n + 1 := Nat.le_trans (length_putF f v fs) (Nat.succ_le_succ h)
theorem l0 : ([] : List (Str × V)).length ≤ 0 := Nat.le_refl _
theorem lt9 {fs : List (Str × V)} {n : Nat} (h : fs.length ≤ n) (hn : n < 1000 := by decide) : fs.length < 1000 := Nat.lt_of_le_of_lt h hn
section
variable {P : Program} {w : World} {K : PySem.W.Frag} {mg : Str → Option Value} {base : Heap} {CR CW aS : Addr}
/-- the two stretches that are walked -/
structure Two (H : Hp) (CR m pa co : Addr) (M : Mach) (v1 v2 : Nat) (F1 F2 : Ctx4 → Dd) : Prop where
  mach : MachAt H m M
  pair : ∃ s1 s2, H pa = some (.tup [.ref s1, .ref s2]) ∧ StrAt H s1 v1 F1 M.zs ∧ StrAt H s2 v2 F2 M.zs
  content : ∃ dxc, H co = some (.ins CR dxc [])
  lt : v1 < M.mul.length ∧ v2 < M.mul.length
theorem Two.mono {H H' : Hp} {CR m pa co : Addr} {M : Mach} {v1 v2 : Nat} {F1 F2 : Ctx4 → Dd} (s : Same H H') (h : Two H CR m pa co M v1 v2 F1 F2) : Two H' CR m pa co M v1 v2 F1 F2 := by
  obtain ⟨s1, s2, e1, e2, e3⟩ := h.pair
  obtain ⟨dxc, e4⟩ := h.content
  exact ⟨h.mach.mono (TK.of s), ⟨s1, s2, s _ _ e1, e2.mono s, e3.mono s⟩, ⟨dxc, s _ _ e4⟩, h.lt⟩
def spInit (CR CW : Addr) : Sp := fun vs H Q _ => ∃ (p m pa co cx dx : Addr) (M : Mach) (v1 v2 : Nat) (F1 F2 : Ctx4 → Dd) (z : Ctx4), vs = [.ref p, .ref m, .ref pa, .ref co, .ref cx] ∧ H p = some (.ins CW dx []) ∧ Two H CR m pa co M v1 v2 F1 F2 ∧ M.Good ∧ p ≠ co ∧
  H cx = some (.tup ((kk z).map kV)) ∧ z ∈ M.zs ∧ ∀ ar sn H', (∀ b o, H b = some o → b ≠ p → H' b = some o) → H sn = none → WkS H' CR pa co ar M z.1 z.2.1 v1 v2 F1 F2 → WkD H' p CW pa co ar sn ⟨z.2.2.1, z.2.2.1, z.2.2.2, [], []⟩ → Q .non H'
theorem scInit : FnScope ["self", "machine", "pair", "content", "context", "left", "right", "mul"] ["self", "machine", "pair", "content", "context"] (defScope sInit) := ⟨rfl, rfl, rfl, by decide +kernel, rfl, by decide +kernel, by decide +kernel⟩
theorem where_if {b : Bool} {σ : L2.St} {H : Hp} {Q : VK} (h : Q (.int (bI b)) H) :
    (fun (c : Bool) (H1 : Hp) => if c = true then tC (.int 0) σ H1 Q else tC (.int 1) σ H1 Q) (decide (V.str (sideS b) = V.str "left")) H := by
  cases b
  · exact ite2 (fun _ => h) fun z => absurd (decide_eq_true rfl) z
  · exact ite2 (fun z => absurd (of_decide_eq_true z) (by decide +kernel)) fun _ => h
theorem ok_init {f fN : Addr} {fd fdN : FuncData} (F : Fun K "__init__" "Walk.__init__" sInit f fd) (T : Txt K mg CR CW aS) (FN : Fun K "nothing" "Writing.nothing" sNothing fN fdN) (bN : Binds K fdN ["self"] []) (mN : Meth K CR "nothing" fN) :
    FnOk P w K mg base CX0 2 f fd ["self", "machine", "pair", "content", "context"] (spInit CR CW) := by
  have GN : FnOk P w K mg base CX0 1 fN fdN ["self"] spNothing := ok_nothing FN
  refine F.ok scInit (fun vs H Q E h => ?_) (fun cdv A outer s H vs Q E hr h => ?_)
  · obtain ⟨p, m, pa, co, cx, dx, M, v1, v2, F1, F2, z, rfl, _⟩ := h
    rfl
  · obtain ⟨p, m, pa, co, cx, dx, M, v1, v2, F1, F2, z, rfl, hp, W2, g, npc, hcx, hz, k⟩ := h
    refine ⟨_, pss_cons (ps_asg (pv 4) (pg_tup rfl (pgs_cons (pg_name (i := 5) scInit.nd rfl (Or.inl rfl)) (pgs_cons (pg_name (i := 6) scInit.nd rfl (Or.inl rfl)) (pgs_cons (pg_fld (pv 0)) (pgs_cons (pg_fld (pv 0)) pgs_nil))))))
      (pss_cons (ps_set (i := 7) scInit.nd rfl (Or.inl rfl) (pe_ix ix_tup (pe_ix ix_tup (pv 1) pe_int (fun _ _ => rfl)) pe_int (fun _ _ => rfl)))
      (pss_cons (ps_fld (pv 0) (pv 2) rfl)
      (pss_cons (ps_fld (pv 0) (pv 3) rfl)
      (pss_cons (ps_fld (pv 0) (pe_tup (pa_cons (pe_tup (pa_cons (pv 5) (pa_cons (pe_ix ix_tup (pe_ix ix_tup (pv 7) (pe_ix ix_tup (pe_ix ix_tup (pv 2) pe_int (fun _ _ => rfl)) pe_int (fun _ _ => rfl)) (fun _ _ => rfl)) (pv 6) (fun _ _ => rfl)) pa_nil)))
        (pa_cons (pe_tup (pa_cons (pe_ix ix_tup (pe_ix ix_tup (pv 7) (pv 5) (fun _ _ => rfl)) (pe_ix ix_tup (pe_ix ix_tup (pv 2) pe_int (fun _ _ => rfl)) pe_int (fun _ _ => rfl)) (fun _ _ => rfl)) (pa_cons (pv 6) pa_nil))) pa_nil))) rfl)
      (pss_cons (ps_fld (pv 0) (pe_ifExp (pt_cmpR op_eq (pe_fld (pv 0) rfl) pe_str (nomark _)) pe_int pe_int) rfl)
      (pss_cons (ps_fld (pv 0) (pe_meth0 (pv 3) T.clR mN GN hr bN .nil pass0) rfl)
      (pss_one (ps_fld (pv 0) (pe_lst pa_nil) rfl)))))))), ?_⟩
    obtain ⟨lk, wv, ov, ts, ss, h1, ⟨al, am, rows, ac, h2, h3, h4, h5⟩, h6, h7⟩ := W2.mach.ex
    obtain ⟨s1, s2, hpa, st1, st2⟩ := W2.pair
    obtain ⟨d1, kv1, es1, _⟩ := id st1
    obtain ⟨d2, kv2, es2, _⟩ := id st2
    obtain ⟨dxc, hco⟩ := W2.content
    obtain ⟨lv1, lv2⟩ := W2.lt
    obtain ⟨l, r, b, q⟩ := z
    obtain ⟨hl, hrr, hq⟩ := mem_allZ.mp hz
    simp only at hl hrr hq k
    obtain ⟨r2, x2, i2, e2, j2⟩ := mul_at g h5 lv2 hrr
    obtain ⟨r1, x1, i1, e1, j1⟩ := mul_at g h5 hl lv1
    have G0 : StgI H H p CW dx [] := ⟨fun _ _ e _ => e, hp⟩
    have nt : ∀ a xs, H a = some (.tup xs) → a ≠ p := fun a xs e => ne_of e hp (fun z => by cases z)
    -- left, right, self.side, self.state = context
    refine ⟨_, rfl, cx, _, rfl, .of hcx, rfl, _, _, rfl, _, _, rfl, _, _, rfl, _, rfl, p, CW, dx, _, rfl, G0.obj, T.clW, T.nSide, lt9 l0, _, _, rfl, _, rfl, p, CW, dx, _, rfl, upd_same, T.clW, T.nState, lt9 (plen l0), rfl, ?_⟩
    have G2 := (G0.put (fs2 := putF "side" (.str (sideS b)) [])).put (fs2 := putF "state" (natV q) (putF "side" (.str (sideS b)) []))
    refine (fun (W3 : ∀ Ha, StgI H Ha p CW dx (putF "state" (natV q) (putF "side" (.str (sideS b)) [])) → _) => W3 _ G2) ?_
    intro Ha G2
    -- mul = machine[2][2]
    have t2 : ∀ a xs, H a = some (.tup xs) → Ha a = some (.tup xs) := fun a xs e => G2.kept a _ e (nt a xs e)
    refine ⟨_, rfl, m, _, 2, .ref lk, rfl, rfl, .of (t2 _ _ h1), atI_nat (j := 2) rfl, lk, _, 2, .ref am, rfl, rfl, .of (t2 _ _ h2), atI_nat (j := 2) rfl, ?_⟩
    -- self.pair = pair; self.content = content
    refine ⟨_, rfl, _, rfl, p, CW, dx, _, rfl, G2.obj, T.clW, T.nPair, lt9 (plen (plen l0)), ?_⟩
    refine ⟨_, rfl, _, rfl, p, CW, dx, _, rfl, upd_same, T.clW, T.nContent, lt9 (plen (plen (plen l0))), ?_⟩
    have G4 := (G2.put (fs2 := putF "pair" (.ref pa) (putF "state" (natV q) (putF "side" (.str (sideS b)) [])))).put (fs2 := putF "content" (.ref co) (putF "pair" (.ref pa) (putF "state" (natV q) (putF "side" (.str (sideS b)) []))))
    refine (fun (W3 : ∀ Hb, StgI H Hb p CW dx (putF "content" (.ref co) (putF "pair" (.ref pa) (putF "state" (natV q) (putF "side" (.str (sideS b)) [])))) → _) => W3 _ G4) ?_
    intro Hb G4
    have t4 : ∀ a xs, H a = some (.tup xs) → Hb a = some (.tup xs) := fun a xs e => G4.kept a _ e (nt a xs e)
    -- self.around = ..
    refine ⟨_, rfl, _, rfl, _, rfl, pa, _, 1, .ref s2, rfl, rfl, .of (t4 _ _ hpa), atI_nat (j := 1) rfl, s2, _, 0, natV v2, rfl, rfl, .of (t4 _ _ es2), atI_nat (j := 0) rfl, am, _, _, .ref r2, rfl, rfl, .of (t4 _ _ h4), atI_nat i2,
      _, rfl, r2, _, _, natV (M.mc.mul v2 r), rfl, rfl, .of (t4 _ _ e2), atI_nat j2, small_le (by show 2 ≤ 100000; decide), fun a1 n1 => ?_⟩
    have G5 := G4.same (same_upd (o := .tup [natV l, natV (M.mc.mul v2 r)]) n1)
    have u1 : (upd Hb a1 (.tup [natV l, natV (M.mc.mul v2 r)])) a1 = some (.tup [natV l, natV (M.mc.mul v2 r)]) := upd_same
    have t5 : ∀ a xs, H a = some (.tup xs) → (upd Hb a1 (.tup [natV l, natV (M.mc.mul v2 r)])) a = some (.tup xs) := fun a xs e => G5.kept a _ e (nt a xs e)
    refine ⟨_, rfl, _, rfl, am, _, _, .ref r1, rfl, rfl, .of (t5 _ _ h4), atI_nat i1, _, rfl, pa, _, 0, .ref s1, rfl, rfl, .of (t5 _ _ hpa), atI_nat (j := 0) rfl, s1, _, 0, natV v1, rfl, rfl, .of (t5 _ _ es1), atI_nat (j := 0) rfl,
      r1, _, _, natV (M.mc.mul l v1), rfl, rfl, .of (t5 _ _ e1), atI_nat j1, _, rfl, small_le (by show 2 ≤ 100000; decide), fun a2 n2 => ?_⟩
    have G6 := G5.same (same_upd (o := .tup [natV (M.mc.mul l v1), natV r]) n2)
    have u1 := same_upd (o := .tup [natV (M.mc.mul l v1), natV r]) n2 _ _ u1
    have u2 : (upd (upd Hb a1 (.tup [natV l, natV (M.mc.mul v2 r)])) a2 (.tup [natV (M.mc.mul l v1), natV r])) a2 = some (.tup [natV (M.mc.mul l v1), natV r]) := upd_same
    refine ⟨small_le (by show 2 ≤ 100000; decide), fun ar n3 => ?_⟩
    have G7 := G6.same (same_upd (o := .tup [.ref a1, .ref a2]) n3)
    have u1 := same_upd (o := .tup [.ref a1, .ref a2]) n3 _ _ u1
    have u2 := same_upd (o := .tup [.ref a1, .ref a2]) n3 _ _ u2
    have u3 : (upd (upd (upd Hb a1 (.tup [natV l, natV (M.mc.mul v2 r)])) a2 (.tup [natV (M.mc.mul l v1), natV r])) ar (.tup [.ref a1, .ref a2])) ar = some (.tup [.ref a1, .ref a2]) := upd_same
    refine (fun (W3 : ∀ Hc, StgI H Hc p CW dx (putF "content" (.ref co) (putF "pair" (.ref pa) (putF "state" (natV q) (putF "side" (.str (sideS b)) [])))) → Hc a1 = some (.tup [natV l, natV (M.mc.mul v2 r)]) → Hc a2 = some (.tup [natV (M.mc.mul l v1), natV r]) → Hc ar = some (.tup [.ref a1, .ref a2]) → _) => W3 _ G7 u1 u2 u3) ?_
    intro Hc G7 u1 u2 u3
    refine ⟨_, rfl, p, CW, dx, _, rfl, G7.obj, T.clW, T.nAround, lt9 (plen (plen (plen (plen l0)))), ?_⟩
    have G8 := G7.put (fs2 := putF "around" (.ref ar) (putF "content" (.ref co) (putF "pair" (.ref pa) (putF "state" (natV q) (putF "side" (.str (sideS b)) [])))))
    -- self.where = 0 if self.side == 'left' else 1
    have ls : (putF "around" (.ref ar) (putF "content" (.ref co) (putF "pair" (.ref pa) (putF "state" (natV q) (putF "side" (V.str (sideS b)) []))))).lookup ("side" : Str) = some (.str (sideS b)) := by
      rw [lookup_putF, if_neg (by decide +kernel), lookup_putF, if_neg (by decide +kernel), lookup_putF, if_neg (by decide +kernel), lookup_putF, if_neg (by decide +kernel), lookup_putF, if_pos rfl]
    refine ⟨_, rfl, p, CW, dx, _, _, rfl, G8.obj, T.clW, T.nSide, ls, rfl, _, rfl, where_if ?_⟩
    refine ⟨_, rfl, p, CW, dx, _, rfl, G8.obj, T.clW, T.nWhere, lt9 (plen (plen (plen (plen (plen l0))))), ?_⟩
    have G9 := G8.put (fs2 := putF "where" (.int (bI b)) (putF "around" (.ref ar) (putF "content" (.ref co) (putF "pair" (.ref pa) (putF "state" (natV q) (putF "side" (.str (sideS b)) []))))))
    have np : ∀ {a xs}, Hc a = some (.tup xs) → a ≠ p := fun {a xs} e => ne_of e G7.obj (fun z => by cases z)
    have hcoc : Hc co = some (.ins CR dxc []) := G7.kept _ _ hco npc.symm
    have w1 : (upd (upd Hc p (.ins CW dx (putF "around" (.ref ar) (putF "content" (.ref co) (putF "pair" (.ref pa) (putF "state" (natV q) (putF "side" (V.str (sideS b)) []))))))) p (.ins CW dx (putF "where" (.int (bI b)) (putF "around" (.ref ar) (putF "content" (.ref co) (putF "pair" (.ref pa) (putF "state" (natV q) (putF "side" (V.str (sideS b)) [])))))))) a1 = some (.tup [natV l, natV (M.mc.mul v2 r)]) := by rw [upd_ne (np u1), upd_ne (np u1)]; exact u1
    have w2 : (upd (upd Hc p (.ins CW dx (putF "around" (.ref ar) (putF "content" (.ref co) (putF "pair" (.ref pa) (putF "state" (natV q) (putF "side" (V.str (sideS b)) []))))))) p (.ins CW dx (putF "where" (.int (bI b)) (putF "around" (.ref ar) (putF "content" (.ref co) (putF "pair" (.ref pa) (putF "state" (natV q) (putF "side" (V.str (sideS b)) [])))))))) a2 = some (.tup [natV (M.mc.mul l v1), natV r]) := by rw [upd_ne (np u2), upd_ne (np u2)]; exact u2
    have w3 : (upd (upd Hc p (.ins CW dx (putF "around" (.ref ar) (putF "content" (.ref co) (putF "pair" (.ref pa) (putF "state" (natV q) (putF "side" (V.str (sideS b)) []))))))) p (.ins CW dx (putF "where" (.int (bI b)) (putF "around" (.ref ar) (putF "content" (.ref co) (putF "pair" (.ref pa) (putF "state" (natV q) (putF "side" (V.str (sideS b)) [])))))))) ar = some (.tup [.ref a1, .ref a2]) := by rw [upd_ne (np u3), upd_ne (np u3)]; exact u3
    refine (fun (W3 : ∀ Hd, StgI H Hd p CW dx (putF "where" (.int (bI b)) (putF "around" (.ref ar) (putF "content" (.ref co) (putF "pair" (.ref pa) (putF "state" (natV q) (putF "side" (.str (sideS b)) [])))))) → Hd a1 = some (.tup [natV l, natV (M.mc.mul v2 r)]) → Hd a2 = some (.tup [natV (M.mc.mul l v1), natV r]) → Hd ar = some (.tup [.ref a1, .ref a2]) → _) => W3 _ G9 w1 w2 w3) ?_
    intro Hd G9 w1 w2 w3
    -- self.done = content.nothing()
    refine ⟨_, rfl, co, dxc, [], rfl, G9.kept _ _ hco npc.symm, rfl, co, rfl, fun dn nd => ?_⟩
    have sd : Same Hd (upd Hd dn (.tup [])) := same_upd nd
    have Ga := G9.same sd
    have w4 : (upd Hd dn (.tup [])) dn = some (.tup []) := upd_same
    have w1 := sd _ _ w1
    have w2 := sd _ _ w2
    have w3 := sd _ _ w3
    refine (fun (W3 : ∀ He, StgI H He p CW dx (putF "where" (.int (bI b)) (putF "around" (.ref ar) (putF "content" (.ref co) (putF "pair" (.ref pa) (putF "state" (natV q) (putF "side" (.str (sideS b)) [])))))) → He a1 = some (.tup [natV l, natV (M.mc.mul v2 r)]) → He a2 = some (.tup [natV (M.mc.mul l v1), natV r]) → He ar = some (.tup [.ref a1, .ref a2]) → He dn = some (.tup []) → _) => W3 _ Ga w1 w2 w3 w4) ?_
    intro He Ga w1 w2 w3 w4
    refine ⟨_, rfl, p, CW, dx, _, rfl, Ga.obj, T.clW, T.nDone, lt9 (plen (plen (plen (plen (plen (plen l0)))))), ?_⟩
    have Gb := Ga.put (fs2 := putF "done" (.ref dn) (putF "where" (.int (bI b)) (putF "around" (.ref ar) (putF "content" (.ref co) (putF "pair" (.ref pa) (putF "state" (natV q) (putF "side" (.str (sideS b)) [])))))))
    have np : ∀ {a xs}, He a = some (.tup xs) → a ≠ p := fun {a xs} e => ne_of e Ga.obj (fun z => by cases z)
    have up : ∀ {a xs} {o : HO}, He a = some (.tup xs) → (upd He p o) a = some (.tup xs) := fun {a xs o} e => by rw [upd_ne (np e)]; exact e
    have w1 := up (o := .ins CW dx (putF "done" (.ref dn) (putF "where" (.int (bI b)) (putF "around" (.ref ar) (putF "content" (.ref co) (putF "pair" (.ref pa) (putF "state" (natV q) (putF "side" (.str (sideS b)) [])))))))) w1
    have w2 := up (o := .ins CW dx (putF "done" (.ref dn) (putF "where" (.int (bI b)) (putF "around" (.ref ar) (putF "content" (.ref co) (putF "pair" (.ref pa) (putF "state" (natV q) (putF "side" (.str (sideS b)) [])))))))) w2
    have w3 := up (o := .ins CW dx (putF "done" (.ref dn) (putF "where" (.int (bI b)) (putF "around" (.ref ar) (putF "content" (.ref co) (putF "pair" (.ref pa) (putF "state" (natV q) (putF "side" (.str (sideS b)) [])))))))) w3
    have w4 := up (o := .ins CW dx (putF "done" (.ref dn) (putF "where" (.int (bI b)) (putF "around" (.ref ar) (putF "content" (.ref co) (putF "pair" (.ref pa) (putF "state" (natV q) (putF "side" (.str (sideS b)) [])))))))) w4
    refine (fun (W3 : ∀ Hf, StgI H Hf p CW dx (putF "done" (.ref dn) (putF "where" (.int (bI b)) (putF "around" (.ref ar) (putF "content" (.ref co) (putF "pair" (.ref pa) (putF "state" (natV q) (putF "side" (.str (sideS b)) []))))))) → Hf a1 = some (.tup [natV l, natV (M.mc.mul v2 r)]) → Hf a2 = some (.tup [natV (M.mc.mul l v1), natV r]) → Hf ar = some (.tup [.ref a1, .ref a2]) → Hf dn = some (.tup []) → _) => W3 _ Gb w1 w2 w3 w4) ?_
    intro Hf Gb w1 w2 w3 w4
    -- self.seen = []
    refine ⟨Nat.zero_le _, fun sn ns => ?_⟩
    have ss : Same Hf (upd Hf sn (.lst [])) := same_upd ns
    refine ⟨_, rfl, p, CW, dx, _, rfl, ss _ _ Gb.obj, T.clW, T.nSeen, lt9 (plen (plen (plen (plen (plen (plen (plen l0))))))), ?_⟩
    rw [wfs_made]
    have npp : ∀ {a o}, Hf a = some o → a ≠ p → (upd (upd Hf sn (.lst [])) p (.ins CW dx (wfs pa co ar dn sn b b q))) a = some o := fun {a o} e h => by rw [upd_ne h]; exact ss _ _ e
    have np : ∀ {a xs}, Hf a = some (.tup xs) → a ≠ p := fun {a xs} e => ne_of e Gb.obj (fun z => by cases z)
    have nsp : sn ≠ p := (ne_of_none Gb.obj ns).symm
    have hsn : H sn = none := by
      cases e : H sn with
      | none => rfl
      | some o =>
        have := Gb.kept sn o e nsp
        rw [ns] at this; cases this
    have kp : ∀ b' o, H b' = some o → b' ≠ p → (upd (upd Hf sn (.lst [])) p (.ins CW dx (wfs pa co ar dn sn b b q))) b' = some o := fun b' o e h => npp (Gb.kept b' o e h) h
    have st : ∀ {a : Addr} {v : Nat} {F : Ctx4 → Dd}, StrAt H a v F M.zs → StrAt (upd (upd Hf sn (.lst [])) p (.ins CW dx (wfs pa co ar dn sn b b q))) a v F M.zs := fun {a v F} ⟨d, kvs, q1, q2, q3⟩ =>
      ⟨d, kvs, kp _ _ q1 (nt _ _ q1), kp _ _ q2 (ne_of q2 hp (fun z => by cases z)), q3.mono fun a xs e => kp _ _ e (nt _ _ e)⟩
    refine k ar sn _ kp hsn ⟨⟨s1, s2, kp _ _ hpa (nt _ _ hpa), st st1, st st2⟩, ⟨a1, a2, npp w3 (np w3), npp w1 (np w1), npp w2 (np w2)⟩, ⟨dxc, kp _ _ hco npc.symm⟩⟩ ⟨⟨dx, dn, upd_same, npp w4 (np w4)⟩, [], ?_, .nil⟩
    rw [upd_ne nsp]; exact upd_same
end
end K36
/-! joined_deed, joined_with, joined -/
namespace K36
open PySem PySem.Spec PyProof.Rows L2
section
variable {P : Program} {w : World} {K : PySem.W.Frag} {mg : Str → Option Value} {base : Heap} {CR CW aS : Addr}
theorem wl_step {pa co ar dn sn : Addr} {wh side : Bool} {q : Nat} : (wfs pa co ar dn sn wh side q).lookup ("step" : Str) = none := by
  unfold wfs
  rw [lk_miss (by decide +kernel), lk_miss (by decide +kernel), lk_miss (by decide +kernel), lk_miss (by decide +kernel), lk_miss (by decide +kernel), lk_miss (by decide +kernel), lk_miss (by decide +kernel), lk_miss (by decide +kernel)]
  rfl
theorem wres_go {d : Dd} {w w' : Wk} (h : wres d w = .go w') : w'.done.length = w.done.length + (wr d).length := by
  cases d with
  | non => cases h
  | stop v => cases h
  | out s q v =>
    unfold wres at h
    simp only at h
    by_cases e : s = w.wh
    · rw [if_pos e] at h; cases h
    · rw [if_neg e] at h
      by_cases e2 : (!w.wh, q) ∈ w.seen
      · rw [if_pos e2] at h; cases h
      · rw [if_neg e2] at h
        cases h
        simp [wr]
/-- what step's promise asks, by the plain law -/
theorem step_goal {M : Mach} (g : M.Good) {r1 r2 : List Nat} (h1 : M.mc.Row r1) (h2 : M.mc.Row r2) (l1 : r1.length ≤ 50) (l2 : r2.length ≤ 50) {H : Hp} {p pa co ar sn : Addr} {l r : Nat} {w : Wk} {T : Dd} (hl : l < M.mul.length) (hr : r < M.mul.length) (I : WInv M.mc r1 r2 l r T w)
    (WS : WkS H CR pa co ar M l r (M.mc.worth r1) (M.mc.worth r2) (M.deeds r1) (M.deeds r2)) (WD : WkD H p CW pa co ar sn w) (npc : p ≠ co) (hd : w.done.length ≤ 1000 * w.seen.length) {Q : VK}
    (kf : ∀ v H', Kept p sn H H' → DeedAt H' v T → Q v H')
    (kg : ∀ w' H', WInv M.mc r1 r2 l r T w' → w'.seen.length = w.seen.length + 1 → w'.done.length ≤ 1000 * w'.seen.length → Kept p sn H H' → WkD H' p CW pa co ar sn w' → Q (.str "on") H') :
    spStep CR CW [.ref p] H Q E0 := by
  have hs := seen_le I
  have hS : M.mc.S ≤ 3 := g.small.2.1
  refine ⟨p, pa, co, ar, sn, M, l, r, _, _, _, _, w, rfl, WS, WD, npc, ⟨hl, hr, g.ok.mul_lt _ _ (worth_lt g.ok h2) hr, g.ok.mul_lt _ _ hl (worth_lt g.ok h1), I.q_lt⟩, fun z _ => ⟨deeds_len g (by omega) z, deeds_len g (by omega) z⟩, by omega, by omega, ?_⟩
  have h := wstep_ok g.ok h1 h2 hl hr I
  rw [wstep_eq] at h
  have hlen : (wr (if w.wh then M.deeds r2 (M.mc.mul l (M.mc.worth r1), r, w.side, w.q) else M.deeds r1 (l, M.mc.mul (M.mc.worth r2) r, w.side, w.q))).length ≤ 1000 := by
    split
    · exact deeds_len g (by omega) _
    · exact deeds_len g (by omega) _
  have h : (match wres (if w.wh then M.deeds r2 (M.mc.mul l (M.mc.worth r1), r, w.side, w.q) else M.deeds r1 (l, M.mc.mul (M.mc.worth r2) r, w.side, w.q)) w with
    | .fin d => d = T
    | .go w' => WInv M.mc r1 r2 l r T w' ∧ w'.seen.length = w.seen.length + 1) := h
  cases e : wres (if w.wh then M.deeds r2 (M.mc.mul l (M.mc.worth r1), r, w.side, w.q) else M.deeds r1 (l, M.mc.mul (M.mc.worth r2) r, w.side, w.q)) w with
  | fin d =>
    rw [e] at h
    simp only at h ⊢
    subst h
    exact kf
  | go w' =>
    rw [e] at h
    simp only at h ⊢
    obtain ⟨I', hs'⟩ := h
    have hd' := wres_go e
    exact fun H' k D => kg w' H' I' hs' (by omega) k D
def spJDeed (CR : Addr) : Sp := fun vs H Q _ => ∃ (m pa co cx : Addr) (M : Mach) (r1 r2 : List Nat) (z : Ctx4), vs = [.ref m, .ref pa, .ref co, .ref cx] ∧ Two H CR m pa co M (M.mc.worth r1) (M.mc.worth r2) (M.deeds r1) (M.deeds r2) ∧ M.Good ∧ M.mc.Row r1 ∧ M.mc.Row r2 ∧ r1.length ≤ 50 ∧ r2.length ≤ 50 ∧
  H cx = some (.tup ((kk z).map kV)) ∧ z ∈ M.zs ∧ ∀ v H', Same H H' → DeedAt H' v (M.deeds (r1 ++ r2) z) → Q v H'
theorem scJDeed : FnScope ["machine", "pair", "content", "context", "walk", "deed"] ["machine", "pair", "content", "context"] (defScope sJDeed) := ⟨rfl, rfl, rfl, by decide +kernel, rfl, by decide +kernel, by decide +kernel⟩
theorem on_sh : SeqAt.shaped (.str "on") = true := by
  have h : PyData.strOk ("on" : Str) = true := by decide +kernel
  simp [SeqAt.shaped, PyData.canLay0, PyData.depth, h]
theorem on_ne (T : Dd) : PyData.eqv (dataOf T) (.str "on") = false := by cases T <;> rfl
theorem ok_jdeed {f fI fS fN fA : Addr} {fd fdI fdS fdN fdA : FuncData} (F : Fun K "joined_deed" "joined_deed" sJDeed f fd) (T : Txt K mg CR CW aS) (MW : Mk K CW fI) (FI : Fun K "__init__" "Walk.__init__" sInit fI fdI) (bI : Binds K fdI ["self", "machine", "pair", "content", "context"] [])
    (FS : Fun K "step" "Walk.step" sStep fS fdS) (bS : Binds K fdS ["self"] []) (mS : Meth K CW "step" fS) (FN : Fun K "nothing" "Writing.nothing" sNothing fN fdN) (bN : Binds K fdN ["self"] []) (mN : Meth K CR "nothing" fN) (FA : Fun K "add" "Writing.add" sAdd fA fdA) (bA : Binds K fdA ["self", "one", "two"] []) (mA : Meth K CR "add" fA) :
    FnOk P w K mg base CX0 4 f fd ["machine", "pair", "content", "context"] (spJDeed CR) := by
  have GI : FnOk P w K mg base CX0 2 fI fdI ["self", "machine", "pair", "content", "context"] (spInit CR CW) := ok_init FI T FN bN mN
  have GS : FnOk P w K mg base CX0 2 fS fdS ["self"] (spStep CR CW) := ok_step FS T FA bA mA
  refine F.ok scJDeed (fun vs H Q E h => ?_) (fun cdv A outer s H vs Q E hr h => ?_)
  · obtain ⟨m, pa, co, cx, M, r1, r2, z, rfl, _⟩ := h
    rfl
  · obtain ⟨m, pa, co, cx, M, r1, r2, z, rfl, W2, g, w1, w2, l1, l2, hcx, hz, k⟩ := h
    have hr2 : Room 2 _ := hr.mono (by decide)
    refine ⟨_, pss_cons (ps_set (i := 4) scJDeed.nd rfl (Or.inl rfl) (pe_make MW GI hr rfl T.mgW bI .nil pass0 (pa_cons (pv 0) (pa_cons (pv 1) (pa_cons (pv 2) (pa_cons (pv 3) pa_nil))))))
      (pss_cons (ps_set (i := 5) scJDeed.nd rfl (Or.inl rfl) (pe_meth0 (pv 4) T.clW mS GS hr2 bS .nil pass0))
      (pss_cons (ps_while PassesOwn.never (pt_cmpR (op_eqD hr.units) (pv 5) pe_str (nomark _)) (pss_one (ps_set (i := 5) scJDeed.nd rfl (Or.inl rfl) (pe_meth0 (pv 4) T.clW mS GS hr2 bS .nil pass0))))
      (pss_one (ps_ret (pv 5))))), ?_⟩
    obtain ⟨hl, hrr, hq⟩ := mem_allZ.mp hz
    -- walk = Walk(..)
    refine ⟨_, rfl, _, rfl, _, rfl, _, rfl, fun p dx np ndx ne => ?_⟩
    have s0 : Same H (upd (upd H dx (.own p)) p (.ins CW dx [])) := fun b o e => by
      rw [upd_ne (ne_of_none e np), upd_ne (ne_of_none e ndx)]; exact e
    obtain ⟨dxc, hco⟩ := W2.content
    have npc : p ≠ co := (ne_of_none hco np).symm
    refine ⟨p, m, pa, co, cx, dx, M, _, _, _, _, z, rfl, upd_same, W2.mono s0, g, npc, s0 _ _ hcx, hz, fun ar sn H1 k1 nsn WS WD => ⟨rfl, ?_⟩⟩
    have nsn : H sn = none := s0.free nsn
    have sm : Same H H1 := fun b o e => k1 b o (s0 b o e) (ne_of_none e np)
    have smK : ∀ {Ha Hb : Hp}, Same H Ha → Kept p sn Ha Hb → Same H Hb := fun {Ha Hb} sa kb b o e => kb b o (sa b o e) (ne_of_none e np) (ne_of_none e nsn)
    have I0 : WInv M.mc r1 r2 z.1 z.2.1 (M.deeds (r1 ++ r2) z) ⟨z.2.2.1, z.2.2.1, z.2.2.2, [], []⟩ := winv_start hq
    have keepS : ∀ {Ha Hb : Hp} {w : Wk}, WkS Ha CR pa co ar M z.1 z.2.1 (M.mc.worth r1) (M.mc.worth r2) (M.deeds r1) (M.deeds r2) → WkD Ha p CW pa co ar sn w → Kept p sn Ha Hb → WkS Hb CR pa co ar M z.1 z.2.1 (M.mc.worth r1) (M.mc.worth r2) (M.deeds r1) (M.deeds r2) := fun {Ha Hb w} ws wd kb => by
      obtain ⟨dx', dn', e1, _⟩ := wd.obj
      obtain ⟨as', e2, _⟩ := wd.seen
      exact ws.kept e1 e2 npc kb
    -- deed = walk.step()
    obtain ⟨dx1, dn1, ep1, _⟩ := WD.obj
    refine ⟨_, rfl, p, dx1, _, rfl, ep1, wl_step, ?_⟩
    refine step_goal g w1 w2 l1 l2 hl hrr I0 WS WD npc (Nat.zero_le _) (fun v H2 k2 d2 => ?_) fun w' H2 I2 e2 d2 k2 D2 => ?_
    all_goals
      refine ⟨fun n σ H' => ∃ v, σ = [some (.ref m), some (.ref pa), some (.ref co), some (.ref cx), some (.ref p), some v] ∧ Same H H' ∧ ((DeedAt H' v (M.deeds (r1 ++ r2) z) ∧ n = 0) ∨ (v = .str "on" ∧ ∃ w, WInv M.mc r1 r2 z.1 z.2.1 (M.deeds (r1 ++ r2) z) w ∧
        WkS H' CR pa co ar M z.1 z.2.1 (M.mc.worth r1) (M.mc.worth r2) (M.deeds r1) (M.deeds r2) ∧ WkD H' p CW pa co ar sn w ∧ w.done.length ≤ 1000 * w.seen.length ∧ n + w.seen.length = 2 * M.mc.S + 1)), ?_, fun n σ Hc hW => ?_⟩
    rotate_left
    rotate_left
    · have hs := seen_le I2
      exact ⟨2 * M.mc.S + 1 - w'.seen.length, .str "on", rfl, smK sm k2, .inr ⟨rfl, w', I2, keepS WS WD k2, D2, d2, by omega⟩⟩
    rotate_left
    · exact ⟨0, v, rfl, smK sm k2, .inl ⟨d2, rfl⟩⟩
    all_goals
      obtain ⟨v, rfl, sc, hv⟩ := hW
      rcases hv with ⟨dv, rfl⟩ | ⟨rfl, wc, Ic, WSc, WDc, dc, hn⟩
      · refine ⟨v, rfl, dataOf _, .str "on", dv.dp, .str _, dataOf_shaped _, on_sh, _, rfl, ?_⟩
        rw [on_ne]
        exact iteF ⟨v, rfl, k v Hc sc dv⟩
      · refine ⟨_, rfl, .str "on", .str "on", .str _, .str _, on_sh, on_sh, _, rfl, iteT ?_⟩
        have hs := seen_le Ic
        refine ⟨fun σ' H' => ∃ n', n' < n ∧ ∃ v, σ' = [some (.ref m), some (.ref pa), some (.ref co), some (.ref cx), some (.ref p), some v] ∧ Same H H' ∧ ((DeedAt H' v (M.deeds (r1 ++ r2) z) ∧ n' = 0) ∨ (v = .str "on" ∧ ∃ w, WInv M.mc r1 r2 z.1 z.2.1 (M.deeds (r1 ++ r2) z) w ∧
          WkS H' CR pa co ar M z.1 z.2.1 (M.mc.worth r1) (M.mc.worth r2) (M.deeds r1) (M.deeds r2) ∧ WkD H' p CW pa co ar sn w ∧ w.done.length ≤ 1000 * w.seen.length ∧ n' + w.seen.length = 2 * M.mc.S + 1)), fun σ' H' h' => h', ?_⟩
        obtain ⟨dx3, dn3, ep3, _⟩ := WDc.obj
        refine ⟨_, rfl, p, dx3, _, rfl, ep3, wl_step, ?_⟩
        refine step_goal g w1 w2 l1 l2 hl hrr Ic WSc WDc npc dc (fun v H3 k3 d3 => ?_) fun w' H3 I3 e3 d3 k3 D3 => ?_
        · exact ⟨0, by omega, v, rfl, smK sc k3, .inl ⟨d3, rfl⟩⟩
        · exact ⟨n - 1, by omega, .str "on", rfl, smK sc k3, .inr ⟨rfl, w', I3, keepS WSc WDc k3, D3, d3, by omega⟩⟩
end
end K36
/-! joined_with, joined -/
namespace K36
open PySem PySem.Spec PyProof.Rows L2
/-- the defs that stand behind joined -/
structure Defs (K : PySem.W.Frag) (mg : Str → Option Value) (CR CW : Addr) : Prop where
  nothing : ∃ f fd, Fun K "nothing" "Writing.nothing" sNothing f fd ∧ Binds K fd ["self"] [] ∧ Meth K CR "nothing" f
  add : ∃ f fd, Fun K "add" "Writing.add" sAdd f fd ∧ Binds K fd ["self", "one", "two"] [] ∧ Meth K CR "add" f
  init : ∃ f fd, Fun K "__init__" "Walk.__init__" sInit f fd ∧ Binds K fd ["self", "machine", "pair", "content", "context"] [] ∧ Mk K CW f
  step : ∃ f fd, Fun K "step" "Walk.step" sStep f fd ∧ Binds K fd ["self"] [] ∧ Meth K CW "step" f
  contexts : ∃ f fd, Fun K "contexts" "contexts" sContexts f fd ∧ Binds K fd ["machine"] [] ∧ mg "contexts" = some (.ref f)
  jdeed : ∃ f fd, Fun K "joined_deed" "joined_deed" sJDeed f fd ∧ Binds K fd ["machine", "pair", "content", "context"] [] ∧ mg "joined_deed" = some (.ref f)
  jwith : ∃ f fd, Fun K "joined_with" "joined_with" sJWith f fd ∧ Binds K fd ["machine", "first", "second", "content"] [] ∧ mg "joined_with" = some (.ref f)
section
variable {P : Program} {w : World} {K : PySem.W.Frag} {mg : Str → Option Value} {base : Heap} {CR CW aS : Addr}
/-- two stretches given -/
structure TwoS (H : Hp) (m s1 s2 : Addr) (M : Mach) (r1 r2 : List Nat) : Prop where
  mach : MachAt H m M
  fst : StrAt H s1 (M.mc.worth r1) (M.deeds r1) M.zs
  snd : StrAt H s2 (M.mc.worth r2) (M.deeds r2) M.zs
  good : M.Good
  rows : M.mc.Row r1 ∧ M.mc.Row r2 ∧ r1.length ≤ 50 ∧ r2.length ≤ 50
theorem TwoS.mono {H H' : Hp} {m s1 s2 : Addr} {M : Mach} {r1 r2 : List Nat} (s : Same H H') (h : TwoS H m s1 s2 M r1 r2) : TwoS H' m s1 s2 M r1 r2 := ⟨h.mach.mono (TK.of s), h.fst.mono s, h.snd.mono s, h.good, h.rows⟩
def spJWith (CR : Addr) : Sp := fun vs H Q _ => ∃ (m s1 s2 co dxc : Addr) (M : Mach) (r1 r2 : List Nat), vs = [.ref m, .ref s1, .ref s2, .ref co] ∧ TwoS H m s1 s2 M r1 r2 ∧ H co = some (.ins CR dxc []) ∧
  ∀ a H', Same H H' → StrAt H' a (M.mc.worth (r1 ++ r2)) (M.deeds (r1 ++ r2)) M.zs → Q (.ref a) H'
theorem scJWith : FnScope ["machine", "first", "second", "content", "deeds", "context"] ["machine", "first", "second", "content"] (defScope sJWith) := ⟨rfl, rfl, rfl, by decide +kernel, rfl, by decide +kernel, by decide +kernel⟩
theorem ok_jwith {f : Addr} {fd : FuncData} (F : Fun K "joined_with" "joined_with" sJWith f fd) (T : Txt K mg CR CW aS) (D : Defs K mg CR CW) : FnOk P w K mg base CX0 5 f fd ["machine", "first", "second", "content"] (spJWith CR) := by
  obtain ⟨fN, fdN, FN, bN, mN⟩ := D.nothing
  obtain ⟨fA, fdA, FA, bA, mA⟩ := D.add
  obtain ⟨fI, fdI, FI, bI, MW⟩ := D.init
  obtain ⟨fS, fdS, FS, bS, mS⟩ := D.step
  obtain ⟨fC, fdC, FC, bC, gC⟩ := D.contexts
  obtain ⟨fJ, fdJ, FJ, bJ, gJ⟩ := D.jdeed
  have GC : FnOk P w K mg base CX0 1 fC fdC ["machine"] spContexts := ok_contexts FC T
  have GJ : FnOk P w K mg base CX0 4 fJ fdJ ["machine", "pair", "content", "context"] (spJDeed CR) := ok_jdeed FJ T MW FI bI FS bS mS FN bN mN FA bA mA
  refine F.ok scJWith (fun vs H Q E h => ?_) (fun cdv A outer s H vs Q E hr h => ?_)
  · obtain ⟨m, s1, s2, co, dxc, M, r1, r2, rfl, _⟩ := h
    rfl
  · obtain ⟨m, s1, s2, co, dxc, M, r1, r2, rfl, W2, hco, k⟩ := h
    obtain ⟨hr1, hr2, l1, l2⟩ := W2.rows
    have g := W2.good
    refine ⟨_, pss_cons (ps_set (i := 4) scJWith.nd rfl (Or.inl rfl) pe_dnewT)
      (pss_cons (ps_for PassesOwn.never rfl (pi_list (pe_call GC (hr.mono (by decide)) rfl gC FC.kp bC .nil pass0 (pa_cons (pv 0) pa_nil))) (pg_name (i := 5) scJWith.nd rfl (Or.inl rfl))
        (pss_one (ps_dput (hu_of hr) (pv 4) (pv 5) (pe_call GJ hr rfl gJ FJ.kp bJ .nil pass0 (pa_cons (pv 0) (pa_cons (pe_tup (pa_cons (pv 1) (pa_cons (pv 2) pa_nil))) (pa_cons (pv 3) (pa_cons (pv 5) pa_nil))))) rfl)))
      (pss_one (ps_ret (pe_tup (pa_cons (pe_ix ix_tup (pe_ix ix_tup (pe_ix ix_tup (pe_ix ix_tup (pv 0) pe_int (fun _ _ => rfl)) pe_int (fun _ _ => rfl)) (pe_ix ix_tup (pv 1) pe_int (fun _ _ => rfl)) (fun _ _ => rfl)) (pe_ix ix_tup (pv 2) pe_int (fun _ _ => rfl)) (fun _ _ => rfl)) (pa_cons (pv 4) pa_nil)))))), ?_⟩
    -- deeds = {}
    refine fun d nd => ?_
    have s1' : Same H (upd H d (.dT [])) := same_upd nd
    -- contexts(machine)
    refine ⟨_, rfl, m, M, rfl, W2.mach.mono (TK.of s1'), g, fun l as H1 s2' nl el pr => ?_⟩
    have hd1 : H1 d = some (.dT []) := s2' _ _ upd_same
    refine ⟨l, rfl, ⟨_, .of el⟩, for_list (K := K) (a := l) (xs := as.map V.ref) (fun i σ H2 => ∃ kvs y, σ = [some (.ref m), some (.ref s1), some (.ref s2), some (.ref co), some (.ref d), y] ∧ (∀ b o, H1 b = some o → b ≠ d → H2 b = some o) ∧ H2 d = some (.dT kvs) ∧ DictIs H2 kvs (M.deeds (r1 ++ r2)) (M.zs.take i))
      ⟨[], none, rfl, fun _ _ e _ => e, hd1, DictIs.nil⟩ (fun i σ H2 _ ⟨_, _, _, kp, _⟩ => .of (kp _ _ el (ne_of el hd1 (fun z => by cases z)))) (fun i x σ H2 hx ⟨kvs, y, e, kp, hd, di⟩ => ?_) fun σ H2 ⟨kvs, y, e, kp, hd, di⟩ => ?_⟩
    · subst e
      have hil : i < as.length := by
        have := (List.getElem?_eq_some_iff.mp hx).1
        rwa [List.length_map] at this
      have hil2 : i < M.zs.length := by rw [← Paired.length pr]; exact hil
      obtain ⟨a, ea, ha⟩ := pairedGet pr (List.getElem?_eq_getElem hil2)
      rw [List.getElem?_map, ea] at hx
      obtain rfl : V.ref a = x := Option.some.inj hx
      have et : M.zs.take (i + 1) = M.zs.take i ++ [M.zs[i]] := by
        rw [List.take_add_one, List.getElem?_eq_getElem hil2]; rfl
      rw [et]
      have hz : M.zs[i] ∈ M.zs := List.getElem_mem hil2
      revert ha hz
      generalize M.zs[i] = z
      intro ha hz
      have s02 : Same H H2 := fun b o e => kp b o (s2' _ _ (s1' _ _ e)) (ne_of_none e nd)
      have ha2 : H2 a = some (.tup ((kk z).map kV)) := kp _ _ ha (ne_of ha hd1 (fun z => by cases z))
      refine ⟨_, rfl, _, rfl, _, rfl, small_le (by show 2 ≤ 100000; decide), fun pa npa => ?_⟩
      have s3 : Same H2 (upd H2 pa (.tup [.ref s1, .ref s2])) := same_upd npa
      refine ⟨_, rfl, _, rfl, m, pa, co, a, M, r1, r2, z, rfl, ⟨(W2.mono (s02.trans s3)).mach, ⟨s1, s2, upd_same, (W2.mono (s02.trans s3)).fst, (W2.mono (s02.trans s3)).snd⟩, ⟨dxc, s3 _ _ (s02 _ _ hco)⟩, worth_lt g.ok hr1, worth_lt g.ok hr2⟩, g, hr1, hr2, l1, l2, s3 _ _ ha2, hz, fun v H3 s4 dv => ?_⟩
      have s5 := s3.trans s4
      have hd3 := s5 _ _ hd
      have hz54 := zs_len g
      refine ⟨_, rfl, _, rfl, d, _, rfl, DPut.t (k := kk z) hd3 (s5 _ _ ha2) (small_lt (by
        have := di.len
        rw [List.length_take] at this
        have : min i M.zs.length ≤ M.zs.length := Nat.min_le_right _ _
        omega)), _, _, rfl, fun b o e hb => by rw [upd_ne hb]; exact s5 _ _ (kp b o e hb), upd_same, ?_⟩
      exact ((di.mono (TK.of s5)).put dv).mono (tk_write hd3 (fun xs z => by cases z))
    · subst e
      have s02 : Same H H2 := fun b o e => kp b o (s2' _ _ (s1' _ _ e)) (ne_of_none e nd)
      rw [List.length_map, Paired.length pr, List.take_length] at di
      obtain ⟨lk, wv, ov, ts, ss, h1, ⟨al, am, rows, ac, h2, h3, h4, h5⟩, h6, h7⟩ := (W2.mach.mono (TK.of s02)).ex
      obtain ⟨d1, kv1, es1, _⟩ := W2.fst.mono s02
      obtain ⟨d2, kv2, es2, _⟩ := W2.snd.mono s02
      obtain ⟨ra, xs, i1, e1, j1⟩ := mul_at g h5 (worth_lt g.ok hr1) (worth_lt g.ok hr2)
      refine ⟨_, rfl, m, _, 2, .ref lk, rfl, rfl, .of h1, atI_nat (j := 2) rfl, lk, _, 2, .ref am, rfl, rfl, .of h2, atI_nat (j := 2) rfl, _, rfl, s1, _, 0, natV (M.mc.worth r1), rfl, rfl, .of es1, atI_nat (j := 0) rfl,
        am, _, _, .ref ra, rfl, rfl, .of h4, atI_nat i1, _, rfl, s2, _, 0, natV (M.mc.worth r2), rfl, rfl, .of es2, atI_nat (j := 0) rfl, ra, _, _, natV (M.mc.mul (M.mc.worth r1) (M.mc.worth r2)), rfl, rfl, .of e1, atI_nat j1, _, rfl, small_le (by show 2 ≤ 100000; decide), fun rp nr => ?_⟩
      have s6 : Same H2 (upd H2 rp (.tup [natV (M.mc.mul (M.mc.worth r1) (M.mc.worth r2)), .ref d])) := same_upd nr
      refine k rp _ (s02.trans s6) ⟨d, kvs, ?_, s6 _ _ hd, di.mono (TK.of s6)⟩
      rw [worth_append g.ok hr1 hr2]
      exact upd_same
def spJoined : Sp := fun vs H Q _ => ∃ (m s1 s2 : Addr) (M : Mach) (r1 r2 : List Nat), vs = [.ref m, .ref s1, .ref s2] ∧ TwoS H m s1 s2 M r1 r2 ∧ ∀ a H', Same H H' → StrAt H' a (M.mc.worth (r1 ++ r2)) (M.deeds (r1 ++ r2)) M.zs → Q (.ref a) H'
theorem scJoined : FnScope ["machine", "first", "second"] ["machine", "first", "second"] (defScope sJoined) := ⟨rfl, rfl, rfl, by decide +kernel, rfl, by decide +kernel, by decide +kernel⟩
theorem ok_joined {f : Addr} {fd : FuncData} (F : Fun K "joined" "joined" sJoined f fd) (T : Txt K mg CR CW aS) (D : Defs K mg CR CW) : FnOk P w K mg base CX0 6 f fd ["machine", "first", "second"] spJoined := by
  obtain ⟨fW, fdW, FW, bW, gW⟩ := D.jwith
  have GW : FnOk P w K mg base CX0 5 fW fdW ["machine", "first", "second", "content"] (spJWith CR) := ok_jwith FW T D
  refine F.ok scJoined (fun vs H Q E h => ?_) (fun cdv A outer s H vs Q E hr h => ?_)
  · obtain ⟨m, s1, s2, M, r1, r2, rfl, _⟩ := h
    rfl
  · obtain ⟨m, s1, s2, M, r1, r2, rfl, W2, k⟩ := h
    refine ⟨_, pss_one (ps_ret (pe_call GW hr rfl gW FW.kp bW .nil pass0 (pa_cons (pv 0) (pa_cons (pv 1) (pa_cons (pv 2) (pa_cons (pe_makeO T.mkR rfl T.mgR) pa_nil)))))), ?_⟩
    refine ⟨_, rfl, _, rfl, _, rfl, fun x dx nx ndx ne => ?_⟩
    have s0 : Same H (upd (upd H dx (.own x)) x (.ins CR dx [])) := fun b o e => by
      rw [upd_ne (ne_of_none e nx), upd_ne (ne_of_none e ndx)]; exact e
    exact ⟨m, s1, s2, x, dx, M, r1, r2, rfl, W2.mono s0, upd_same, fun a H' s' st => k a H' (s0.trans s') st⟩
end
end K36
/-! _law_draw: some number below the limit; the state stays a state -/
namespace K36
open PySem PySem.Spec PyProof.Rows L2
structure StD (H : Hp) (st : Addr) (a b : Int) (c : Addr) (d : Int) (ns : List Int) : Prop where
  lst : H st = some (.lst [.int a, .int b, .ref c, .int d])
  pos : 0 ≤ b
  ne : c ≠ st
  cells : H c = some (.lst (ns.map V.int))
/-- a state of drawing -/
def StOk (H : Hp) (st c : Addr) : Prop := ∃ a b d ns, StD H st a b c d ns
/-- all but the state stays -/
def But (st : Addr) (H H' : Hp) : Prop := ∀ b o, H b = some o → b ≠ st → H' b = some o
theorem But.refl (st : Addr) (H : Hp) : But st H H := fun _ _ e _ => e
theorem But.trans {st : Addr} {H H1 H2 : Hp} (x : But st H H1) (y : But st H1 H2) : But st H H2 := fun b o e h => y b o (x b o e h) h
theorem But.of {st : Addr} {H H' : Hp} (s : Same H H') : But st H H' := fun b o e _ => s b o e
theorem StD.put {H : Hp} {st c : Addr} {a b d a' b' d' : Int} {ns : List Int} (h : StD H st a b c d ns) (hb : 0 ≤ b') : StD (upd H st (.lst [.int a', .int b', .ref c, .int d'])) st a' b' c d' ns :=
  ⟨upd_same, hb, h.ne, by rw [upd_ne h.ne]; exact h.cells⟩
theorem But.put {H H' : Hp} {st : Addr} {o : HO} (x : But st H H') : But st H (upd H' st o) := fun b u e h => by rw [upd_ne h]; exact x b u e h
theorem StOk.same {H H' : Hp} {st c : Addr} (s : Same H H') (h : StOk H st c) : StOk H' st c := by
  obtain ⟨a, b, d, ns, h1, h2, h3, h4⟩ := h
  exact ⟨a, b, d, ns, s _ _ h1, h2, h3, s _ _ h4⟩
/-- another list or dict is written -/
theorem StOk.write {H : Hp} {st c p : Addr} {o : HO} (h : StOk H st c) (h1 : p ≠ st) (h2 : p ≠ c) : StOk (upd H p o) st c := by
  obtain ⟨a, b, d, ns, e1, e2, e3, e4⟩ := h
  exact ⟨a, b, d, ns, by rw [upd_ne h1.symm]; exact e1, e2, e3, by rw [upd_ne h2.symm]; exact e4⟩
theorem StOk.st_ne {H : Hp} {st c p : Addr} (h : StOk H st c) (hp : H p = none) : p ≠ st ∧ p ≠ c := by
  obtain ⟨a, b, d, ns, e1, e2, e3, e4⟩ := h
  exact ⟨(ne_of_none e1 hp).symm, (ne_of_none e4 hp).symm⟩
theorem But.tk {st c : Addr} {H H' : Hp} (x : But st H H') (h : StOk H st c) : TK H H' := fun a xs e => by
  obtain ⟨_, _, _, _, h1, _⟩ := h
  exact x a _ e (ne_of e h1 (fun z => by cases z))
section
variable {P : Program} {w : World} {K : PySem.W.Frag} {mg : Str → Option Value} {base : Heap}
def spDraw : Sp := fun vs H Q _ => ∃ (st c : Addr) (lim : Nat), vs = [.ref st, natV lim] ∧ StOk H st c ∧ 0 < lim ∧ lim < 1000 ∧ ∀ (r : Nat) H', r < lim → But st H H' → StOk H' st c → Q (natV r) H'
theorem scDraw : FnScope ["_law_state", "_law_limit", "_law_position", "_law_cell", "_law_mixed", "_law_digit"] ["_law_state", "_law_limit"] (defScope sDraw) := ⟨rfl, rfl, rfl, by decide +kernel, rfl, by decide +kernel, by decide +kernel⟩
theorem ok_draw {f : Addr} {fd : FuncData} (F : Fun K "_law_draw" "_law_draw" sDraw f fd) (T : Free mg) : FnOk P w K mg base CX0 1 f fd ["_law_state", "_law_limit"] spDraw := by
  refine F.ok scDraw (fun vs H Q E h => ?_) (fun cdv A outer s H vs Q E hr h => ?_)
  · obtain ⟨st, c, lim, rfl, _⟩ := h
    rfl
  · obtain ⟨st, c, lim, rfl, ⟨a, b, d, ns, hS⟩, l0, l1, k⟩ := h
    refine ⟨_, C8.pss_cut (ps_if (pt_cmpR op_lt (pe_ix ix_list (pv 0) pe_int (fun _ _ => rfl)) (pv 1) (nomark _))
        (pss_cons (ps_set (i := 2) scDraw.nd rfl (Or.inl rfl) (pe_ix ix_list (pv 0) pe_int (fun _ _ => rfl)))
        (pss_cons (ps_asg (pe_op op_add (pv 2) pe_int) (pg_sub (pv 0) pe_int set_list))
        (pss_cons (ps_set (i := 3) scDraw.nd rfl (Or.inl rfl) pe_int)
        (C8.pss_cut (ps_if (pt_cmpR op_lt (pv 2) (pe_callB call_len_seq (by rfl) T.len PySem.boot_len (pa_cons (pe_ix ix_list (pv 0) pe_int (fun _ _ => rfl)) pa_nil)) (nomark _))
            (pss_one (ps_set (i := 3) scDraw.nd rfl (Or.inl rfl) (pe_ix ix_list (pe_ix ix_list (pv 0) pe_int (fun _ _ => rfl)) (pv 2) (fun _ _ => rfl)))) pss_nil)
        (pss_one (ps_if (pt_cmpR op_ge (pv 3) (pe_op op_pow pe_int pe_int) (nomark _))
            (pss_one (ps_asg (pv 3) (pg_sub (pv 0) pe_int set_list)))
            (pss_cons (ps_asg (pe_op op_mod (pe_callTy call_int1 (by rfl) T.int (by decide +kernel) (pa_cons (pe_op op_mul (pe_op op_add (pe_op op_add (pe_op op_add (pe_ix ix_list (pv 0) pe_int (fun _ _ => rfl)) (pe_op op_mod (pe_callTy call_int1 (by rfl) T.int (by decide +kernel) (pa_cons (pv 3) pa_nil)) pe_int)) (pv 2)) pe_int) pe_int) pa_nil)) pe_int) (pg_sub (pv 0) pe_int set_list))
            (pss_cons (ps_set (i := 4) scDraw.nd rfl (Or.inl rfl) (pe_op op_mod (pe_callTy call_int1 (by rfl) T.int (by decide +kernel) (pa_cons (pe_op op_add (pe_op op_mul (pe_ix ix_list (pv 0) pe_int (fun _ _ => rfl)) pe_int) pe_int) pa_nil)) pe_int))
            (pss_one (ps_asg (pe_op op_add (pe_op op_mul (pv 4) pe_int) (pe_op op_mod (pe_callTy call_int1 (by rfl) T.int (by decide +kernel) (pa_cons (pe_op op_add (pe_op op_mul (pv 4) pe_int) (pe_ix ix_list (pv 0) pe_int (fun _ _ => rfl))) pa_nil)) pe_int)) (pg_sub (pv 0) pe_int set_list))))))))))) pss_nil)
      (pss_cons (ps_set (i := 5) scDraw.nd rfl (Or.inl rfl) (pe_op op_mod (pe_callTy call_int1 (by rfl) T.int (by decide +kernel) (pa_cons (pe_ix ix_list (pv 0) pe_int (fun _ _ => rfl)) pa_nil)) (pv 1)))
      (pss_cons (ps_asg (pe_op op_fdiv (pe_ix ix_list (pv 0) pe_int (fun _ _ => rfl)) (pv 1)) (pg_sub (pv 0) pe_int set_list))
      (pss_one (ps_ret (pv 5))))), ?_⟩
    refine ⟨fun σ H' => ∃ a b d ns x2 x3 x4, σ = [some (.ref st), some (natV lim), x2, x3, x4, none] ∧ StD H' st a b c d ns ∧ But st H H', ?_, fun σ H' hM => ?_⟩
    · -- if state[0] < limit
      refine ⟨_, rfl, st, _, 0, .int a, rfl, rfl, .of hS.lst, atI_nat (j := 0) rfl, _, rfl, a, lim, rfl, rfl, _, rfl, ite2 (fun _ => ?_) fun _ => ⟨a, b, d, ns, none, none, none, rfl, hS, But.refl _ _⟩⟩
      -- position; state[1] = position + 1; cell = 0
      refine ⟨_, rfl, st, _, 1, .int b, rfl, rfl, .of hS.lst, atI_nat (j := 1) rfl, ?_⟩
      refine ⟨_, rfl, b, 1, rfl, rfl, _, rfl, st, _, 1, 1, rfl, rfl, hS.lst, rfl, ?_⟩
      have h1 : StD (upd H st (.lst [.int a, .int (b + 1), .ref c, .int d])) st a (b + 1) c d ns := hS.put (by have := hS.pos; omega)
      have b1 : But st H (upd H st (.lst [.int a, .int (b + 1), .ref c, .int d])) := (But.refl st H).put
      revert h1 b1
      show StD (upd H st (.lst ([V.int a, .int b, .ref c, .int d].set 1 (.int (b + 1))))) st a (b + 1) c d ns → But st H (upd H st (.lst ([V.int a, .int b, .ref c, .int d].set 1 (.int (b + 1))))) → _
      generalize upd H st (.lst ([V.int a, .int b, .ref c, .int d].set 1 (.int (b + 1)))) = H1
      intro h1 b1
      refine ⟨fun σ H' => ∃ cell : Int, σ = [some (.ref st), some (natV lim), some (.int b), some (.int cell), none, none] ∧ H' = H1, ?_, fun σ H' hM => ?_⟩
      · refine ⟨_, rfl, _, rfl, st, _, 2, .ref c, rfl, rfl, .of h1.lst, atI_nat (j := 2) rfl, c, _, rfl, .inl (.of h1.cells), b, _, rfl, rfl, _, rfl, ite2 (fun hlt => ?_) fun _ => ⟨0, rfl, rfl⟩⟩
        have hlt : b < ((ns.map V.int).length : Int) := of_decide_eq_true hlt
        rw [List.length_map] at hlt
        have hb := hS.pos
        have hi : b.toNat < ns.length := by omega
        have eb : b = (b.toNat : Int) := by omega
        refine ⟨_, rfl, st, _, 2, .ref c, rfl, rfl, .of h1.lst, atI_nat (j := 2) rfl, _, rfl, c, _, b, .int ns[b.toNat], rfl, rfl, .of h1.cells, ?_, ns[b.toNat], rfl, rfl⟩
        exact at_of eb (by simp [hi])
      · obtain ⟨cell, rfl, rfl⟩ := hM
        refine ⟨_, rfl, 10, 18, rfl, rfl, ⟨by decide, by decide, by decide⟩, cell, _, rfl, rfl, _, rfl, ite2 (fun _ => ?_) fun _ => ?_⟩
        · exact ⟨_, rfl, _, rfl, st, _, 0, 0, rfl, rfl, h1.lst, rfl, cell, b + 1, d, ns, _, _, _, rfl, h1.put h1.pos, b1.put⟩
        · -- state[3] = ..
          refine ⟨_, rfl, st, _, 3, .int d, rfl, rfl, .of h1.lst, atI_nat (j := 3) rfl, _, rfl, .inl ⟨cell, rfl, cell, 2147483629, rfl, rfl, (by show (0 : Int) < 2147483629; decide), d, _, rfl, rfl, _, rfl, _, b, rfl, rfl, _, 1, rfl, rfl, _, 48271, rfl, rfl, .inr ⟨by decide, by decide⟩,
            .inl ⟨_, rfl, _, 2147483647, rfl, rfl, (by show (0 : Int) < 2147483647; decide), _, rfl, st, _, 3, 3, rfl, rfl, h1.lst, rfl, ?_⟩⟩⟩
          generalize hx : ((d + cell % 2147483629 + b + 1) * 48271) % 2147483647 = y
          have h2 : StD (upd H' st (.lst [.int a, .int (b + 1), .ref c, .int y])) st a (b + 1) c y ns := h1.put h1.pos
          have b2 : But st H (upd H' st (.lst [.int a, .int (b + 1), .ref c, .int y])) := b1.put
          subst hx
          -- mixed
          refine ⟨_, rfl, st, _, 3, .int _, rfl, rfl, .of h2.lst, atI_nat (j := 3) rfl, _, 69621, rfl, rfl, .inr ⟨by decide, by decide⟩, _, 11, rfl, rfl, .inl ⟨_, rfl, _, 2147483629, rfl, rfl, (by show (0 : Int) < 2147483629; decide), ?_⟩⟩
          -- state[0] = ..
          refine ⟨_, rfl, _, 2147483647, rfl, rfl, .inr ⟨by decide, by decide⟩, _, rfl, _, 30011, rfl, rfl, .inr ⟨by decide, by decide⟩, _, rfl, st, _, 3, .int _, rfl, rfl, .of h2.lst, atI_nat (j := 3) rfl, _, _, rfl, rfl, .inl ⟨_, rfl, _, 2147483587, rfl, rfl, (by show (0 : Int) < 2147483587; decide), _, _, rfl, rfl, _, rfl, st, _, 0, 0, rfl, rfl, h2.lst, rfl, ?_⟩⟩
          exact ⟨_, b + 1, _, ns, _, _, _, rfl, h2.put h2.pos, b2.put⟩
    · -- the digit
      obtain ⟨a, b, d, ns, x2, x3, x4, rfl, hS, bt⟩ := hM
      have hl : (0 : Int) < (lim : Int) := by omega
      refine ⟨_, rfl, st, _, 0, .int a, rfl, rfl, .of hS.lst, atI_nat (j := 0) rfl, .inl ⟨a, rfl, _, rfl, a, lim, rfl, rfl, hl, ?_⟩⟩
      refine ⟨_, rfl, st, _, 0, .int a, rfl, rfl, .of hS.lst, atI_nat (j := 0) rfl, _, rfl, a, lim, rfl, rfl, ⟨hl, by omega⟩, _, rfl, st, _, 0, 0, rfl, rfl, hS.lst, rfl, _, rfl, ?_⟩
      have e1 : 0 ≤ a % (lim : Int) := Int.emod_nonneg _ (by omega)
      have e2 : a % (lim : Int) < lim := Int.emod_lt_of_pos _ hl
      have e3 : a % (lim : Int) = (((a % (lim : Int)).toNat : Nat) : Int) := by omega
      have q := k (a % (lim : Int)).toNat (upd H' st (.lst [.int (a / lim), .int b, .ref c, .int d])) (by omega) bt.put ⟨_, _, _, _, hS.put hS.pos⟩
      unfold natV at q
      rw [← e3] at q
      exact q
end
end K36
/-! _law_product, _law_word, _law_worth -/
namespace K36
open PySem PySem.Spec PyProof.Rows L2
def prodN (kind c x y : Nat) : Nat := if kind = 0 then (x + y) % c else if kind = 1 then (if x < y then y else x) else if kind = 2 then (if y = 0 then x else y) else (if x = 0 then y else x)
theorem nat_dec {a b : Nat} : decide (natV a = natV b) = decide (a = b) := by
  rw [Bool.eq_iff_iff, decide_eq_true_eq, decide_eq_true_eq]
  constructor
  · intro h
    have := V.int.inj h
    omega
  · rintro rfl; rfl
section
variable {P : Program} {w : World} {K : PySem.W.Frag} {mg : Str → Option Value} {base : Heap}
def spProduct : Sp := fun vs H Q _ => ∃ kind c x y : Nat, vs = [natV kind, natV c, natV x, natV y] ∧ 0 < c ∧ Q (natV (prodN kind c x y)) H
theorem scProduct : FnScope ["_law_kind", "_law_count", "_law_x", "_law_y"] ["_law_kind", "_law_count", "_law_x", "_law_y"] (defScope sProduct) := ⟨rfl, rfl, rfl, by decide +kernel, rfl, by decide +kernel, by decide +kernel⟩
theorem ok_product {f : Addr} {fd : FuncData} (F : Fun K "_law_product" "_law_product" sProduct f fd) (T : Free mg) : FnOk P w K mg base CX0 1 f fd ["_law_kind", "_law_count", "_law_x", "_law_y"] spProduct := by
  refine F.ok scProduct (fun vs H Q E h => ?_) (fun cdv A outer s H vs Q E hr h => ?_)
  · obtain ⟨kind, c, x, y, rfl, _⟩ := h
    rfl
  · obtain ⟨kind, c, x, y, rfl, hc, k⟩ := h
    refine ⟨_, pss_cons (ps_if (pt_cmpR op_eq (pv 0) pe_int (nomark _)) (pss_one (ps_ret (pe_op op_mod (pe_callTy call_int1 (by rfl) T.int (by decide +kernel) (pa_cons (pe_op op_add (pv 2) (pv 3)) pa_nil)) (pv 1)))) pss_nil)
      (pss_cons (ps_if (pt_cmpR op_eq (pv 0) pe_int (nomark _)) (pss_one (ps_ret (pe_callB (call_max2 rfl) (by rfl) T.max (by decide +kernel) (pa_cons (pv 2) (pa_cons (pv 3) pa_nil))))) pss_nil)
      (pss_cons (ps_if (pt_cmpR op_eq (pv 0) pe_int (nomark _)) (pss_one (ps_ret (pe_ifExp (pt_cmpR op_eq (pv 3) pe_int (nomark _)) (pv 2) (pv 3)))) pss_nil)
      (pss_one (ps_ret (pe_ifExp (pt_cmpR op_eq (pv 2) pe_int (nomark _)) (pv 3) (pv 2)))))), ?_⟩
    have d0 : ∀ a : Nat, (V.int (a : Int) = V.int 0) ↔ a = 0 := fun a => ⟨fun h => by have := V.int.inj h; omega, fun h => by subst h; rfl⟩
    have d1 : ∀ a : Nat, (V.int (a : Int) = V.int 1) ↔ a = 1 := fun a => ⟨fun h => by have := V.int.inj h; omega, fun h => by subst h; rfl⟩
    have d2 : ∀ a : Nat, (V.int (a : Int) = V.int 2) ↔ a = 2 := fun a => ⟨fun h => by have := V.int.inj h; omega, fun h => by subst h; rfl⟩
    unfold prodN at k
    refine ⟨_, rfl, rfl, _, rfl, ite2 (fun h => ?_) fun h => ?_⟩
    · have h := (d0 kind).mp (of_decide_eq_true h)
      rw [if_pos h] at k
      refine ⟨_, rfl, _, rfl, x, y, rfl, rfl, .inl ⟨_, rfl, _, rfl, _, c, rfl, rfl, (by show (0 : Int) < (c : Int); omega), ?_⟩⟩
      unfold natV at k
      rw [Int.natCast_emod, Int.natCast_add] at k
      exact k
    have h := fun z => h (decide_eq_true ((d0 kind).mpr z))
    rw [if_neg h] at k
    refine ⟨_, rfl, rfl, _, rfl, ite2 (fun h => ?_) fun h => ?_⟩
    · have h := (d1 kind).mp (of_decide_eq_true h)
      rw [if_pos h] at k
      refine ⟨_, rfl, _, rfl, x, y, rfl, ?_⟩
      by_cases hxy : x < y
      · rw [if_pos hxy] at k
        rw [if_pos (show (y : Int) > x by omega)]
        exact k
      · rw [if_neg hxy] at k
        rw [if_neg (show ¬ (y : Int) > x by omega)]
        exact k
    have h := fun z => h (decide_eq_true ((d1 kind).mpr z))
    rw [if_neg h] at k
    refine ⟨_, rfl, rfl, _, rfl, ite2 (fun h => ?_) fun h => ?_⟩
    · have h := (d2 kind).mp (of_decide_eq_true h)
      rw [if_pos h] at k
      refine ⟨_, rfl, rfl, _, rfl, ite2 (fun h => ?_) fun h => ?_⟩
      · have h := (d0 y).mp (of_decide_eq_true h)
        rw [if_pos h] at k
        exact ⟨_, rfl, k⟩
      · have h := fun z => h (decide_eq_true ((d0 y).mpr z))
        rw [if_neg h] at k
        exact ⟨_, rfl, k⟩
    have h := fun z => h (decide_eq_true ((d2 kind).mpr z))
    rw [if_neg h] at k
    refine ⟨_, rfl, rfl, _, rfl, ite2 (fun h => ?_) fun h => ?_⟩
    · have h := (d0 x).mp (of_decide_eq_true h)
      rw [if_pos h] at k
      exact ⟨_, rfl, k⟩
    · have h := fun z => h (decide_eq_true ((d0 x).mpr z))
      rw [if_neg h] at k
      exact ⟨_, rfl, k⟩
/-! ### a word -/
def spWord : Sp := fun vs H Q _ => ∃ (st c : Addr) (lim most : Nat), vs = [.ref st, natV lim, natV most] ∧ StOk H st c ∧ 0 < lim ∧ lim < 1000 ∧ most < 900 ∧
  ∀ (l : Addr) (row : List Nat) H', But st H H' → StOk H' st c → H l = none → H' l = some (.lst (row.map natV)) → (∀ a ∈ row, a < lim) → row.length ≤ most → Q (.ref l) H'
theorem scWord : FnScope ["_law_state", "_law_count", "_law_most", "_law_k"] ["_law_state", "_law_count", "_law_most"] (defScope sWord) := ⟨rfl, rfl, rfl, by decide +kernel, rfl, by decide +kernel, by decide +kernel⟩
/-- a list that draws fill -/
structure Drawn' (H0 H : Hp) (st c D : Addr) (lim i : Nat) : Prop where
  but : But st H0 H
  ok : StOk H st c
  ex : ∃ row : List Nat, H D = some (.lst (row.map natV)) ∧ row.length = i ∧ ∀ a ∈ row, a < lim
theorem Drawn'.step {H0 H H1 : Hp} {st c D : Addr} {lim i r : Nat} (h : Drawn' H0 H st c D lim i) (hD : H0 D = none) (h0 : StOk H0 st c) (hr : r < lim) (bt : But st H H1) (ok : StOk H1 st c) (hi : i < 100000) :
    ∃ xs, H1 D = some (.lst xs) ∧ xs.length < sizeLine ∧ Drawn' H0 (upd H1 D (.lst (xs ++ [natV r]))) st c D lim (i + 1) := by
  obtain ⟨n1, n2⟩ := h0.st_ne hD
  obtain ⟨row, e, el, ea⟩ := h.ex
  refine ⟨row.map natV, bt _ _ e n1, by rw [List.length_map]; exact small_lt (by omega), fun b o eb hb => ?_, ok.write n1 n2, row ++ [r], by rw [upd_same]; simp, by simp [el], fun a ha => ?_⟩
  · rw [upd_ne (ne_of_none eb hD)]
    exact bt _ _ (h.but _ _ eb hb) hb
  · rcases List.mem_append.mp ha with ha | ha
    · exact ea a ha
    · obtain rfl := List.mem_singleton.mp ha
      exact hr
theorem Drawn'.start {H0 : Hp} {st c D : Addr} {lim : Nat} (hD : H0 D = none) (h0 : StOk H0 st c) : Drawn' H0 (upd H0 D (.lst [])) st c D lim 0 :=
  ⟨But.of (same_upd hD), h0.same (same_upd hD), [], upd_same, rfl, fun a ha => absurd ha (by simp)⟩
theorem ok_word {f fD : Addr} {fd fdD : FuncData} (F : Fun K "_law_word" "_law_word" sWord f fd) (T : Free mg) (FD : Fun K "_law_draw" "_law_draw" sDraw fD fdD) (bD : Binds K fdD ["_law_state", "_law_limit"] []) (gD : mg "_law_draw" = some (.ref fD)) :
    FnOk P w K mg base CX0 2 f fd ["_law_state", "_law_count", "_law_most"] spWord := by
  have GD : FnOk P w K mg base CX0 1 fD fdD ["_law_state", "_law_limit"] spDraw := ok_draw FD T
  refine F.ok scWord (fun vs H Q E h => ?_) (fun cdv A outer s H vs Q E hr h => ?_)
  · obtain ⟨st, c, lim, most, rfl, _⟩ := h
    rfl
  · obtain ⟨st, c, lim, most, rfl, hS, l0, l1, l2, k⟩ := h
    refine ⟨_, pss_one (ps_ret (pe_lc (own := [("_law_k", 3)]) (g := gName 3) (tt := tYes) (te := tCall spDraw [] E0 (tCons (tVar 0) (tCons (tVar 1) tNil))) rfl scWord.nd
      (pi_range1 rfl T.range (pa_cons (pe_call GD hr rfl gD FD.kp bD .nil pass0 (pa_cons (pv 0) (pa_cons (pe_op op_add (pv 2) pe_int) pa_nil))) pa_nil))
      (blkOk_by (N := ["_law_state", "_law_count", "_law_most", "_law_k"]) (sc := defScope sWord) (by decide +kernel))
      (fun _ _ _ _ _ => pg_name (i := 3) scWord.nd rfl (Or.inl rfl)) (fun _ _ _ _ _ => pts_nil)
      (fun _ _ _ _ _ => pe_call GD hr rfl gD FD.kp bD .nil pass0 (pa_cons (pv 0) (pa_cons (pv 1) pa_nil))))), ?_⟩
    refine ⟨_, rfl, _, rfl, most, 1, rfl, rfl, st, c, most + 1, rfl, hS, by omega, by omega, fun r H1 hr1 bt ok => ?_⟩
    refine ⟨r, rfl, by omega, by omega, fun D nD => ?_⟩
    rw [Int.toNat_natCast]
    refine lc_range (fun i H' => Drawn' H1 H' st c D lim i) (Drawn'.start nD ok) (fun i H' hi pm => ?_) fun H' pm => ?_
    · exact ⟨rfl, _, rfl, _, rfl, st, c, lim, rfl, pm.ok, l0, l1, fun d H2 hd b2 ok2 => pm.step nD ok hd b2 ok2 (by omega)⟩
    · obtain ⟨row, e, el, ea⟩ := pm.ex
      have hl : H D = none := by
        cases q : H D with
        | none => rfl
        | some o =>
          have n1 := (ok.st_ne nD).1
          rw [bt _ _ q n1] at nD; cases nD
      exact k D row H' (bt.trans pm.but) pm.ok hl e ea (by omega)
/-! ### the value of a row -/
def spWorth : Sp := fun vs H Q _ => ∃ (rd rw_ : Addr) (M : Mach) (row : List Nat), vs = [.ref rd, .ref rw_] ∧ LookAt H rd M ∧ M.Good ∧ H rw_ = some (.lst (row.map natV)) ∧ M.mc.Row row ∧ Q (natV (M.mc.worth row)) H
theorem scWorth : FnScope ["_law_reader", "_law_row", "_law_now", "_law_letter"] ["_law_reader", "_law_row"] (defScope sWorth) := ⟨rfl, rfl, rfl, by decide +kernel, rfl, by decide +kernel, by decide +kernel⟩
theorem L_at {M : Mach} (g : M.Good) {a : Nat} (h : a < M.n + 2) : (M.L.map natV)[a]? = some (natV (M.mc.L a)) := by
  have h' : a < M.L.length := by rw [g.L_len]; exact h
  rw [List.getElem?_map, List.getElem?_eq_getElem h']
  show some (natV M.L[a]) = some (natV (M.L.getD a 0))
  rw [List.getD_eq_getElem?_getD, List.getElem?_eq_getElem h']
  rfl
theorem worth_snoc (M : Mc) (row : List Nat) (a : Nat) : M.worth (row ++ [a]) = M.mul (M.worth row) (M.L a) := by
  unfold Mc.worth
  rw [List.foldl_append]
  rfl
theorem ok_worth {f : Addr} {fd : FuncData} (F : Fun K "_law_worth" "_law_worth" sWorth f fd) : FnOk P w K mg base CX0 1 f fd ["_law_reader", "_law_row"] spWorth := by
  refine F.ok scWorth (fun vs H Q E h => ?_) (fun cdv A outer s H vs Q E hr h => ?_)
  · obtain ⟨rd, rw_, M, row, rfl, _⟩ := h
    rfl
  · obtain ⟨rd, rw_, M, row, rfl, ⟨al, am, rows, ac, h2, h3, h4, h5⟩, g, hrow, hR, k⟩ := h
    refine ⟨_, pss_cons (ps_set (i := 2) scWorth.nd rfl (Or.inl rfl) (pe_ix ix_tup (pv 0) pe_int (fun _ _ => rfl)))
      (pss_cons (ps_for PassesOwn.never rfl (pi_list (pv 1)) (pg_name (i := 3) scWorth.nd rfl (Or.inl rfl))
        (pss_one (ps_set (i := 2) scWorth.nd rfl (Or.inl rfl) (pe_ix ix_tup (pe_ix ix_tup (pe_ix ix_tup (pv 0) pe_int (fun _ _ => rfl)) (pv 2) (fun _ _ => rfl)) (pe_ix ix_tup (pe_ix ix_tup (pv 0) pe_int (fun _ _ => rfl)) (pv 3) (fun _ _ => rfl)) (fun _ _ => rfl)))))
      (pss_one (ps_ret (pv 2)))), ?_⟩
    refine ⟨_, rfl, rd, _, 0, natV M.e, rfl, rfl, .of h2, atI_nat (j := 0) rfl, ?_⟩
    refine ⟨_, rfl, rw_, rfl, ⟨_, .of hrow⟩, for_list (K := K) (a := rw_) (xs := row.map natV) (fun i σ H' => ∃ y, H' = H ∧ σ = [some (.ref rd), some (.ref rw_), some (natV (M.mc.worth (row.take i))), y])
      ⟨none, rfl, rfl⟩ (fun i σ H' _ ⟨_, e, _⟩ => by subst e; exact .of hrow) (fun i x σ H' hx ⟨y, e, es⟩ => ?_) fun σ H' ⟨y, e, es⟩ => ?_⟩
    · subst e es
      have hil : i < row.length := by
        have := (List.getElem?_eq_some_iff.mp hx).1
        rwa [List.length_map] at this
      rw [List.getElem?_map, List.getElem?_eq_getElem hil] at hx
      obtain rfl : natV row[i] = x := Option.some.inj hx
      have ha : row[i] < M.n + 2 := hR _ (List.getElem_mem hil)
      have et : row.take (i + 1) = row.take i ++ [row[i]] := by
        rw [List.take_add_one, List.getElem?_eq_getElem hil]; rfl
      have hwl := worth_lt g.ok (take_row hR i)
      obtain ⟨ra, xs, i1, e1, j1⟩ := mul_at g h5 hwl (g.ok.L_lt _ ha)
      refine ⟨_, rfl, rd, _, 2, .ref am, rfl, rfl, .of h2, atI_nat (j := 2) rfl, _, rfl, am, _, _, .ref ra, rfl, rfl, .of h4, atI_nat i1, _, rfl, rd, _, 1, .ref al, rfl, rfl, .of h2, atI_nat (j := 1) rfl, _, rfl, al, _, _, _, rfl, rfl, .of h3, atI_nat (L_at g ha),
        ra, _, _, _, rfl, rfl, .of e1, atI_nat j1, some (natV row[i]), rfl, ?_⟩
      rw [et, worth_snoc]
      rfl
    · subst e es
      rw [List.length_map, List.take_length]
      exact ⟨_, rfl, k⟩
end
end K36
/-! the small readers' tables -/
namespace K36
open PySem PySem.Spec PyProof.Rows L2
/-- back: the value ahead of the shift -/
def bk (size shift x : Nat) : Nat := (((x : Int) - (shift : Int)) % (size : Int)).toNat
theorem bk_eq {size : Nat} (h : 0 < size) (shift x : Nat) : ((x : Int) - (shift : Int)) % (size : Int) = (bk size shift x : Int) := by
  have := Int.emod_nonneg ((x : Int) - (shift : Int)) (show (size : Int) ≠ 0 by omega)
  unfold bk; omega
theorem bk_lt {size : Nat} (h : 0 < size) (shift x : Nat) : bk size shift x < size := by
  have h1 := Int.emod_nonneg ((x : Int) - (shift : Int)) (show (size : Int) ≠ 0 by omega)
  have h2 := Int.emod_lt_of_pos ((x : Int) - (shift : Int)) (show (0 : Int) < size by omega)
  unfold bk; omega
def rowT (size kind shift x : Nat) : List Nat := (List.range size).map fun y => (prodN kind size (bk size shift x) (bk size shift y) + shift) % size
def mulT (size kind shift : Nat) : List (List Nat) := (List.range size).map (rowT size kind shift)
def mget (mul : List (List Nat)) (x y : Nat) : Nat := (mul.getD x []).getD y 0
/-- a reader's tables are fit for use, with n + 2 letters -/
structure RdOk (n e : Nat) (L : List Nat) (mul : List (List Nat)) : Prop where
  small : mul.length ≤ 3
  rows : ∀ r ∈ mul, r.length = mul.length
  L_len : L.length = n + 2
  L_lt : ∀ a ∈ L, a < mul.length
  e_lt : e < mul.length
  mul_lt : ∀ x, x < mul.length → ∀ y, y < mul.length → mget mul x y < mul.length
  unitl : ∀ x, x < mul.length → mget mul e x = x
  unitr : ∀ x, x < mul.length → mget mul x e = x
  assoc : ∀ x, x < mul.length → ∀ y, y < mul.length → ∀ z, z < mul.length → mget mul (mget mul x y) z = mget mul x (mget mul y z)
def tabOk (e : Nat) (mul : List (List Nat)) : Bool :=
  decide (e < mul.length) && (mul.all fun r => decide (r.length = mul.length)) && ((List.range mul.length).all fun x => decide (mget mul e x = x) && decide (mget mul x e = x) &&
    (List.range mul.length).all fun y => decide (mget mul x y < mul.length) && (List.range mul.length).all fun z => decide (mget mul (mget mul x y) z = mget mul x (mget mul y z)))
theorem RdOk.of {n e : Nat} {L : List Nat} {mul : List (List Nat)} (hs : mul.length ≤ 3) (hl : L.length = n + 2) (hL : ∀ a ∈ L, a < mul.length) (h : tabOk e mul = true) : RdOk n e L mul := by
  unfold tabOk at h
  simp only [Bool.and_eq_true, List.all_eq_true, decide_eq_true_eq, List.mem_range] at h
  obtain ⟨⟨h1, h2⟩, h3⟩ := h
  exact ⟨hs, h2, hl, hL, h1, fun x hx y hy => ((h3 x hx).2 y hy).1, fun x hx => (h3 x hx).1.1, fun x hx => (h3 x hx).1.2, fun x hx y hy z hz => ((h3 x hx).2 y hy).2 z hz⟩
theorem tab_all : ([1, 2, 3].all fun size => (List.range 4).all fun kind => (List.range size).all fun shift => tabOk shift (mulT size kind shift)) = true := by decide +kernel
theorem mulT_len (size kind shift : Nat) : (mulT size kind shift).length = size := by simp [mulT]
theorem RdOk.reader {n size kind shift : Nat} {L : List Nat} (h1 : 0 < size) (h2 : size ≤ 3) (hk : kind < 4) (hs : shift < size) (hl : L.length = n + 2) (hL : ∀ a ∈ L, a < size) : RdOk n shift L (mulT size kind shift) := by
  refine RdOk.of (by rw [mulT_len]; exact h2) hl (by rw [mulT_len]; exact hL) ?_
  have h := tab_all
  simp only [List.all_eq_true] at h
  exact h size (by simp; omega) kind (List.mem_range.mpr hk) shift (List.mem_range.mpr hs)
theorem RdOk.plain {n : Nat} : RdOk n 0 (List.replicate (n + 2) 0) [[0]] := RdOk.of (by decide) (by simp) (fun a ha => by
  have := List.eq_of_mem_replicate ha
  subst this; decide) (by decide +kernel)
/-- a machine over such tables is good -/
theorem good_of {n S e : Nat} {L : List Nat} {mul : List (List Nat)} {T : List Stp} (R : RdOk n e L mul) (hS : S ≤ 3) (hT : T.length ≤ 1000) (hq : ∀ t ∈ T, t.st.q < S) (hp : ∀ t ∈ T, t.st.pc.length ≤ 2) : (Mach.mk n S e L mul T).Good := by
  refine ⟨⟨R.e_lt, fun x y hx hy => R.mul_lt x hx y hy, fun a ha => ?_, R.unitl, R.unitr, fun x y z hx hy hz => R.assoc x hx y hy z hz, fun p u c v t ht => ?_⟩, R.L_len, R.rows, ⟨R.small, hS, hT⟩, hp⟩
  · have ha : a < L.length := by rw [R.L_len]; exact ha
    show L.getD a 0 < mul.length
    rw [List.getD_eq_getElem?_getD, List.getElem?_eq_getElem ha]
    exact R.L_lt _ (List.getElem_mem ha)
  · obtain ⟨t', h1, rfl, _⟩ := lookT_some ht
    exact hq t' h1
end K36
/-! _law_small_reader -/
namespace K36
open PySem PySem.Spec PyProof.Rows L2
abbrev rMod : R2 := rI (fun _ j => 0 < j) fun i j => .int (i % j)
abbrev rAdd : R2 := rI0 fun i j => .int (i + j)
abbrev rInt1 : List V → Hp → VK → Prop := fun xs H Q => (∃ i, xs = [.int i] ∧ Q (.int i) H) ∨ ∃ k, xs = [.bl k] ∧ Q (.int (if k then 1 else 0)) H
abbrev rTupOf (K : PySem.W.Frag) : List V → Hp → VK → Prop := fun xs H Q => ∃ p ys, xs = [.ref p] ∧ ((SqL K H p ys ∧ ∀ l, H l = none → Q (.ref l) (upd H l (.tup ys))) ∨ (SqT K H p ys ∧ Q (.ref p) H))
/-- a new list grows -/
structure Grow (H0 H : Hp) (D : Addr) (xs : List V) : Prop where
  same : Same H0 H
  at_ : H D = some (.lst xs)
theorem Grow.start {H0 : Hp} {D : Addr} (h : H0 D = none) : Grow H0 (upd H0 D (.lst [])) D [] := ⟨same_upd h, upd_same⟩
theorem Grow.step {H0 H H1 : Hp} {D : Addr} {xs : List V} {y : V} (h : Grow H0 H D xs) (hD : H0 D = none) (s : Same H H1) (hl : xs.length < 100000) :
    ∃ acc, H1 D = some (.lst acc) ∧ acc.length < sizeLine ∧ Grow H0 (upd H1 D (.lst (acc ++ [y]))) D (xs ++ [y]) :=
  ⟨xs, s _ _ h.at_, small_lt (by omega), fun b o e => by rw [upd_ne (ne_of_none e hD)]; exact s _ _ (h.same _ _ e), upd_same⟩
theorem Made.mono {α : Type} {H0 H H1 : Hp} {D : Addr} {f : α → List V} {zs : List α} (s : Same H H1) (h : Made H0 H D f zs) : Made H0 H1 D f zs := by
  obtain ⟨as, e, pr⟩ := h.ex
  exact ⟨h.same.trans s, as, s _ _ e, L2.Paired.mapP pr fun a z ea => s _ _ ea⟩
/-- the scope of a statement's outer comprehension: x = tuple([..]) -/
def lcScope (s : Stmt) : Scope := match s with
  | .Assign _ (.Call _ [.ListComp _ _ sc _] _ _) _ => sc
  | _ => { kind := .function, names := [], isGenerator := false, isCoroutine := false }
def scMul : Scope := relS (lcScope ((defBody sReader).getD 4 (.Pass ⟨0, 0, 0, 0⟩))) (defScope sReader)
/-- a small reader at l -/
structure RdAt (H : Hp) (l : Addr) (e : Nat) (Ls : List Nat) (mul : List (List Nat)) : Prop where
  ex : ∃ (al am : Addr) (rows : List Addr) (ac : V), H l = some (.tup [natV e, .ref al, .ref am, ac]) ∧ H al = some (.tup (Ls.map natV)) ∧ H am = some (.tup (rows.map V.ref)) ∧ Paired (fun r xs => H r = some (.tup (List.map natV xs))) rows mul
def spReader : Sp := fun vs H Q _ => ∃ (st c : Addr) (cnt : Nat), vs = [.ref st, natV cnt] ∧ StOk H st c ∧ cnt < 1000 ∧
  ∀ (l : Addr) (size kind shift : Nat) (Ls : List Nat) H', But st H H' → StOk H' st c → RdAt H' l shift Ls (mulT size kind shift) → 0 < size → size ≤ 3 → kind < 4 → shift < size → (∀ a ∈ Ls, a < size) → Ls.length = cnt → Q (.ref l) H'
abbrev NR : List Str := ["_law_state", "_law_count", "_law_size", "_law_kind", "_law_shift", "_law_back", "_law_mul", "_law_letters", "_law_accepted", "_law_x", "_law_y", "_law_k"]
theorem scReader : FnScope NR ["_law_state", "_law_count"] (defScope sReader) := ⟨rfl, rfl, rfl, by decide +kernel, rfl, by decide +kernel, by decide +kernel⟩
abbrev teDr (i : Nat) : TE := tCall spDraw [] E0 (tCons (tVar 0) (tCons (tVar i) tNil))
abbrev teRow (K : PySem.W.Frag) : TE := tOp rMod (tCB rInt1 (tCons (tOp rAdd (tCall spProduct [] E0 (tCons (tVar 3) (tCons (tVar 2) (tCons (tOp (rIxL K) (tVar 5) (tVar 9)) (tCons (tOp (rIxL K) (tVar 5) (tVar 10)) tNil))))) (tVar 4)) tNil)) (tVar 2)
section
variable {P : Program} {w : World} {K : PySem.W.Frag} {mg : Str → Option Value} {base : Heap}
theorem ok_reader {f fD fP : Addr} {fd fdD fdP : FuncData} (F : Fun K "_law_small_reader" "_law_small_reader" sReader f fd) (T : Free mg)
    (FD : Fun K "_law_draw" "_law_draw" sDraw fD fdD) (bD : Binds K fdD ["_law_state", "_law_limit"] []) (gD : mg "_law_draw" = some (.ref fD))
    (FP : Fun K "_law_product" "_law_product" sProduct fP fdP) (bP : Binds K fdP ["_law_kind", "_law_count", "_law_x", "_law_y"] []) (gP : mg "_law_product" = some (.ref fP)) :
    FnOk P w K mg base CX0 2 f fd ["_law_state", "_law_count"] spReader := by
  have GD : FnOk P w K mg base CX0 1 fD fdD ["_law_state", "_law_limit"] spDraw := ok_draw FD T
  have GP : FnOk P w K mg base CX0 1 fP fdP ["_law_kind", "_law_count", "_law_x", "_law_y"] spProduct := ok_product FP T
  refine F.ok scReader (fun vs H Q E h => ?_) (fun cdv A outer s H vs Q E hr h => ?_)
  · obtain ⟨st, c, cnt, rfl, _⟩ := h
    rfl
  · obtain ⟨st, c, cnt, rfl, hS, l1, k⟩ := h
    refine ⟨_, C8.pss_cut (ps_set (i := 2) scReader.nd rfl (Or.inr rfl) (pe_op op_add pe_int (pe_call GD hr rfl gD FD.kp bD .nil pass0 (pa_cons (pv 0) (pa_cons pe_int pa_nil)))))
      (pss_cons (ps_set (i := 3) scReader.nd rfl (Or.inr rfl) (pe_call GD hr rfl gD FD.kp bD .nil pass0 (pa_cons (pv 0) (pa_cons pe_int pa_nil))))
      (pss_cons (ps_set (i := 4) scReader.nd rfl (Or.inr rfl) (pe_call GD hr rfl gD FD.kp bD .nil pass0 (pa_cons (pv 0) (pa_cons (pv 2) pa_nil))))
      (pss_cons (ps_set (i := 5) scReader.nd rfl (Or.inr rfl) (pe_lc (own := [("_law_x", 9)]) (g := gName 9) (tt := tYes) (te := tOp rMod (tCB rInt1 (tCons (tOp (rI0 fun i j => .int (i - j)) (tVar 9) (tVar 4)) tNil)) (tVar 2)) rfl scReader.nd
          (pi_range1 rfl T.range (pa_cons (pv 2) pa_nil)) (blkOk_by (N := NR) (sc := defScope sReader) (by decide +kernel))
          (fun _ _ _ _ _ => pg_name (i := 9) scReader.nd rfl (Or.inl rfl)) (fun _ _ _ _ _ => pts_nil)
          (fun _ _ _ _ _ => pe_op op_mod (pe_callTy call_int1 (by rfl) T.int (by decide +kernel) (pa_cons (pe_op op_sub (pv 9) (pv 4)) pa_nil)) (pv 2))))
      (C8.pss_cut (ps_set (i := 6) scReader.nd rfl (Or.inl rfl) (pe_callTy call_tuple_of (by rfl) T.tuple (by decide +kernel) (pa_cons (pe_lc (own := [("_law_x", 9)]) (g := gName 9) (tt := tYes)
            (te := tCB (rTupOf K) (tCons (tLc (iRng1 (tCons (tVar 2) tNil)) (gName 10) tYes (teRow K) [10]) tNil)) rfl scReader.nd
          (pi_range1 rfl T.range (pa_cons (pv 2) pa_nil)) (blkOk_by (N := NR) (sc := defScope sReader) (by decide +kernel))
          (fun _ _ _ _ _ => pg_name (i := 9) scReader.nd rfl (Or.inr rfl)) (fun _ _ _ _ _ => pts_nil)
          (fun _ _ _ _ _ => pe_callTy call_tuple_of (by rfl) T.tuple (by decide +kernel) (pa_cons (pe_lc (own := [("_law_y", 10)]) (g := gName 10) (tt := tYes) (te := teRow K) rfl scReader.nd
            (pi_range1 rfl T.range (pa_cons (pv 2) pa_nil)) (blkOk_by (N := NR) (sc := scMul) (by decide +kernel))
            (fun _ _ _ _ _ => pg_name (i := 10) scReader.nd rfl (Or.inl rfl)) (fun _ _ _ _ _ => pts_nil)
            (fun _ _ _ _ _ => pe_op op_mod (pe_callTy call_int1 (by rfl) T.int (by decide +kernel) (pa_cons (pe_op op_add (pe_call GP hr rfl gP FP.kp bP .nil pass0 (pa_cons (pv 3) (pa_cons (pv 2) (pa_cons (pe_ix ix_list (pv 5) (pv 9) (fun _ _ => rfl)) (pa_cons (pe_ix ix_list (pv 5) (pv 10) (fun _ _ => rfl)) pa_nil))))) (pv 4)) pa_nil)) (pv 2))) pa_nil))) pa_nil)))
      (C8.pss_cut (ps_set (i := 7) scReader.nd rfl (Or.inl rfl) (pe_callTy call_tuple_of (by rfl) T.tuple (by decide +kernel) (pa_cons (pe_lc (own := [("_law_k", 11)]) (g := gName 11) (tt := tYes) (te := teDr 2) rfl scReader.nd
          (pi_range1 rfl T.range (pa_cons (pv 1) pa_nil)) (blkOk_by (N := NR) (sc := defScope sReader) (by decide +kernel))
          (fun _ _ _ _ _ => pg_name (i := 11) scReader.nd rfl (Or.inl rfl)) (fun _ _ _ _ _ => pts_nil)
          (fun _ _ _ _ _ => pe_call GD hr rfl gD FD.kp bD .nil pass0 (pa_cons (pv 0) (pa_cons (pv 2) pa_nil)))) pa_nil)))
      (C8.pss_cut (ps_set (i := 8) scReader.nd rfl (Or.inl rfl) (pe_callTy call_tuple_of (by rfl) T.tuple (by decide +kernel) (pa_cons (pe_lc (own := [("_law_x", 9)]) (g := gName 9)
          (tt := tTest (tOp rEq (tCall spDraw [] E0 (tCons (tVar 0) (tCons (tC (.int 2)) tNil))) (tC (.int 1)))) (te := tVar 9) rfl scReader.nd
          (pi_range1 rfl T.range (pa_cons (pv 2) pa_nil)) (blkOk_by (N := NR) (sc := defScope sReader) (by decide +kernel))
          (fun _ _ _ _ _ => pg_name (i := 9) scReader.nd rfl (Or.inl rfl)) (fun _ _ _ _ _ => pts_one (pt_cmpR op_eq (pe_call GD hr rfl gD FD.kp bD .nil pass0 (pa_cons (pv 0) (pa_cons pe_int pa_nil))) pe_int (nomark _)))
          (fun _ _ _ _ _ => pv 9)) pa_nil)))
      (pss_one (ps_ret (pe_tup (pa_cons (pv 4) (pa_cons (pv 7) (pa_cons (pv 6) (pa_cons (pv 8) pa_nil))))))))))))), ?_⟩
    -- size
    refine ⟨fun σ H' => ∃ size : Nat, σ = [some (.ref st), some (natV cnt), some (natV size), none, none, none, none, none, none, none, none, none] ∧ 0 < size ∧ size ≤ 3 ∧ But st H H' ∧ StOk H' st c, ?_, fun σ H1 hM => ?_⟩
    · refine ⟨_, rfl, st, c, 3, rfl, hS, by decide, by decide, fun r H1 hr1 bt ok => ?_⟩
      refine ⟨1, (r : Int), rfl, rfl, r + 1, ?_, by omega, by omega, bt, ok⟩
      have e : (1 : Int) + (r : Int) = ((r + 1 : Nat) : Int) := by omega
      dsimp only
      rw [e]
      rfl
    obtain ⟨size, rfl, s0, s3, b1, ok1⟩ := hM
    -- kind
    refine ⟨_, rfl, st, c, 4, rfl, ok1, by decide, by decide, fun kind H2 hk b2 ok2 => ?_⟩
    refine ⟨_, rfl, _, rfl, st, c, size, rfl, ok2, s0, by omega, fun shift H3 hsh b3 ok3 => ?_⟩
    -- back
    refine ⟨_, rfl, size, rfl, by omega, by omega, fun D nD => ?_⟩
    rw [Int.toNat_natCast]
    refine lc_range (fun i H' => Grow H3 H' D ((List.range i).map fun x => natV (bk size shift x))) (Grow.start nD) (fun i H' hi pm => ?_) fun H4 pm => ?_
    · refine ⟨rfl, _, rfl, _, rfl, (i : Int), (shift : Int), (by rw [Int.zero_add]), rfl, .inl ⟨_, rfl, _, rfl, _, (size : Int), rfl, rfl, (by omega), ?_⟩⟩
      dsimp only
      rw [bk_eq s0]
      have := Grow.step (y := natV (bk size shift i)) pm nD (Same.refl _) (by rw [List.length_map, List.length_range]; omega)
      rw [List.range_succ, List.map_append]
      exact this
    have eD := pm.at_
    have b4 : But st H H4 := ((b1.trans b2).trans b3).trans (.of pm.same)
    have ok4 : StOk H4 st c := ok3.same pm.same
    have bx : ∀ x, x < size → atI ((List.range size).map fun x => natV (bk size shift x)) (x : Int) = some (natV (bk size shift x)) := fun x hx => atI_nat (by rw [List.getElem?_map, List.getElem?_range hx]; rfl)
    -- mul
    refine ⟨fun σ H' => ∃ (am : Addr) (rows : List Addr), σ = [some (.ref st), some (natV cnt), some (natV size), some (natV kind), some (natV shift), some (.ref D), some (.ref am), none, none, none, none, none] ∧ But st H H' ∧ StOk H' st c ∧
      H' am = some (.tup (rows.map V.ref)) ∧ Paired (fun r xs => H' r = some (.tup (List.map natV xs))) rows (mulT size kind shift), ?_, fun σ H5 hM => ?_⟩
    · refine ⟨_, rfl, size, rfl, by omega, by omega, fun D2 nD2 => ?_⟩
      rw [Int.toNat_natCast]
      refine lc_range (fun i H' => Made H4 H' D2 (fun xs => List.map natV xs) ((List.range i).map (rowT size kind shift))) (Made.start nD2) (fun i H' hi pm2 => ?_) fun H5 pm2 => ?_
      · refine ⟨rfl, _, rfl, size, rfl, by omega, by omega, fun D3 nD3 => ?_⟩
        rw [Int.toNat_natCast]
        refine lc_range (fun j H'' => Grow H' H'' D3 (((List.range j).map fun y => (prodN kind size (bk size shift i) (bk size shift y) + shift) % size).map natV)) (Grow.start nD3) (fun j H'' hj pm3 => ?_) fun H6 pm3 => ?_
        · have eD' : H'' D = some (.lst _) := pm3.same _ _ (pm2.same _ _ eD)
          refine ⟨rfl, _, rfl, _, rfl, _, rfl, _, rfl, D, _, (i : Int), _, rfl, (by rw [Int.zero_add]), .of eD', bx i hi, _, rfl, _, rfl, D, _, (j : Int), _, rfl, (by rw [Int.zero_add]), .of eD', bx j hj, kind, size, _, _, rfl, s0, ?_⟩
          refine ⟨_, rfl, _, (shift : Int), rfl, rfl, .inl ⟨_, rfl, _, rfl, _, (size : Int), rfl, rfl, (by omega), ?_⟩⟩
          have e : ((prodN kind size (bk size shift i) (bk size shift j) : Nat) : Int) + (shift : Int) = ((prodN kind size (bk size shift i) (bk size shift j) + shift : Nat) : Int) := by omega
          dsimp only
          rw [e, ← Int.natCast_emod]
          have := Grow.step (y := natV ((prodN kind size (bk size shift i) (bk size shift j) + shift) % size)) pm3 nD3 (Same.refl _) (by rw [List.length_map, List.length_map, List.length_range]; omega)
          rw [List.range_succ, List.map_append, List.map_append]
          exact this
        · refine ⟨D3, _, rfl, .inl ⟨.of pm3.at_, fun p np => ?_⟩⟩
          have := Made.step (z := rowT size kind shift i) (pm2.mono pm3.same) nD2 np (by rw [List.length_map, List.length_range]; omega)
          rw [List.range_succ, List.map_append]
          exact this
      · obtain ⟨rows, e1, pr⟩ := pm2.ex
        refine ⟨D2, _, rfl, .inl ⟨.of e1, fun p np => ⟨p, rows, rfl, (b4.trans (.of pm2.same)).trans (.of (same_upd np)), (ok4.same pm2.same).same (same_upd np), upd_same, ?_⟩⟩⟩
        exact L2.Paired.mapP pr fun a z ea => same_upd np _ _ ea
    -- letters
    obtain ⟨am, rows, rfl, b5, ok5, eam, pr⟩ := hM
    refine ⟨fun σ H' => ∃ (al : Addr) (Ls : List Nat), σ = [some (.ref st), some (natV cnt), some (natV size), some (natV kind), some (natV shift), some (.ref D), some (.ref am), some (.ref al), none, none, none, none] ∧ But st H5 H' ∧ StOk H' st c ∧
      H' al = some (.tup (Ls.map natV)) ∧ (∀ a ∈ Ls, a < size) ∧ Ls.length = cnt, ?_, fun σ H6 hM => ?_⟩
    · refine ⟨_, rfl, cnt, rfl, by omega, by omega, fun D4 nD4 => ?_⟩
      rw [Int.toNat_natCast]
      refine lc_range (fun i H' => Drawn' H5 H' st c D4 size i) (Drawn'.start nD4 ok5) (fun i H' hi pm => ?_) fun H' pm => ?_
      · exact ⟨rfl, _, rfl, _, rfl, st, c, size, rfl, pm.ok, s0, by omega, fun d H2 hd b2 ok2 => pm.step nD4 ok5 hd b2 ok2 (by omega)⟩
      · obtain ⟨row, e, el, ea⟩ := pm.ex
        exact ⟨D4, _, rfl, .inl ⟨.of e, fun p np => ⟨p, row, rfl, pm.but.trans (.of (same_upd np)), pm.ok.same (same_upd np), upd_same, ea, el⟩⟩⟩
    -- accepted
    obtain ⟨al, Ls, rfl, b6, ok6, eal, hL, hLl⟩ := hM
    refine ⟨fun σ H' => ∃ (ac : Addr), σ = [some (.ref st), some (natV cnt), some (natV size), some (natV kind), some (natV shift), some (.ref D), some (.ref am), some (.ref al), some (.ref ac), none, none, none] ∧ But st H6 H' ∧ StOk H' st c, ?_, fun σ H7 hM => ?_⟩
    · refine ⟨_, rfl, size, rfl, by omega, by omega, fun D5 nD5 => ?_⟩
      rw [Int.toNat_natCast]
      have q := ok6.st_ne nD5
      refine lc_range (fun i H' => But st H6 H' ∧ StOk H' st c ∧ ∃ xs : List V, H' D5 = some (.lst xs) ∧ xs.length ≤ i) ⟨.of (same_upd nD5), ok6.same (same_upd nD5), [], upd_same, Nat.le_refl _⟩ (fun i H' hi ⟨pb, po, xs, px, pl⟩ => ?_) fun H' ⟨pb, po, xs, px, pl⟩ => ?_
      · refine ⟨rfl, _, rfl, st, c, 2, rfl, po, by decide, by decide, fun d H2 hd b2 ok2 => ⟨rfl, _, rfl, ?_⟩⟩
        have px2 := b2 _ _ px q.1
        cases decide (natV d = V.int 1) with
        | true =>
          refine iteT ⟨_, rfl, xs, px2, small_lt (by omega), fun b o eb hb => ?_, ok2.write q.1 q.2, xs ++ [_], upd_same, by rw [List.length_append, List.length_singleton]; omega⟩
          rw [upd_ne (ne_of_none eb nD5)]
          exact b2 _ _ (pb _ _ eb hb) hb
        | false => exact iteF ⟨pb.trans b2, ok2, xs, px2, by omega⟩
      · exact ⟨D5, _, rfl, .inl ⟨.of px, fun p np => ⟨p, rfl, pb.trans (.of (same_upd np)), po.same (same_upd np)⟩⟩⟩
    -- the tuple
    obtain ⟨ac, rfl, b7, ok7⟩ := hM
    refine ⟨_, rfl, _, rfl, _, rfl, _, rfl, small_le (by show 4 ≤ 100000; decide), fun p np => ?_⟩
    have tk : TK H5 (upd H7 p (.tup [natV shift, .ref al, .ref am, .ref ac])) := ((b6.tk ok5).trans (b7.tk ok6)).trans (tk_upd np)
    refine k p size kind shift Ls _ (((b5.trans b6).trans b7).trans (.of (same_upd np))) (ok7.same (same_upd np)) ⟨al, am, rows, .ref ac, upd_same, ((b7.tk ok6).trans (tk_upd np)) _ _ eal, tk _ _ eam, L2.Paired.mapP pr fun a z ea => tk _ _ ea⟩ s0 s3 hk hsh hL hLl
end
end K36
/-! _law_machine -/
namespace K36
open PySem PySem.Spec PyProof.Rows L2
abbrev rLen (K : PySem.W.Frag) : List V → Hp → VK → Prop := fun xs H Q => ∃ p ys, xs = [.ref p] ∧ (SqL K H p ys ∨ SqT K H p ys) ∧ Q (.int ys.length) H
theorem for_rng0 {n : Nat} {g : TG} {tb : TS} {D : Ends} {σ : L2.St} {H : Hp} (Pv : Nat → L2.St → Hp → Prop) (h0 : Pv 0 σ H)
    (hs : ∀ i σ H, i < n → Pv i σ H → g (natV i) σ H fun σ2 H2 => tb { D with nx := Pv (i + 1), ct := Pv (i + 1), bk := D.nx } σ2 H2) (hd : ∀ σ H, Pv n σ H → D.nx σ H) :
    ∃ W : Nat → Nat → L2.St → Hp → Prop, (∃ m, W 0 m σ H) ∧ ∀ i m σ H, W i m σ H →
      ((Itr 0 n).stop i H ∧ D.nx σ H) ∨ ((Itr 0 n).go i H ∧ ∃ N : L2.St → Hp → Prop, (∀ σ' H', N σ' H' → ∃ m', m' < m ∧ W (i + 1) m' σ' H') ∧ ∀ x H', (Itr 0 n).yld i H x H' → g x σ H' fun σ2 H2 => tb { D with nx := N, ct := N, bk := D.nx } σ2 H2) :=
  for_range (lo := 0) Pv h0 (fun i σ H hi p => by rw [Int.zero_add]; exact hs i σ H hi p) hd
def mvO : Option Mv → Str
  | none => "none"
  | some m => mvS m
/-- the list of steps, at most N of them -/
structure SM (H0 H : Hp) (st c D : Addr) (S N : Nat) : Prop where
  but : But st H0 H
  ok : StOk H st c
  ex : ∃ (ss : List Addr) (T : List Stp), H D = some (.lst (ss.map V.ref)) ∧ Paired (fun s t => StAt H s t) ss T ∧ T.length ≤ N ∧ (∀ t ∈ T, t.st.q < S) ∧ ∀ t ∈ T, t.st.pc.length ≤ 2
theorem SM.le {H0 H : Hp} {st c D : Addr} {S N N' : Nat} (h : SM H0 H st c D S N) (e : N ≤ N') : SM H0 H st c D S N' := by
  obtain ⟨ss, T, h1, h2, h3, h4, h5⟩ := h.ex
  exact ⟨h.but, h.ok, ss, T, h1, h2, Nat.le_trans h3 e, h4, h5⟩
theorem SM.go {H0 H H1 : Hp} {st c D : Addr} {S N : Nat} (h : SM H0 H st c D S N) (hD : D ≠ st) (b : But st H H1) (o : StOk H1 st c) : SM H0 H1 st c D S N := by
  obtain ⟨ss, T, h1, h2, h3, h4, h5⟩ := h.ex
  exact ⟨h.but.trans b, o, ss, T, b _ _ h1 hD, L2.Paired.mapP h2 fun s t e => e.mono (b.tk h.ok), h3, h4, h5⟩
theorem SM.same {H0 H H1 : Hp} {st c D : Addr} {S N : Nat} (h : SM H0 H st c D S N) (s : Same H H1) : SM H0 H1 st c D S N := by
  obtain ⟨ss, T, h1, h2, h3, h4, h5⟩ := h.ex
  exact ⟨h.but.trans (.of s), h.ok.same s, ss, T, s _ _ h1, L2.Paired.mapP h2 fun a t e => e.mono (TK.of s), h3, h4, h5⟩
theorem SM.app {H0 H : Hp} {st c D a : Addr} {S N : Nat} {t : Stp} (h : SM H0 H st c D S N) (hD : H0 D = none) (n1 : D ≠ st) (n2 : D ≠ c) (ha : StAt H a t) (hq : t.st.q < S) (hp : t.st.pc.length ≤ 2) (hN : N < 1000) :
    ∃ xs, H D = some (.lst xs) ∧ xs.length < sizeLine ∧ SM H0 (upd H D (.lst (xs ++ [.ref a]))) st c D S (N + 1) := by
  obtain ⟨ss, T, h1, h2, h3, h4, h5⟩ := h.ex
  have tk : TK H (upd H D (.lst (ss.map V.ref ++ [.ref a]))) := tk_write h1 (fun xs z => by cases z)
  refine ⟨_, h1, small_lt (by rw [List.length_map, Paired.length h2]; omega), fun b o e hb => ?_, h.ok.write n1 n2, ss ++ [a], T ++ [t], by rw [upd_same]; simp, ?_, by simp; omega, fun t' ht => ?_, fun t' ht => ?_⟩
  · rw [upd_ne (ne_of_none e hD)]
    exact h.but _ _ e hb
  · exact pairs_snoc (ha.mono tk) (L2.Paired.mapP h2 fun s t e => e.mono tk)
  · rcases List.mem_append.mp ht with ht | ht
    · exact h4 _ ht
    · obtain rfl := List.mem_singleton.mp ht
      exact hq
  · rcases List.mem_append.mp ht with ht | ht
    · exact h5 _ ht
    · obtain rfl := List.mem_singleton.mp ht
      exact hp
theorem SM.write2 {H0 Hr H : Hp} {st c D D2 : Addr} {S N N' : Nat} {xs ys : List V} (hr : SM H0 Hr st c D S N') (n : Hr D2 = none) (h : SM H0 H st c D S N) (e : H D2 = some (.lst xs)) : SM H0 (upd H D2 (.lst ys)) st c D S N := by
  obtain ⟨ss, T, h1, h2, h3, h4, h5⟩ := h.ex
  obtain ⟨ssr, Tr, r1, _⟩ := hr.ex
  have q := hr.ok.st_ne n
  have tk : TK H (upd H D2 (.lst ys)) := tk_write e (fun xs z => by cases z)
  refine ⟨fun b o eb hb => ?_, h.ok.write q.1 q.2, ss, T, by rw [upd_ne (ne_of_none r1 n)]; exact h1, L2.Paired.mapP h2 fun s t e => e.mono tk, h3, h4, h5⟩
  rw [upd_ne (ne_of_none (hr.but _ _ eb hb) n)]
  exact h.but _ _ eb hb
abbrev NM : List Str := ["_law_state", "_law_most", "_law_looks", "_law_letters", "_law_states", "_law_look", "_law_width", "_law_outs", "_law_many", "_law_steps", "_law_p", "_law_u", "_law_letter", "_law_v", "_law_choice", "_law_move", "_law_piece", "_law_k"]
abbrev SMs (st : Addr) (n S : Nat) (lk : Addr) (wd : Nat) (ov : Addr) (mn : Nat) (D : Addr) (x10 x11 x12 x13 x14 x15 x16 : Option V) : L2.St :=
  [some (.ref st), some (.int 2), some (.int 2), some (natV n), some (natV S), some (.ref lk), some (natV wd), some (.ref ov), some (natV mn), some (.ref D), x10, x11, x12, x13, x14, x15, x16, none]
theorem scMachine : FnScope NM ["_law_state", "_law_most", "_law_looks"] (defScope sMachine) := ⟨rfl, rfl, rfl, by decide +kernel, rfl, by decide +kernel, by decide +kernel⟩
def spMachine : Sp := fun vs H Q _ => ∃ (st c : Addr), vs = [.ref st, .int 2, .int 2] ∧ StOk H st c ∧ ∀ (m : Addr) (M : Mach) H', But st H H' → StOk H' st c → MachAt H' m M → M.Good → M.n ≤ 3 → Q (.ref m) H'
theorem mv9 {r : Nat} (h : r < 9) : ∃ o : Option Mv, ([.str "right", .str "right", .str "left", .str "stop", .str "right", .str "left", .str "stop", .str "right", .str "none"] : List V)[r]? = some (.str (mvO o)) := by
  match r, h with
  | 0, _ => exact ⟨some .right, rfl⟩
  | 1, _ => exact ⟨some .right, rfl⟩
  | 2, _ => exact ⟨some .left, rfl⟩
  | 3, _ => exact ⟨some .stop, rfl⟩
  | 4, _ => exact ⟨some .right, rfl⟩
  | 5, _ => exact ⟨some .left, rfl⟩
  | 6, _ => exact ⟨some .stop, rfl⟩
  | 7, _ => exact ⟨some .right, rfl⟩
  | 8, _ => exact ⟨none, rfl⟩
theorem mv2 {r : Nat} (h : r < 2) : ∃ o : Option Mv, ([.str "stop", .str "left"] : List V)[r]? = some (.str (mvO o)) := by
  match r, h with
  | 0, _ => exact ⟨some .stop, rfl⟩
  | 1, _ => exact ⟨some .left, rfl⟩
abbrev tePc (K : PySem.W.Frag) : TE := tOp (rIxT K) (tVar 7) (tCall spDraw [] E0 (tCons (tVar 0) (tCons (tCB (rLen K) (tCons (tVar 7) tNil)) tNil)))
section
variable {P : Program} {w : World} {K : PySem.W.Frag} {mg : Str → Option Value} {base : Heap}
theorem ok_machine {f fD fP fR : Addr} {fd fdD fdP fdR : FuncData} (F : Fun K "_law_machine" "_law_machine" sMachine f fd) (T : Free mg)
    (FD : Fun K "_law_draw" "_law_draw" sDraw fD fdD) (bD : Binds K fdD ["_law_state", "_law_limit"] []) (gD : mg "_law_draw" = some (.ref fD))
    (FP : Fun K "_law_product" "_law_product" sProduct fP fdP) (bP : Binds K fdP ["_law_kind", "_law_count", "_law_x", "_law_y"] []) (gP : mg "_law_product" = some (.ref fP))
    (FR : Fun K "_law_small_reader" "_law_small_reader" sReader fR fdR) (bR : Binds K fdR ["_law_state", "_law_count"] []) (gR : mg "_law_small_reader" = some (.ref fR)) :
    FnOk P w K mg base CX0 3 f fd ["_law_state", "_law_most", "_law_looks"] spMachine := by
  have GD : FnOk P w K mg base CX0 1 fD fdD ["_law_state", "_law_limit"] spDraw := ok_draw FD T
  have GR : FnOk P w K mg base CX0 2 fR fdR ["_law_state", "_law_count"] spReader := ok_reader FR T FD bD gD FP bP gP
  refine F.ok scMachine (fun vs H Q E h => ?_) (fun cdv A outer s H vs Q E hr h => ?_)
  · obtain ⟨st, c, rfl, _⟩ := h
    rfl
  · obtain ⟨st, c, rfl, hS, k⟩ := h
    have hr1 : Room 1 _ := hr.mono (by decide)
    refine ⟨_, C8.pss_cut (ps_set (i := 3) scMachine.nd rfl (Or.inl rfl) (pe_op op_add pe_int (pe_call GD hr1 rfl gD FD.kp bD .nil pass0 (pa_cons (pv 0) (pa_cons pe_int pa_nil)))))
      (C8.pss_cut (ps_set (i := 4) scMachine.nd rfl (Or.inl rfl) (pe_op op_add pe_int (pe_call GD hr1 rfl gD FD.kp bD .nil pass0 (pa_cons (pv 0) (pa_cons (pv 1) pa_nil)))))
      (C8.pss_cut (ps_set (i := 5) scMachine.nd rfl (Or.inl rfl) (pe_call GR hr rfl gR FR.kp bR .nil pass0 (pa_cons (pv 0) (pa_cons (pe_op op_add (pv 3) pe_int) pa_nil))))
      (C8.pss_cut (ps_if (PW.pt (pw_or (pt_cmpR op_eq (pv 2) pe_int (nomark _)) (pw_or1 (pt_cmpR op_eq (pe_call GD hr1 rfl gD FD.kp bD .nil pass0 (pa_cons (pv 0) (pa_cons pe_int pa_nil))) pe_int (nomark _)))))
          (pss_one (ps_set (i := 5) scMachine.nd rfl (Or.inl rfl) (pe_tup (pa_cons pe_int (pa_cons (pe_callTy call_tuple_of (by rfl) T.tuple (by decide +kernel) (pa_cons (pe_op op_rep (pe_lst (pa_cons pe_int pa_nil)) (pe_op op_add (pv 3) pe_int)) pa_nil))
            (pa_cons (pe_tup (pa_cons (pe_tup (pa_cons pe_int pa_nil)) pa_nil)) (pa_cons (pe_tup pa_nil) pa_nil))))))) pss_nil)
      (C8.pss_cut (ps_set (i := 5) scMachine.nd rfl (Or.inl rfl) (pe_op op_catT (pe_slice sl_tup (pv 5) po_none (po_some pe_int)) (pe_tup (pa_cons (pe_tup pa_nil) pa_nil))))
      (pss_cons (ps_set (i := 6) scMachine.nd rfl (Or.inl rfl) (pe_call GD hr1 rfl gD FD.kp bD .nil pass0 (pa_cons (pv 0) (pa_cons pe_int pa_nil))))
      (C8.pss_cut (ps_set (i := 7) scMachine.nd rfl (Or.inr rfl) (pe_ix ix_list (pe_lst (pa_cons (pe_tup (pa_cons pe_int pa_nil)) (pa_cons (pe_tup (pa_cons pe_int (pa_cons pe_int pa_nil))) (pa_cons (pe_tup (pa_cons pe_int (pa_cons pe_int pa_nil))) (pa_cons (pe_tup (pa_cons pe_int pa_nil)) pa_nil)))))
          (pe_call GD hr1 rfl gD FD.kp bD .nil pass0 (pa_cons (pv 0) (pa_cons pe_int pa_nil))) (fun _ _ => rfl)))
      (C8.pss_cut (ps_set (i := 8) scMachine.nd rfl (Or.inl rfl) (pe_callB call_len_seq (by rfl) T.len PySem.boot_len (pa_cons (pe_ix ix_tup (pv 5) pe_int (fun _ _ => rfl)) pa_nil)))
      (pss_cons (ps_set (i := 9) scMachine.nd rfl (Or.inl rfl) (pe_lst pa_nil))
      (C8.pss_cut (ps_for PassesOwn.never rfl (pi_range1 rfl T.range (pa_cons (pv 4) pa_nil)) (pg_name (i := 10) scMachine.nd rfl (Or.inl rfl))
        (pss_one (ps_for PassesOwn.never rfl (pi_range1 rfl T.range (pa_cons (pv 8) pa_nil)) (pg_name (i := 11) scMachine.nd rfl (Or.inl rfl))
        (pss_one (ps_for PassesOwn.never rfl (pi_range1 rfl T.range (pa_cons (pe_op op_add (pv 3) pe_int) pa_nil)) (pg_name (i := 12) scMachine.nd rfl (Or.inl rfl))
        (pss_one (ps_for PassesOwn.never rfl (pi_range1 rfl T.range (pa_cons (pv 8) pa_nil)) (pg_name (i := 13) scMachine.nd rfl (Or.inl rfl))
        (pss_cons (ps_set (i := 14) scMachine.nd rfl (Or.inl rfl) (pe_call GD hr1 rfl gD FD.kp bD .nil pass0 (pa_cons (pv 0) (pa_cons pe_int pa_nil))))
        (C8.pss_cut (ps_set (i := 15) scMachine.nd rfl (Or.inl rfl) (pe_ix ix_list (pe_lst (pa_cons pe_str (pa_cons pe_str (pa_cons pe_str (pa_cons pe_str (pa_cons pe_str (pa_cons pe_str (pa_cons pe_str (pa_cons pe_str (pa_cons pe_str pa_nil)))))))))) (pv 14) (fun _ _ => rfl)))
        (C8.pss_cut (ps_if (PW.pt (pw_and (pt_cmpR op_eq (pv 12) pe_int (nomark _)) (pw_and1 (pt_cmpR op_eq (pv 15) pe_str (nomark _)))))
            (pss_one (ps_set (i := 15) scMachine.nd rfl (Or.inl rfl) (pe_ix ix_list (pe_lst (pa_cons pe_str (pa_cons pe_str pa_nil))) (pe_call GD hr1 rfl gD FD.kp bD .nil pass0 (pa_cons (pv 0) (pa_cons pe_int pa_nil))) (fun _ _ => rfl)))) pss_nil)
        (C8.pss_cut (ps_set (i := 16) scMachine.nd rfl (Or.inl rfl) (pe_callTy call_tuple_of (by rfl) T.tuple (by decide +kernel) (pa_cons (pe_lc (own := [("_law_k", 17)]) (g := gName 17) (tt := tYes) (te := tePc K) rfl scMachine.nd
            (pi_range1 rfl T.range (pa_cons (pe_call GD hr1 rfl gD FD.kp bD .nil pass0 (pa_cons (pv 0) (pa_cons (pe_op op_add (pv 6) pe_int) pa_nil))) pa_nil)) (blkOk_by (N := NM) (sc := defScope sMachine) (by decide +kernel))
            (fun _ _ _ _ _ => pg_name (i := 17) scMachine.nd rfl (Or.inl rfl)) (fun _ _ _ _ _ => pts_nil)
            (fun _ _ _ _ _ => pe_ix ix_tup (pv 7) (pe_call GD hr1 rfl gD FD.kp bD .nil pass0 (pa_cons (pv 0) (pa_cons (pe_callB call_len_seq (by rfl) T.len PySem.boot_len (pa_cons (pv 7) pa_nil)) pa_nil))) (fun _ _ => rfl))) pa_nil)))
        (pss_one (ps_if (pt_cmpR op_ne (pv 15) pe_str (nomark _))
            (pss_one (ps_expr (pe_bm PySem.F.plainAttrs_list PySem.F.slot_list_append PySem.F.type_list_append mt_append (pv 9) (pa_cons (pe_tup (pa_cons (pv 10) (pa_cons (pv 11) (pa_cons (pv 12) (pa_cons (pv 13) (pa_cons (pv 15)
              (pa_cons (pe_call GD hr1 rfl gD FD.kp bD .nil pass0 (pa_cons (pv 0) (pa_cons (pv 4) pa_nil))) (pa_cons (pv 16) pa_nil)))))))) pa_nil)))) pss_nil)))))))))))))
      (pss_one (ps_ret (pe_tup (pa_cons (pv 3) (pa_cons (pv 4) (pa_cons (pv 5) (pa_cons (pv 6) (pa_cons (pv 7) (pa_cons (pe_callTy call_tuple_of (by rfl) T.tuple (by decide +kernel) (pa_cons (pv 9) pa_nil)) pa_nil)))))))))))))))))), ?_⟩
    -- letters
    refine ⟨fun σ H' => ∃ n : Nat, σ = [some (.ref st), some (.int 2), some (.int 2), some (natV n), none, none, none, none, none, none, none, none, none, none, none, none, none, none] ∧ n ≤ 3 ∧ But st H H' ∧ StOk H' st c, ?_, fun σ H1 hM => ?_⟩
    · refine ⟨_, rfl, st, c, 3, rfl, hS, by decide, by decide, fun r H1 hr1 bt ok => ?_⟩
      refine ⟨1, (r : Int), rfl, rfl, r + 1, ?_, by omega, bt, ok⟩
      have e : (1 : Int) + (r : Int) = ((r + 1 : Nat) : Int) := by omega
      dsimp only
      rw [e]
      rfl
    obtain ⟨n, rfl, n3, b1, ok1⟩ := hM
    -- states
    refine ⟨fun σ H' => ∃ S : Nat, σ = [some (.ref st), some (.int 2), some (.int 2), some (natV n), some (natV S), none, none, none, none, none, none, none, none, none, none, none, none, none] ∧ 0 < S ∧ S ≤ 2 ∧ But st H H' ∧ StOk H' st c, ?_, fun σ H2 hM => ?_⟩
    · refine ⟨_, rfl, _, rfl, st, c, 2, rfl, ok1, by decide, by decide, fun r H1 hr1 bt ok => ?_⟩
      refine ⟨1, (r : Int), rfl, rfl, r + 1, ?_, by omega, by omega, b1.trans bt, ok⟩
      have e : (1 : Int) + (r : Int) = ((r + 1 : Nat) : Int) := by omega
      dsimp only
      rw [e]
      rfl
    obtain ⟨S, rfl, S0, S2, b2, ok2⟩ := hM
    -- look
    have mid : ∀ (_ : Unit), (L2.St → Hp → Prop) := fun _ σ H' => ∃ (lk : Addr) (e : Nat) (Ls : List Nat) (mul : List (List Nat)), σ = [some (.ref st), some (.int 2), some (.int 2), some (natV n), some (natV S), some (.ref lk), none, none, none, none, none, none, none, none, none, none, none, none] ∧ But st H H' ∧ StOk H' st c ∧ RdAt H' lk e Ls mul ∧ RdOk n e Ls mul
    clear mid
    refine ⟨fun σ H' => ∃ (lk : Addr) (e : Nat) (Ls : List Nat) (mul : List (List Nat)), σ = [some (.ref st), some (.int 2), some (.int 2), some (natV n), some (natV S), some (.ref lk), none, none, none, none, none, none, none, none, none, none, none, none] ∧ But st H H' ∧ StOk H' st c ∧ RdAt H' lk e Ls mul ∧ RdOk n e Ls mul, ?_, fun σ H3 hM => ?_⟩
    · refine ⟨_, rfl, _, rfl, (n : Int), 2, rfl, rfl, st, c, n + 2, rfl, ok2, by omega, fun l size kind shift Ls H3 b3 ok3 ra s0 s3 hk hsh hL hLl => ?_⟩
      exact ⟨l, shift, Ls, _, rfl, b2.trans b3, ok3, ra, RdOk.reader s0 s3 hk hsh hLl hL⟩
    obtain ⟨lk0, e0, Ls0, mul0, rfl, b3, ok3, ra3, ro3⟩ := hM
    refine ⟨fun σ H' => ∃ (lk : Addr) (e : Nat) (Ls : List Nat) (mul : List (List Nat)), σ = [some (.ref st), some (.int 2), some (.int 2), some (natV n), some (natV S), some (.ref lk), none, none, none, none, none, none, none, none, none, none, none, none] ∧ But st H H' ∧ StOk H' st c ∧ RdAt H' lk e Ls mul ∧ RdOk n e Ls mul, ?_, fun σ H4 hM => ?_⟩
    · refine ⟨_, rfl, rfl, _, rfl, ite2 (fun z => absurd (of_decide_eq_true z) (by decide)) fun _ => ?_⟩
      refine ⟨_, rfl, st, c, 2, rfl, ok3, by decide, by decide, fun d H4 hd b4 ok4 => ⟨rfl, _, rfl, ?_⟩⟩
      cases decide (natV d = V.int 1) with
      | false => exact iteF ⟨lk0, e0, Ls0, mul0, rfl, b3.trans b4, ok4, by
          obtain ⟨al, am, rows, ac, h1, h2, h3, h4⟩ := ra3.ex
          have tk := b4.tk ok3
          exact ⟨al, am, rows, ac, tk _ _ h1, tk _ _ h2, tk _ _ h3, L2.Paired.mapP h4 fun a z ea => tk _ _ ea⟩, ro3⟩
      | true =>
        refine iteT ⟨small_le (by show 1 ≤ 100000; decide), fun l1 nl1 => ⟨_, rfl, (n : Int), 2, rfl, rfl, l1, _, _, rfl, rfl, upd_same, by omega, by omega, ?_, fun l2 nl2 => ⟨l2, _, rfl, .inl ⟨.of upd_same, fun t1 nt1 => ⟨small_le (by show 1 ≤ 100000; decide), fun t2 nt2 => ⟨small_le (by show 1 ≤ 100000; decide), fun t3 nt3 => ⟨Nat.zero_le _, fun t4 nt4 => ⟨small_le (by show 4 ≤ 100000; decide), fun t5 nt5 => ?_⟩⟩⟩⟩⟩⟩⟩⟩
        · refine small_le ?_
          show 1 * ((n : Int) + 2).toNat ≤ 100000
          omega
        · have e : ((n : Int) + 2).toNat = n + 2 := by omega
          have ef : (List.replicate ((n : Int) + 2).toNat [V.int 0]).flatten = (List.replicate (n + 2) 0).map natV := by
            rw [e, List.flatten_replicate_singleton, List.map_replicate]
            rfl
          revert nt1 nt2 nt3 nt4 nt5
          rw [ef]
          intro nt1 nt2 nt3 nt4 nt5
          have s1 := same_upd (o := .lst [V.int 0]) nl1
          have s2 := same_upd (o := .lst ((List.replicate (n + 2) 0).map natV)) nl2
          have q1 := same_upd (o := .tup ((List.replicate (n + 2) 0).map natV)) nt1
          have q2 := same_upd (o := .tup [V.int 0]) nt2
          have q3 := same_upd (o := .tup [V.ref t2]) nt3
          have q4 := same_upd (o := .tup []) nt4
          have q5 := same_upd (o := .tup [V.int 0, .ref t1, .ref t3, .ref t4]) nt5
          have sm := (((((s1.trans s2).trans q1).trans q2).trans q3).trans q4).trans q5
          refine ⟨t5, 0, List.replicate (n + 2) 0, [[0]], rfl, (b3.trans b4).trans (.of sm), ok4.same sm, ⟨t1, t3, [t2], .ref t4, upd_same, (((q2.trans q3).trans q4).trans q5) _ _ upd_same, (q4.trans q5) _ _ upd_same, .cons (((q3.trans q4).trans q5) _ _ upd_same) .nil⟩, RdOk.plain⟩
    -- look[:3] + ((),)
    obtain ⟨lk4, e, Ls, mul, rfl, b4, ok4, ra4, ro⟩ := hM
    refine ⟨fun σ H' => ∃ (lk : Addr), σ = [some (.ref st), some (.int 2), some (.int 2), some (natV n), some (natV S), some (.ref lk), none, none, none, none, none, none, none, none, none, none, none, none] ∧ But st H H' ∧ StOk H' st c ∧ RdAt H' lk e Ls mul, ?_, fun σ H5 hM => ?_⟩
    · obtain ⟨al, am, rows, ac, h1, h2, h3, h4⟩ := ra4.ex
      refine ⟨_, rfl, 3, rfl, lk4, _, rfl, .of h1, (by show ¬ (HT.sIx 4 0 none = 0 ∧ HT.sIx 4 4 (some 3) = 4); decide), fun p np => ⟨Nat.zero_le _, fun q nq => ⟨small_le (by show 1 ≤ 100000; decide), fun q2 nq2 => ⟨p, q2, _, _, rfl, rfl, .of ((same_upd nq2) _ _ ((same_upd nq) _ _ upd_same)), .of upd_same, fun z => ?_, small_le (by show 4 ≤ 100000; decide), fun z => (by cases z), fun _ r nr => ?_⟩⟩⟩⟩
      · exact absurd (congrArg List.length z) (by show ¬ 3 = 0; decide)
      · have sm := (((same_upd (o := .tup (cutV [natV e, .ref al, .ref am, ac] none (some 3))) np).trans (same_upd (o := .tup []) nq)).trans (same_upd (o := .tup [V.ref q]) nq2)).trans (same_upd (o := .tup (cutV [natV e, .ref al, .ref am, ac] none (some 3) ++ [V.ref q])) nr)
        exact ⟨r, rfl, b4.trans (.of sm), ok4.same sm, ⟨al, am, rows, .ref q, upd_same, sm _ _ h2, sm _ _ h3, L2.Paired.mapP h4 fun a z ea => sm _ _ ea⟩⟩
    obtain ⟨lk, rfl, b5, ok5, ra5⟩ := hM
    -- width
    refine ⟨_, rfl, st, c, 3, rfl, ok5, by decide, by decide, fun wd H6 hwd b6 ok6 => ?_⟩
    -- outs
    refine ⟨fun σ H' => ∃ (ov : Addr) (os : List Int), σ = [some (.ref st), some (.int 2), some (.int 2), some (natV n), some (natV S), some (.ref lk), some (natV wd), some (.ref ov), none, none, none, none, none, none, none, none, none, none] ∧ But st H6 H' ∧ StOk H' st c ∧ H' ov = some (.tup (os.map V.int)) ∧ 0 < os.length ∧ os.length ≤ 2, ?_, fun σ H7 hM => ?_⟩
    · refine ⟨small_le (by show 1 ≤ 100000; decide), fun t1 n1 => ⟨small_le (by show 2 ≤ 100000; decide), fun t2 n2 => ⟨small_le (by show 2 ≤ 100000; decide), fun t3 n3' => ⟨small_le (by show 1 ≤ 100000; decide), fun t4 n4 => ⟨small_le (by show 4 ≤ 100000; decide), fun l nl => ?_⟩⟩⟩⟩⟩
      have q1 := same_upd (o := .tup [V.int 0]) n1
      have q2 := same_upd (o := .tup [V.int 0, .int 1]) n2
      have q3 := same_upd (o := .tup [V.int 1, .int 2]) n3'
      have q4 := same_upd (o := .tup [V.int 0]) n4
      have q5 := same_upd (o := .lst [V.ref t1, .ref t2, .ref t3, .ref t4]) nl
      have ok6' := (((ok6.same q1).same q2).same q3).same q4
      have nst := (ok6'.st_ne nl).1
      refine ⟨_, rfl, st, c, 4, rfl, ok6'.same q5, by decide, by decide, fun r H7 hr7 bt ok7 => ?_⟩
      obtain ⟨t, os, e1, e2, e3, e4⟩ : ∃ (t : Addr) (os : List Int), [V.ref t1, .ref t2, .ref t3, .ref t4][r]? = some (.ref t) ∧ (upd (upd (upd (upd (upd H6 t1 (.tup [V.int 0])) t2 (.tup [V.int 0, .int 1])) t3 (.tup [V.int 1, .int 2])) t4 (.tup [V.int 0])) l (.lst [V.ref t1, .ref t2, .ref t3, .ref t4])) t = some (.tup (os.map V.int)) ∧ 0 < os.length ∧ os.length ≤ 2 := by
        match r, hr7 with
        | 0, _ => exact ⟨t1, [0], rfl, (((q2.trans q3).trans q4).trans q5) _ _ upd_same, by decide, by decide⟩
        | 1, _ => exact ⟨t2, [0, 1], rfl, ((q3.trans q4).trans q5) _ _ upd_same, by decide, by decide⟩
        | 2, _ => exact ⟨t3, [1, 2], rfl, (q4.trans q5) _ _ upd_same, by decide, by decide⟩
        | 3, _ => exact ⟨t4, [0], rfl, q5 _ _ upd_same, by decide, by decide⟩
      refine ⟨l, _, (r : Int), .ref t, rfl, rfl, .of (bt _ _ upd_same nst), atI_nat e1, t, os, rfl, (But.of ((((q1.trans q2).trans q3).trans q4).trans q5)).trans bt, ok7, (bt.tk (ok6'.same q5)) _ _ e2, e3, e4⟩
    obtain ⟨ov, os, rfl, b7, ok7, eo, o0, o2⟩ := hM
    have tk57 : TK H5 H7 := (b6.tk ok5).trans (b7.tk ok6)
    obtain ⟨al, am, rows, ac, h1, h2, h3, h4⟩ := ra5.ex
    have ra7 : RdAt H7 lk e Ls mul := ⟨al, am, rows, ac, tk57 _ _ h1, tk57 _ _ h2, tk57 _ _ h3, L2.Paired.mapP h4 fun a z ea => tk57 _ _ ea⟩
    -- many
    refine ⟨fun σ H' => H' = H7 ∧ σ = [some (.ref st), some (.int 2), some (.int 2), some (natV n), some (natV S), some (.ref lk), some (natV wd), some (.ref ov), some (natV mul.length), none, none, none, none, none, none, none, none, none], ?_, fun σ H8 hM => ?_⟩
    · refine ⟨_, rfl, lk, _, 2, .ref am, rfl, rfl, .of (tk57 _ _ h1), atI_nat (j := 2) rfl, am, _, rfl, .inr (.of (tk57 _ _ h3)), rfl, ?_⟩
      have el : (rows.map V.ref).length = mul.length := by rw [List.length_map, Paired.length h4]
      rw [el]
      rfl
    obtain ⟨rfl, rfl⟩ := hM
    clear h1 h2 h3 h4 tk57
    -- steps
    refine ⟨Nat.zero_le _, fun D nD => ?_⟩
    have hm3 : mul.length ≤ 3 := ro.small
    have nst := (ok7.st_ne nD).1
    have nsc := (ok7.st_ne nD).2
    have sm0 : SM H8 (upd H8 D (.lst [])) st c D S 0 := ⟨.of (same_upd nD), ok7.same (same_upd nD), [], [], upd_same, .nil, Nat.le_refl _, fun t ht => absurd ht (by simp), fun t ht => absurd ht (by simp)⟩
    refine ⟨fun σ H' => ∃ x10 x11 x12 x13 x14 x15 x16, σ = SMs st n S lk wd ov mul.length D x10 x11 x12 x13 x14 x15 x16 ∧ SM H8 H' st c D S 90, ?_, fun σ H9 hM => ?_⟩
    · refine ⟨_, rfl, (S : Int), rfl, by omega, by omega, ?_⟩
      rw [Int.toNat_natCast]
      refine for_rng0 (fun i σ H' => ∃ x10 x11 x12 x13 x14 x15 x16, σ = SMs st n S lk wd ov mul.length D x10 x11 x12 x13 x14 x15 x16 ∧ SM H8 H' st c D S (i * 45)) ⟨none, none, none, none, none, none, none, rfl, sm0⟩ (fun p σ Hp hp hq => ?_) fun σ H' hq => ?_
      rotate_left
      · obtain ⟨x10, x11, x12, x13, x14, x15, x16, rfl, sm⟩ := hq
        exact ⟨x10, x11, x12, x13, x14, x15, x16, rfl, sm.le (by omega)⟩
      obtain ⟨x10, x11, x12, x13, x14, x15, x16, rfl, smp⟩ := hq
      refine ⟨_, rfl, (mul.length : Int), rfl, by omega, by omega, ?_⟩
      rw [Int.toNat_natCast]
      refine for_rng0 (fun i σ H' => ∃ x11 x12 x13 x14 x15 x16, σ = SMs st n S lk wd ov mul.length D (some (natV p)) x11 x12 x13 x14 x15 x16 ∧ SM H8 H' st c D S (p * 45 + i * 15)) ⟨x11, x12, x13, x14, x15, x16, rfl, smp⟩ (fun u σ Hu hu hq => ?_) fun σ H' hq => ?_
      rotate_left
      · obtain ⟨x11, x12, x13, x14, x15, x16, rfl, sm⟩ := hq
        exact ⟨_, x11, x12, x13, x14, x15, x16, rfl, sm.le (by omega)⟩
      clear x11 x12 x13 x14 x15 x16
      obtain ⟨x11, x12, x13, x14, x15, x16, rfl, smu⟩ := hq
      refine ⟨_, rfl, (n : Int), 2, rfl, rfl, ((n : Int) + 2), rfl, by omega, by omega, ?_⟩
      have en : ((n : Int) + 2).toNat = n + 2 := by omega
      rw [en]
      refine for_rng0 (fun i σ H' => ∃ x12 x13 x14 x15 x16, σ = SMs st n S lk wd ov mul.length D (some (natV p)) (some (natV u)) x12 x13 x14 x15 x16 ∧ SM H8 H' st c D S (p * 45 + u * 15 + i * 3)) ⟨x12, x13, x14, x15, x16, rfl, smu⟩ (fun a σ Ha ha hq => ?_) fun σ H' hq => ?_
      rotate_left
      · obtain ⟨x12, x13, x14, x15, x16, rfl, sm⟩ := hq
        exact ⟨_, x12, x13, x14, x15, x16, rfl, sm.le (by omega)⟩
      clear x12 x13 x14 x15 x16
      obtain ⟨x12, x13, x14, x15, x16, rfl, sma⟩ := hq
      refine ⟨_, rfl, (mul.length : Int), rfl, by omega, by omega, ?_⟩
      rw [Int.toNat_natCast]
      refine for_rng0 (fun i σ H' => ∃ x13 x14 x15 x16, σ = SMs st n S lk wd ov mul.length D (some (natV p)) (some (natV u)) (some (natV a)) x13 x14 x15 x16 ∧ SM H8 H' st c D S (p * 45 + u * 15 + a * 3 + i)) ⟨x13, x14, x15, x16, rfl, sma⟩ (fun v σ Hv hv hq => ?_) fun σ H' hq => ?_
      rotate_left
      · obtain ⟨x13, x14, x15, x16, rfl, sm⟩ := hq
        exact ⟨_, x13, x14, x15, x16, rfl, sm.le (by omega)⟩
      clear x13 x14 x15 x16
      obtain ⟨x13, x14, x15, x16, rfl, smv⟩ := hq
      -- choice
      refine ⟨_, rfl, st, c, 9, rfl, smv.ok, by decide, by decide, fun ch Hc hch bc okc => ?_⟩
      have smc := smv.go nst.symm.symm bc okc
      -- move
      refine ⟨fun σ H' => ∃ o, σ = SMs st n S lk wd ov mul.length D (some (natV p)) (some (natV u)) (some (natV a)) (some (natV v)) (some (natV ch)) (some (.str (mvO o))) x16 ∧ SM H8 H' st c D S (p * 45 + u * 15 + a * 3 + v), ?_, fun σ H1 hM => ?_⟩
      · refine ⟨small_le (by show 9 ≤ 100000; decide), fun l nl => ?_⟩
        obtain ⟨o, eo⟩ := mv9 hch
        exact ⟨_, rfl, l, _, (ch : Int), _, rfl, rfl, .of upd_same, atI_nat eo, o, rfl, smc.same (same_upd nl)⟩
      obtain ⟨o1, rfl, sm1⟩ := hM
      -- the end's letter
      refine ⟨fun σ H' => ∃ o, σ = SMs st n S lk wd ov mul.length D (some (natV p)) (some (natV u)) (some (natV a)) (some (natV v)) (some (natV ch)) (some (.str (mvO o))) x16 ∧ SM H8 H' st c D S (p * 45 + u * 15 + a * 3 + v), ?_, fun σ H2 hM => ?_⟩
      · refine ⟨_, rfl, rfl, _, rfl, ite2 (fun _ => ⟨_, rfl, rfl, _, rfl, ite2 (fun _ => ⟨small_le (by show 2 ≤ 100000; decide), fun l nl => ?_⟩) fun _ => ⟨o1, rfl, sm1⟩⟩) fun _ => ⟨o1, rfl, sm1⟩⟩
        have sm1' := sm1.same (same_upd (o := .lst [V.str "stop", .str "left"]) nl)
        refine ⟨_, rfl, st, c, 2, rfl, sm1'.ok, by decide, by decide, fun d Hd hd bd okd => ?_⟩
        obtain ⟨o, eo⟩ := mv2 hd
        exact ⟨l, _, (d : Int), _, rfl, rfl, .of (bd _ _ upd_same (sm1.ok.st_ne nl).1), atI_nat eo, o, rfl, sm1'.go nst bd okd⟩
      obtain ⟨o, rfl, sm2⟩ := hM
      -- piece
      refine ⟨fun σ H' => ∃ (pa : Addr) (ws : List Int), σ = SMs st n S lk wd ov mul.length D (some (natV p)) (some (natV u)) (some (natV a)) (some (natV v)) (some (natV ch)) (some (.str (mvO o))) (some (.ref pa)) ∧ SM H8 H' st c D S (p * 45 + u * 15 + a * 3 + v) ∧ H' pa = some (.tup (ws.map V.int)) ∧ ws.length ≤ 2, ?_, fun σ H3 hM => ?_⟩
      · refine ⟨_, rfl, _, rfl, (wd : Int), 1, rfl, rfl, st, c, wd + 1, rfl, sm2.ok, by omega, by omega, fun r Hr hr bt okr => ?_⟩
        have smr := sm2.go nst bt okr
        refine ⟨(r : Int), rfl, by omega, by omega, fun D2 nD2 => ?_⟩
        rw [Int.toNat_natCast]
        have n1 := (okr.st_ne nD2).1
        have n2 := (okr.st_ne nD2).2
        refine lc_range (fun i H' => SM H8 H' st c D S (p * 45 + u * 15 + a * 3 + v) ∧ ∃ ws : List Int, H' D2 = some (.lst (ws.map V.int)) ∧ ws.length = i) ⟨smr.same (same_upd nD2), [], upd_same, rfl⟩ (fun i H' hi ⟨pm, ws, ew, lw⟩ => ?_) fun H' ⟨pm, ws, ew, lw⟩ => ?_
        · have eo' : H' ov = some (.tup (os.map V.int)) := (pm.but.tk ok7) _ _ eo
          refine ⟨rfl, _, rfl, _, rfl, _, rfl, ov, _, rfl, .inr (.of eo'), st, c, (os.map V.int).length, rfl, pm.ok, by rw [List.length_map]; exact o0, by rw [List.length_map]; omega, fun d Hd hd bd okd => ?_⟩
          have hd' : d < os.length := by rwa [List.length_map] at hd
          have ew' := bd _ _ ew n1
          refine ⟨ov, _, (d : Int), .int os[d], rfl, rfl, .of ((bd.tk pm.ok) _ _ eo'), atI_nat (by rw [List.getElem?_map, List.getElem?_eq_getElem hd']; rfl), _, ew', small_lt (by rw [List.length_map]; omega), SM.write2 smr nD2 (pm.go nst bd okd) ew', ws ++ [os[d]], by rw [upd_same]; simp, by simp [lw]⟩
        · exact ⟨D2, _, rfl, .inl ⟨.of ew, fun q nq => ⟨q, ws, rfl, pm.same (same_upd nq), upd_same, by omega⟩⟩⟩
      obtain ⟨pa, ws, rfl, sm3, ep, lw⟩ := hM
      -- the step
      refine ⟨_, rfl, rfl, _, rfl, ite2 (fun hne => ?_) fun _ => ⟨_, _, _, _, rfl, sm3.le (by omega)⟩⟩
      obtain ⟨mv, rfl⟩ : ∃ mv, o = some mv := by
        cases o with
        | some mv => exact ⟨mv, rfl⟩
        | none =>
          have hd : decide (V.str (mvO none) = V.str "none") = true := decide_eq_true rfl
          rw [hd] at hne
          cases hne
      obtain ⟨ss3, T3, e3, _⟩ := sm3.ex
      refine ⟨_, rfl, .inl ⟨rfl, _, .of e3⟩, _, rfl, _, rfl, _, rfl, _, rfl, _, rfl, _, rfl, _, rfl, st, c, S, rfl, sm3.ok, S0, by omega, fun q Hq hq' bq okq => ⟨_, rfl, small_le (by show 7 ≤ 100000; decide), fun t nt => ?_⟩⟩
      have sm4 := (sm3.go nst bq okq).same (same_upd (o := .tup [natV p, natV u, natV a, natV v, .str (mvS mv), natV q, .ref pa]) nt)
      have ha : StAt (upd Hq t (.tup [natV p, natV u, natV a, natV v, .str (mvS mv), natV q, .ref pa])) t ⟨p, u, a, v, ⟨mv, q, ws⟩⟩ := ⟨pa, upd_same, (same_upd nt) _ _ ((bq.tk sm3.ok) _ _ ep)⟩
      obtain ⟨xs, ex, lx, sm5⟩ := sm4.app (t := ⟨p, u, a, v, ⟨mv, q, ws⟩⟩) nD nst nsc ha hq' lw (by omega)
      exact ⟨D, xs, _, rfl, rfl, ex, lx, _, _, _, _, rfl, sm5⟩
    -- the machine
    obtain ⟨x10, x11, x12, x13, x14, x15, x16, rfl, sm⟩ := hM
    obtain ⟨ss, T', t1, t2, t3, t4, t5⟩ := sm.ex
    refine ⟨_, rfl, _, rfl, _, rfl, _, rfl, _, rfl, _, rfl, D, _, rfl, .inl ⟨.of t1, fun p np => ⟨small_le (by show 6 ≤ 100000; decide), fun q nq => ?_⟩⟩⟩
    have s1 := same_upd (o := .tup (ss.map V.ref)) np
    have s2 := same_upd (o := .tup [natV n, natV S, .ref lk, natV wd, .ref ov, .ref p]) nq
    have tk : TK H8 _ := (sm.but.tk ok7).trans (TK.of (s1.trans s2))
    obtain ⟨al, am, rows, ac, h1, h2, h3, h4⟩ := ra7.ex
    refine k q (Mach.mk n S e Ls mul T') _ (((((b5.trans b6).trans b7).trans sm.but).trans (.of s1)).trans (.of s2)) ((sm.ok.same s1).same s2) ⟨lk, natV wd, .ref ov, p, ss, upd_same, ⟨al, am, rows, ac, tk _ _ h1, tk _ _ h2, tk _ _ h3, L2.Paired.mapP h4 fun a z ea => tk _ _ ea⟩, s2 _ _ upd_same, L2.Paired.mapP t2 fun a z ea => ea.mono (TK.of (s1.trans s2))⟩ (good_of ro (by omega) (by omega) t4 t5) n3
end
end K36
/-! _law_goes -/
namespace K36
open PySem PySem.Spec PyProof.Rows L2
theorem lookT_snoc (T : List Stp) (t : Stp) (k : List Key) : lookT (T ++ [t]) k = if t.key = k then some t.st else lookT T k := by
  unfold lookT
  rw [List.foldl_append]
  rfl
/-- the dict of the steps -/
structure TabIs (H : Hp) (kvs : List (List Key × V)) (T : List Stp) : Prop where
  len : kvs.length ≤ T.length
  non : ∀ k, lookT T k = none → valV kvs k = none
  som : ∀ k st, lookT T k = some st → ∃ s t, valV kvs k = some (.ref s) ∧ StAt H s t ∧ t.st = st
theorem TabIs.nil {H : Hp} : TabIs H [] [] := ⟨Nat.le_refl _, fun k _ => valV_nil, fun k st e => by cases e⟩
theorem TabIs.mono {H H' : Hp} {kvs : List (List Key × V)} {T : List Stp} (h : TabIs H kvs T) (tk : TK H H') : TabIs H' kvs T :=
  ⟨h.len, h.non, fun k st e => by obtain ⟨s, t, e1, e2, e3⟩ := h.som k st e; exact ⟨s, t, e1, e2.mono tk, e3⟩⟩
theorem TabIs.put {H : Hp} {kvs : List (List Key × V)} {T : List Stp} {s : Addr} {t : Stp} (h : TabIs H kvs T) (a : StAt H s t) : TabIs H (putK kvs t.key (.ref s)) (T ++ [t]) := by
  refine ⟨?_, fun k e => ?_, fun k st e => ?_⟩
  · have := length_putK kvs t.key (.ref s)
    have := h.len
    rw [List.length_append, List.length_singleton]; omega
  · rw [lookT_snoc] at e
    by_cases c : t.key = k
    · rw [if_pos c] at e; cases e
    · rw [if_neg c] at e
      rw [valV_put, if_neg fun z => c z.symm]
      exact h.non k e
  · rw [lookT_snoc] at e
    by_cases c : t.key = k
    · rw [if_pos c] at e
      rw [valV_put, if_pos c.symm]
      exact ⟨s, t, rfl, a, Option.some.inj e⟩
    · rw [if_neg c] at e
      rw [valV_put, if_neg fun z => c z.symm]
      exact h.som k st e
theorem cut_to (xs : List V) (k : Nat) (h : k ≤ xs.length) : cutV xs none (some (k : Int)) = xs.take k := by
  unfold cutV
  rw [HT.sIx_none, HT.sIx_nat, Nat.min_eq_left h]
  rfl
theorem cut_from (xs : List V) (k : Nat) (h : k ≤ xs.length) : cutV xs (some (k : Int)) none = xs.drop k := by
  unfold cutV
  rw [HT.sIx_none, HT.sIx_nat, Nat.min_eq_left h]
  exact List.take_of_length_le (by rw [List.length_drop]; exact Nat.le_refl _)
/-- what was told -/
abbrev TL (H : Hp) (ts : List Addr) (w : List Int) : Prop := Paired (fun t x => ∃ a b j, H t = some (.tup [a, b, j, .int x])) ts w
theorem TL.mono {H H' : Hp} {ts : List Addr} {w : List Int} (tk : TK H H') (h : TL H ts w) : TL H' ts w := L2.Paired.mapP h fun t x ⟨a, b, j, e⟩ => ⟨a, b, j, tk _ _ e⟩
def EndAt (H : Hp) (ev : V) (ts : List Addr) : Dd → Prop
  | .non => ev = .non
  | .stop w => ∃ e, ev = .ref e ∧ H e = some (.tup [.str "stop"]) ∧ TL H ts w
  | .out s q w => ∃ e, ev = .ref e ∧ H e = some (.tup [.str "out", .str (sideS s), natV q]) ∧ TL H ts w
def GoesAt (H : Hp) (a : Addr) (d : Dd) : Prop := ∃ (ev : V) (tl : Addr) (ts : List Addr), H a = some (.lst [ev, .ref tl]) ∧ H tl = some (.lst (ts.map V.ref)) ∧ EndAt H ev ts d
theorem step_non {M : Mach} {row : List Nat} {l r p now k : Nat} (hp : p < row.length)
    (h : lookT M.T [.inl (now : Int), .inl (M.mc.mul l (M.mc.worth (row.take p)) : Int), .inl (row[p] : Int), .inl (M.mc.mul (M.mc.worth (row.drop (p + 1))) r : Int)] = none) : M.mc.cr row l r (k + 1) true p now = .non := by
  rw [cr_succ (d := true) (b := p) k now ⟨fun z => Nat.ne_of_lt hp z.2, fun z => by cases z.1⟩]
  show M.mc.act row l r _ p now = _
  unfold Mc.act Mc.stp
  rw [List.getElem?_eq_getElem hp]
  show (match lookT M.T _ with | none => _ | some t => _) = _
  rw [h]
theorem step_some {M : Mach} {row : List Nat} {l r p now k : Nat} {t : St4} (hp : p < row.length)
    (h : lookT M.T [.inl (now : Int), .inl (M.mc.mul l (M.mc.worth (row.take p)) : Int), .inl (row[p] : Int), .inl (M.mc.mul (M.mc.worth (row.drop (p + 1))) r : Int)] = some t) :
    (t.mv = .stop → M.mc.cr row l r (k + 1) true p now = .stop t.pc) ∧ (t.mv = .right → M.mc.cr row l r (k + 1) true p now = Dd.pre t.pc (M.mc.cr row l r k true (p + 1) t.q)) ∧
      (t.mv = .left → M.mc.cr row l r (k + 1) true p now = Dd.pre t.pc (M.mc.cr row l r k false p t.q)) := by
  have e : M.mc.stp row l r p now = some t := by
    unfold Mc.stp
    rw [List.getElem?_eq_getElem hp]
    exact h
  rw [cr_succ (d := true) (b := p) k now ⟨fun z => Nat.ne_of_lt hp z.2, fun z => by cases z.1⟩]
  exact act_non e
theorem pairs_app {α β : Type} {F : α → β → Prop} : ∀ {xs xs' : List α} {ys ys' : List β}, Paired F xs ys → Paired F xs' ys' → Paired F (xs ++ xs') (ys ++ ys')
  | _, _, _, _, .nil, h => h
  | _, _, _, _, .cons r t, h => .cons r (pairs_app t h)
theorem pairs_snd {H : Hp} {x y : V} : ∀ {as : List Addr} {zs : List (V × Int)}, Paired (fun a (z : V × Int) => H a = some (.tup [x, y, z.1, .int z.2])) as zs → TL H as (zs.map (·.2))
  | _, _, .nil => .nil
  | _, _, .cons r t => .cons ⟨_, _, _, r⟩ (pairs_snd t)
theorem mvS_stop {m : Mv} (h : V.str (mvS m) = V.str "stop") : m = .stop := by
  cases m with
  | stop => rfl
  | left => exact absurd h (by decide)
  | right => exact absurd h (by decide)
theorem mvS_left {m : Mv} (h : V.str (mvS m) = V.str "left") : m = .left := by
  cases m with
  | left => rfl
  | stop => exact absurd h (by decide)
  | right => exact absurd h (by decide)
abbrev NG : List Str := ["_law_machine_here", "_law_row", "_law_left", "_law_right", "_law_side", "_law_start", "_law_look", "_law_table", "_law_step", "_law_place", "_law_now", "_law_told", "_law_k", "_law_u", "_law_v", "_law_j"]
theorem scGoes : FnScope NG ["_law_machine_here", "_law_row", "_law_left", "_law_right", "_law_side", "_law_start"] (defScope sGoes) := ⟨rfl, rfl, rfl, by decide +kernel, rfl, by decide +kernel, by decide +kernel⟩
/-- the arguments of a walk over a row -/
structure Row4 (H : Hp) (m rw_ : Addr) (M : Mach) (row : List Nat) (l r q : Nat) : Prop where
  mach : MachAt H m M
  good : M.Good
  at_ : H rw_ = some (.lst (row.map natV))
  rowOk : M.mc.Row row
  len : row.length ≤ 20
  l_lt : l < M.mul.length
  r_lt : r < M.mul.length
def spGoes : Sp := fun vs H Q _ => ∃ (m rw_ : Addr) (M : Mach) (row : List Nat) (l r : Nat) (b : Bool) (q : Nat), vs = [.ref m, .ref rw_, natV l, natV r, .str (sideS b), natV q] ∧ Row4 H m rw_ M row l r q ∧
  ∀ a H', Same H H' → H a = none → GoesAt H' a (M.deeds row (l, r, b, q)) → Q (.ref a) H'
abbrev teTold (K : PySem.W.Frag) : TE := tTup (tCons (tVar 9) (tCons (tVar 10) (tCons (tVar 15) (tCons (tOp (rIxT K) (tOp (rIxT K) (tVar 8) (tC (.int 6))) (tVar 15)) tNil))))
abbrev SG (m rw_ : Addr) (l r : Nat) (b : Bool) (q : Nat) (lk tb : Addr) (x8 x9 x10 x11 x12 x13 x14 : Option V) : L2.St :=
  [some (.ref m), some (.ref rw_), some (natV l), some (natV r), some (.str (sideS b)), some (natV q), some (.ref lk), some (.ref tb), x8, x9, x10, x11, x12, x13, x14, none]
section
variable {P : Program} {w : World} {K : PySem.W.Frag} {mg : Str → Option Value} {base : Heap}
theorem ok_goes {f fW : Addr} {fd fdW : FuncData} (F : Fun K "_law_goes" "_law_goes" sGoes f fd) (T : Free mg)
    (FW : Fun K "_law_worth" "_law_worth" sWorth fW fdW) (bW : Binds K fdW ["_law_reader", "_law_row"] []) (gW : mg "_law_worth" = some (.ref fW)) :
    FnOk P w K mg base CX0 2 f fd ["_law_machine_here", "_law_row", "_law_left", "_law_right", "_law_side", "_law_start"] spGoes := by
  have GW : FnOk P w K mg base CX0 1 fW fdW ["_law_reader", "_law_row"] spWorth := ok_worth FW
  refine F.ok scGoes (fun vs H Q E h => ?_) (fun cdv A outer s H vs Q E hr h => ?_)
  · obtain ⟨m, rw_, M, row, l, r, b, q, rfl, _⟩ := h
    rfl
  · obtain ⟨m, rw_, M, row, l, r, b, q, rfl, R4, k⟩ := h
    refine ⟨_, pss_cons (ps_set (i := 6) scGoes.nd rfl (Or.inl rfl) (pe_ix ix_tup (pv 0) pe_int (fun _ _ => rfl)))
      (pss_cons (ps_set (i := 7) scGoes.nd rfl (Or.inl rfl) pe_dnewT)
      (pss_cons (ps_for PassesOwn.never rfl (pi_tup (pe_ix ix_tup (pv 0) pe_int (fun _ _ => rfl))) (pg_name (i := 8) scGoes.nd rfl (Or.inr rfl))
        (pss_one (ps_dput (hu_of hr) (pv 7) (pe_slice sl_tup (pv 8) po_none (po_some pe_int)) (pv 8) rfl)))
      (pss_cons (ps_if (pt_cmpR op_eq (pe_callB call_len_seq (by rfl) T.len PySem.boot_len (pa_cons (pv 1) pa_nil)) pe_int (nomark _))
        (pss_one (ps_ret (pe_lst (pa_cons (pe_tup (pa_cons pe_str (pa_cons (pe_ix ix_list (pe_lst (pa_cons pe_str (pa_cons pe_str pa_nil))) (pe_callTy call_int1 (by rfl) T.int (by decide +kernel) (pa_cons (pe_cmpR op_eq (pv 4) pe_str (nomark _)) pa_nil)) (fun _ _ => rfl))
          (pa_cons (pv 5) pa_nil)))) (pa_cons (pe_lst pa_nil) pa_nil))))) pss_nil)
      (pss_cons (ps_set (i := 9) scGoes.nd rfl (Or.inr rfl) pe_int)
      (C8.pss_cut (ps_if (pt_cmpR op_eq (pv 4) pe_str (nomark _)) (pss_one (ps_set (i := 9) scGoes.nd rfl (Or.inr rfl) (pe_op op_sub (pe_callB call_len_seq (by rfl) T.len PySem.boot_len (pa_cons (pv 1) pa_nil)) pe_int))) pss_nil)
      (pss_cons (ps_set (i := 10) scGoes.nd rfl (Or.inr rfl) (pv 5))
      (pss_cons (ps_set (i := 11) scGoes.nd rfl (Or.inl rfl) (pe_lst pa_nil))
      (pss_cons (ps_for PassesOwn.never rfl (pi_range1 rfl T.range (pa_cons (pe_op op_add (pe_op op_mul (pe_ix ix_tup (pv 0) pe_int (fun _ _ => rfl)) (pe_callB call_len_seq (by rfl) T.len PySem.boot_len (pa_cons (pv 1) pa_nil))) pe_int) pa_nil)) (pg_name (i := 12) scGoes.nd rfl (Or.inl rfl))
        (pss_cons (ps_set (i := 13) scGoes.nd rfl (Or.inl rfl) (pe_ix ix_tup (pe_ix ix_tup (pe_ix ix_tup (pv 6) pe_int (fun _ _ => rfl)) (pv 2) (fun _ _ => rfl))
            (pe_call GW (hr.mono (by decide)) rfl gW FW.kp bW .nil pass0 (pa_cons (pv 6) (pa_cons (pe_slice sl_list (pv 1) po_none (po_some (pv 9))) pa_nil))) (fun _ _ => rfl)))
        (pss_cons (ps_set (i := 14) scGoes.nd rfl (Or.inl rfl) (pe_ix ix_tup (pe_ix ix_tup (pe_ix ix_tup (pv 6) pe_int (fun _ _ => rfl))
            (pe_call GW (hr.mono (by decide)) rfl gW FW.kp bW .nil pass0 (pa_cons (pv 6) (pa_cons (pe_slice sl_list (pv 1) (po_some (pe_op op_add (pv 9) pe_int)) po_none) pa_nil))) (fun _ _ => rfl)) (pv 3) (fun _ _ => rfl)))
        (pss_cons (ps_set (i := 8) scGoes.nd rfl (Or.inr rfl) (pe_dget1 (hu_of hr) (pv 7) (pe_tup (pa_cons (pv 10) (pa_cons (pv 13) (pa_cons (pe_ix ix_list (pv 1) (pv 9) (fun _ _ => rfl)) (pa_cons (pv 14) pa_nil))))) ⟨rfl, rfl, rfl, rfl⟩))
        (pss_cons (ps_if (pt_cmpR op_isN (pv 8) pe_non (nomark _)) (pss_one (ps_ret (pe_lst (pa_cons pe_non (pa_cons (pe_lst pa_nil) pa_nil))))) pss_nil)
        (pss_cons (ps_set (i := 11) scGoes.nd rfl (Or.inl rfl) (pe_op op_cat (pv 11) (pe_lc (own := [("_law_j", 15)]) (g := gName 15) (tt := tYes) (te := teTold K) rfl scGoes.nd
            (pi_range1 rfl T.range (pa_cons (pe_callB call_len_seq (by rfl) T.len PySem.boot_len (pa_cons (pe_ix ix_tup (pv 8) pe_int (fun _ _ => rfl)) pa_nil)) pa_nil)) (blkOk_by (N := NG) (sc := defScope sGoes) (by decide +kernel))
            (fun _ _ _ _ _ => pg_name (i := 15) scGoes.nd rfl (Or.inl rfl)) (fun _ _ _ _ _ => pts_nil)
            (fun _ _ _ _ _ => pe_tup (pa_cons (pv 9) (pa_cons (pv 10) (pa_cons (pv 15) (pa_cons (pe_ix ix_tup (pe_ix ix_tup (pv 8) pe_int (fun _ _ => rfl)) (pv 15) (fun _ _ => rfl)) pa_nil))))))))
        (pss_cons (ps_if (pt_cmpR op_eq (pe_ix ix_tup (pv 8) pe_int (fun _ _ => rfl)) pe_str (nomark _)) (pss_one (ps_ret (pe_lst (pa_cons (pe_tup (pa_cons pe_str pa_nil)) (pa_cons (pv 11) pa_nil))))) pss_nil)
        (pss_cons (ps_set (i := 10) scGoes.nd rfl (Or.inr rfl) (pe_ix ix_tup (pv 8) pe_int (fun _ _ => rfl)))
        (C8.pss_cut (ps_if (pt_cmpR op_eq (pe_ix ix_tup (pv 8) pe_int (fun _ _ => rfl)) pe_str (nomark _)) (pss_one (ps_set (i := 9) scGoes.nd rfl (Or.inr rfl) (pe_op op_sub (pv 9) pe_int))) (pss_one (ps_set (i := 9) scGoes.nd rfl (Or.inr rfl) (pe_op op_add (pv 9) pe_int))))
        (pss_one (ps_if (PW.pt (pw_or (pt_cmpR op_lt (pv 9) pe_int (nomark _)) (pw_or1 (pt_cmpR op_eq (pv 9) (pe_callB call_len_seq (by rfl) T.len PySem.boot_len (pa_cons (pv 1) pa_nil)) (nomark _)))))
          (pss_one (ps_ret (pe_lst (pa_cons (pe_tup (pa_cons pe_str (pa_cons (pe_ix ix_tup (pv 8) pe_int (fun _ _ => rfl)) (pa_cons (pv 10) pa_nil)))) (pa_cons (pv 11) pa_nil))))) pss_nil)))))))))))
      (pss_one (ps_ret (pe_lst (pa_cons pe_non (pa_cons (pe_lst pa_nil) pa_nil))))))))))))), ?_⟩
    have g := R4.good
    obtain ⟨lk, wv, ov, ts, ss, h1, hL, h6, h7⟩ := R4.mach.ex
    -- look, table
    obtain ⟨al0, am0, rows0, ac0, g2, _⟩ := hL.ex
    refine ⟨_, rfl, m, _, 2, .ref lk, rfl, rfl, .of h1, atI_nat (j := 2) rfl, fun tb ntb => ?_⟩
    have s0 : Same H (upd H tb (.dT [])) := same_upd ntb
    refine ⟨_, rfl, m, _, 5, .ref ts, rfl, rfl, .of (s0 _ _ h1), atI_nat (j := 5) rfl, ts, rfl, ⟨_, .of (s0 _ _ h6)⟩, for_tup (K := K) (a := ts) (xs := ss.map V.ref)
      (fun i σ H' => ∃ x8 kvs, σ = SG m rw_ l r b q lk tb x8 none none none none none none ∧ Same H H' ∧ H' tb = some (.dT kvs) ∧ TabIs H' kvs (M.T.take i))
      ⟨none, [], rfl, s0, upd_same, TabIs.nil⟩ (fun i σ H' _ ⟨_, _, _, sm, _⟩ => .of (sm _ _ h6)) (fun i x σ H' hx ⟨x8, kvs, e, sm, hd, ti⟩ => ?_) fun σ H1 ⟨x8, kvs, e, sm, hd, ti⟩ => ?_⟩
    · subst e
      have hil : i < ss.length := by
        have := (List.getElem?_eq_some_iff.mp hx).1
        rwa [List.length_map] at this
      have hil2 : i < M.T.length := by rw [← Paired.length h7]; exact hil
      obtain ⟨a, ea, ha⟩ := pairedGet h7 (List.getElem?_eq_getElem hil2)
      rw [List.getElem?_map, ea] at hx
      obtain rfl : V.ref a = x := Option.some.inj hx
      have et : M.T.take (i + 1) = M.T.take i ++ [M.T[i]] := by
        rw [List.take_add_one, List.getElem?_eq_getElem hil2]; rfl
      rw [et]
      revert ha
      generalize M.T[i] = t
      intro ha
      obtain ⟨pa, e1, e2⟩ := ha.mono (TK.of sm)
      refine ⟨_, rfl, _, rfl, _, rfl, 4, rfl, a, _, rfl, .of e1, (by show ¬ (HT.sIx 7 0 none = 0 ∧ HT.sIx 7 7 (some 4) = 7); decide), fun kt nkt => ?_⟩
      have sk := same_upd (o := .tup (cutV [natV t.p, natV t.u, natV t.c, natV t.v, .str (mvS t.st.mv), natV t.st.q, .ref pa] none (some 4))) nkt
      refine ⟨tb, _, rfl, DPut.t (k := t.key) (sk _ _ hd) upd_same (small_lt (by
        have := ti.len
        rw [List.length_take] at this
        have := g.small.2.2
        have : min i M.T.length ≤ M.T.length := Nat.min_le_right _ _
        omega)), _, _, rfl, fun c o ec => by rw [upd_ne (ne_of_none ec ntb)]; exact sk _ _ (sm _ _ ec), upd_same, ?_⟩
      have tk1 : TK H' _ := (TK.of sk).trans (tk_write (p := tb) (o := .dT (putK kvs t.key (.ref a))) (sk _ _ hd) (fun xs z => by cases z))
      exact (ti.mono tk1).put (StAt.mono tk1 ⟨pa, e1, e2⟩)
    subst e
    rw [List.length_map, Paired.length h7, List.take_length] at ti
    have hrow1 : H1 rw_ = some (.lst (row.map natV)) := sm _ _ R4.at_
    have hlen : (row.map natV).length = row.length := List.length_map _
    -- the empty row
    refine ⟨_, rfl, rw_, _, rfl, .inl (.of hrow1), rfl, _, rfl, ite2 (fun hz => ?_) fun hz => ?_⟩
    · have hz : row = [] := by
        have := V.int.inj (of_decide_eq_true hz)
        rw [hlen] at this
        exact List.eq_nil_of_length_eq_zero (by omega)
      subst hz
      refine ⟨small_le (by show 2 ≤ 100000; decide), fun ll nll => ⟨_, rfl, rfl, .inr ⟨_, rfl, ll, _, _, .str (sideS !b), rfl, rfl, .of upd_same, ?_, _, rfl, small_le (by show 3 ≤ 100000; decide), fun e ne => ⟨Nat.zero_le _, fun tl ntl => ⟨small_le (by show 2 ≤ 100000; decide), fun a na => ?_⟩⟩⟩⟩⟩
      · cases b with
        | false =>
          have : decide (V.str (sideS false) = V.str "left") = true := decide_eq_true rfl
          rw [this]
          exact atI_nat (j := 1) rfl
        | true =>
          have : decide (V.str (sideS true) = V.str "left") = false := decide_eq_false (by decide)
          rw [this]
          exact atI_nat (j := 0) rfl
      · have q1 := same_upd (o := .lst [V.str "left", .str "right"]) nll
        have q2 := same_upd (o := .tup [V.str "out", .str (sideS !b), natV q]) ne
        have q3 := same_upd (o := .lst []) ntl
        have q4 := same_upd (o := .lst [V.ref e, .ref tl]) na
        have sq := ((q1.trans q2).trans q3).trans q4
        have eT : M.deeds [] (l, r, b, q) = .out (!b) q [] := by
          cases b with
          | false => exact cr_right (M := M.mc) (row := []) (l := l) (r := r) _ q
          | true => exact cr_left (M := M.mc) (row := []) (l := l) (r := r) _ q
        refine k a _ (sm.trans sq) ((sm.trans ((q1.trans q2).trans q3)).free na) ⟨.ref e, tl, [], upd_same, q4 _ _ upd_same, ?_⟩
        rw [eT]
        exact ⟨e, rfl, (q3.trans q4) _ _ upd_same, .nil⟩
    have hz : row.length ≠ 0 := fun z => hz (decide_eq_true (by rw [hlen, z]; rfl))
    -- place
    refine ⟨fun σ H' => H' = H1 ∧ σ = SG m rw_ l r b q lk tb x8 (some (natV (plc (!b) (if b = true then row.length else 0)))) none none none none none, ?_, fun σ H2 hM => ?_⟩
    · cases b with
      | true =>
        refine ⟨_, rfl, rfl, _, rfl, ite2 (fun _ => ⟨_, rfl, rw_, _, rfl, .inl (.of hrow1), _, 1, rfl, rfl, rfl, ?_⟩) fun z => absurd (decide_eq_true rfl) z⟩
        have e : ((row.map natV).length : Int) - 1 = ((row.length - 1 : Nat) : Int) := by rw [hlen]; omega
        dsimp only
        rw [e]
        rfl
      | false => exact ⟨_, rfl, rfl, _, rfl, ite2 (fun z => absurd (of_decide_eq_true z) (by decide)) fun _ => ⟨rfl, rfl⟩⟩
    obtain ⟨rfl, rfl⟩ := hM
    have hp0 : Inn row.length (!b) (if b = true then row.length else 0) := by
      cases b with
      | true => exact ⟨fun z => (by cases z.1), fun z => hz z.2⟩
      | false => exact ⟨fun z => hz z.2.symm, fun z => by cases z.1⟩
    have hb0 : (if b = true then row.length else 0) ≤ row.length := by
      cases b with
      | true => exact Nat.le_refl _
      | false => exact Nat.zero_le _
    have hT0 := cr_place (M := M.mc) (row := row) (l := l) (r := r) (M.S * row.length + 1) q hp0 hb0
    have hpl := plc_lt hp0 hb0
    have hT0 : M.mc.cr row l r (M.S * row.length + 1) true (plc (!b) (if b = true then row.length else 0)) q = M.deeds row (l, r, b, q) := hT0.symm
    revert hT0 hpl
    generalize plc (!b) (if b = true then row.length else 0) = p0
    generalize M.deeds row (l, r, b, q) = DD at k
    intro hpl hT0
    -- now, told
    refine ⟨_, rfl, Nat.zero_le _, fun tl ntl => ?_⟩
    have q1 := same_upd (o := .lst []) ntl
    have eK : (M.S : Int) * ((row.map natV).length : Int) + 1 = ((M.S * row.length + 1 : Nat) : Int) := by
      rw [hlen, Int.natCast_add, Int.natCast_mul]
      rfl
    have hK : M.S * row.length ≤ 3 * 20 := Nat.mul_le_mul g.small.2.1 R4.len
    refine ⟨_, rfl, m, _, 1, natV M.S, rfl, rfl, .of (q1 _ _ (sm _ _ h1)), atI_nat (j := 1) rfl, _, rfl, rw_, _, rfl, .inl (.of (q1 _ _ hrow1)), (M.S : Int), _, rfl, rfl, .inl ⟨by omega, by have := g.small.2.1; omega⟩, _, 1, rfl, rfl, ((M.S * row.length + 1 : Nat) : Int), (by dsimp only; rw [eK]), by omega, by omega, ?_⟩
    rw [Int.toNat_natCast]
    refine for_rng0 (fun i σ H' => ∃ p now w tl ts x8 x12 x13 x14, σ = SG m rw_ l r b q lk tb x8 (some (natV p)) (some (natV now)) (some (.ref tl)) x12 x13 x14 ∧ Same H2 H' ∧ H' tl = some (.lst (ts.map V.ref)) ∧ TL H' ts w ∧ w.length ≤ 2 * i ∧ p < row.length ∧
      Dd.pre w (M.mc.cr row l r (M.S * row.length + 1 - i) true p now) = DD) ⟨p0, q, [], tl, [], x8, none, none, none, rfl, q1, upd_same, .nil, Nat.le_refl _, hpl, by rw [pre_nil]; exact hT0⟩ (fun i σ H3 hi hq => ?_) fun σ H3 hq => ?_
    rotate_left
    · -- the line is reached
      obtain ⟨p, now, w, tl, ts, x8, x12, x13, x14, rfl, s3, etl, hTL, hw, hp, hD⟩ := hq
      refine ⟨Nat.zero_le _, fun tl2 n2 => ⟨small_le (by show 2 ≤ 100000; decide), fun a na => ?_⟩⟩
      have q2 := same_upd (o := .lst []) n2
      have q3 := same_upd (o := .lst [V.non, .ref tl2]) na
      rw [Nat.sub_self, cr_zero now ⟨fun z => Nat.ne_of_lt hp z.2, fun z => by cases z.1⟩] at hD
      subst hD
      exact k a _ (((sm.trans s3).trans q2).trans q3) (((sm.trans s3).trans q2).free na) ⟨.non, tl2, [], upd_same, q3 _ _ upd_same, rfl⟩
    clear hT0 hpl ntl q1
    obtain ⟨p, now, w, tl, ts, x8, x12, x13, x14, rfl, s3, etl, hTL, hw, hp, hD⟩ := hq
    have sm3 : Same H H3 := sm.trans s3
    have hrow3 := sm3 _ _ R4.at_
    obtain ⟨al, am, rows, ac, h2, h3, h4, h5⟩ := (hL.mono (TK.of sm3)).ex
    have hRt : M.mc.Row (row.take p) := take_row R4.rowOk p
    have hRd : M.mc.Row (row.drop (p + 1)) := fun a ha => R4.rowOk a (List.mem_of_mem_drop ha)
    have hi1 : M.S * row.length + 1 - i = (M.S * row.length + 1 - (i + 1)) + 1 := by omega
    rw [hi1] at hD
    have hwt := worth_lt g.ok hRt
    have hwd := worth_lt g.ok hRd
    obtain ⟨ra, xs, i1, e1, j1⟩ := mul_at g h5 R4.l_lt hwt
    obtain ⟨rb, ys, i2, e2, j2⟩ := mul_at g h5 hwd R4.r_lt
    have hL3 := hL.mono (TK.of sm3)
    have hmapl : (row.map natV).length = row.length := List.length_map _
    -- u
    refine ⟨_, rfl, lk, _, 2, .ref am, rfl, rfl, .of h2, atI_nat (j := 2) rfl, _, rfl, am, _, _, .ref ra, rfl, rfl, .of h4, atI_nat i1, _, rfl, _, rfl, _, rfl, (p : Int), rfl, rw_, _, rfl, .of hrow3, fun p1 np1 => ?_⟩
    rw [cut_to (row.map natV) p (by rw [hmapl]; omega), ← List.map_take]
    have sp1 : Same H3 (upd H3 p1 (.lst ((row.take p).map natV))) := same_upd np1
    refine ⟨lk, p1, M, row.take p, rfl, hL3.mono (TK.of sp1), g, upd_same, hRt, ra, _, _, _, rfl, rfl, .of (sp1 _ _ e1), atI_nat j1, ?_⟩
    clear np1
    revert sp1
    generalize upd H3 p1 (.lst ((row.take p).map natV)) = H4
    intro sp1
    -- v
    refine ⟨_, rfl, lk, _, 2, .ref am, rfl, rfl, .of (sp1 _ _ h2), atI_nat (j := 2) rfl, _, rfl, _, rfl, _, rfl, (p : Int), 1, rfl, rfl, ((p + 1 : Nat) : Int), rfl, rw_, _, rfl, .of (sp1 _ _ hrow3), fun p2 np2 => ?_⟩
    rw [cut_from (row.map natV) (p + 1) (by rw [hmapl]; omega), ← List.map_drop]
    have sp2 : Same H4 (upd H4 p2 (.lst ((row.drop (p + 1)).map natV))) := same_upd np2
    refine ⟨lk, p2, M, row.drop (p + 1), rfl, (hL3.mono (TK.of sp1)).mono (TK.of sp2), g, upd_same, hRd, am, _, _, .ref rb, rfl, rfl, .of (sp2 _ _ (sp1 _ _ h4)), atI_nat i2, _, rfl, rb, _, _, _, rfl, rfl, .of (sp2 _ _ (sp1 _ _ e2)), atI_nat j2, ?_⟩
    clear np2
    revert sp2
    generalize upd H4 p2 (.lst ((row.drop (p + 1)).map natV)) = H5
    intro sp2
    have s35 := sp1.trans sp2
    clear sp1 sp2
    -- step
    have hd5 := s35 _ _ (s3 _ _ hd)
    refine ⟨_, rfl, tb, rfl, .inr ⟨kvs, .inl hd5⟩, _, rfl, _, rfl, _, rfl, _, rfl, rw_, _, (p : Int), natV row[p], rfl, rfl, .of (s35 _ _ hrow3), atI_nat (by rw [List.getElem?_map, List.getElem?_eq_getElem hp]; rfl), _, rfl, small_le (by show 4 ≤ 100000; decide), fun kt nkt => ?_⟩
    have sk := same_upd (o := .tup [natV now, natV (M.mc.mul l (M.mc.worth (row.take p))), natV row[p], natV (M.mc.mul (M.mc.worth (row.drop (p + 1))) r)]) nkt
    refine ⟨valV kvs [.inl (now : Int), .inl (M.mc.mul l (M.mc.worth (row.take p)) : Int), .inl (row[p] : Int), .inl (M.mc.mul (M.mc.worth (row.drop (p + 1))) r : Int)], DGet.t (sk _ _ hd5) upd_same, ?_⟩
    revert sk
    generalize upd H5 kt _ = H6
    intro sk
    have s36 := s35.trans sk
    clear sk s35 hd5 nkt
    have s26 := s3.trans s36
    cases hk : lookT M.T [.inl (now : Int), .inl (M.mc.mul l (M.mc.worth (row.take p)) : Int), .inl (row[p] : Int), .inl (M.mc.mul (M.mc.worth (row.drop (p + 1))) r : Int)] with
    | none =>
      rw [ti.non _ hk]
      refine ⟨_, rfl, rfl, _, rfl, ite2 (fun _ => ?_) fun z => absurd (decide_eq_true rfl) z⟩
      refine ⟨Nat.zero_le _, fun tl2 n2 => ⟨small_le (by show 2 ≤ 100000; decide), fun a na => ?_⟩⟩
      have q2 := same_upd (o := .lst []) n2
      have q3 := same_upd (o := .lst [V.non, .ref tl2]) na
      rw [step_non hp hk] at hD
      subst hD
      exact k a _ (((sm.trans s26).trans q2).trans q3) (((sm.trans s26).trans q2).free na) ⟨.non, tl2, [], upd_same, q3 _ _ upd_same, rfl⟩
    | some st =>
      obtain ⟨s, t, e3, ha, est⟩ := ti.som _ _ hk
      obtain ⟨t', ht', est', _⟩ := lookT_some hk
      have hpc : t.st.pc.length ≤ 2 := by rw [est, ← est']; exact g.pcs t' ht'
      rw [e3]
      subst est
      obtain ⟨pa, e4, e5⟩ := ha.mono (TK.of s26)
      refine ⟨_, rfl, rfl, _, rfl, ite2 (fun z => absurd (of_decide_eq_true z) (fun y => by cases y)) fun _ => ?_⟩
      have hpl : (t.st.pc.map V.int).length = t.st.pc.length := List.length_map _
      -- told
      refine ⟨_, rfl, _, rfl, s, _, 6, .ref pa, rfl, rfl, .of e4, atI_nat (j := 6) rfl, pa, _, rfl, .inr (.of e5), _, rfl, by omega, by omega, fun D nD => ?_⟩
      rw [Int.toNat_natCast]
      refine lc_range (fun j H' => ∃ zs : List (V × Int), Made H6 H' D (fun z : V × Int => [natV p, natV now, z.1, .int z.2]) zs ∧ zs.map (·.2) = t.st.pc.take j) ⟨[], Made.start nD, rfl⟩ (fun j H' hj ⟨zs, pm, ez⟩ => ?_) fun H7 ⟨zs, pm, ez⟩ => ?_
      · have hj' : j < t.st.pc.length := by rwa [hpl] at hj
        refine ⟨rfl, _, rfl, _, rfl, _, rfl, _, rfl, s, _, 6, .ref pa, rfl, rfl, .of (pm.same _ _ e4), atI_nat (j := 6) rfl, _, rfl, pa, _, (j : Int), .int t.st.pc[j], rfl, (by rw [Int.zero_add]), .of (pm.same _ _ e5), atI_nat (by rw [List.getElem?_map, List.getElem?_eq_getElem hj']; rfl), small_le (by show 4 ≤ 100000; decide), fun q nq => ?_⟩
        have lz : zs.length ≤ 2 := by
          have := congrArg List.length ez
          rw [List.length_map, List.length_take] at this
          omega
        obtain ⟨acc, a1, a2, a3⟩ := Made.step (z := (V.int (0 + (j : Int)), t.st.pc[j])) pm nD nq (by omega)
        refine ⟨acc, a1, a2, _, a3, ?_⟩
        rw [List.map_append, ez, List.take_add_one, List.getElem?_eq_getElem hj']
        rfl
      · rw [hpl, List.take_length] at ez
        obtain ⟨as, eD, pr⟩ := pm.ex
        have s27 := s26.trans pm.same
        have etl7 := (s36.trans pm.same) _ _ etl
        have lz : as.length ≤ 2 := by
          have := congrArg List.length ez
          rw [List.length_map] at this
          rw [Paired.length pr]
          omega
        have lts : ts.length ≤ 2 * i := by rw [Paired.length hTL]; exact hw
        refine ⟨tl, D, _, _, rfl, rfl, etl7, eD, small_le (by rw [List.length_map, List.length_map]; omega), fun p3 np3 => ?_⟩
        have q8 := same_upd (o := .lst (ts.map V.ref ++ as.map V.ref)) np3
        have e8 : (upd H7 p3 (.lst (ts.map V.ref ++ as.map V.ref))) p3 = some (.lst ((ts ++ as).map V.ref)) := by rw [upd_same, List.map_append]
        have hTL8 : TL (upd H7 p3 (.lst (ts.map V.ref ++ as.map V.ref))) (ts ++ as) (w ++ t.st.pc) := by
          refine TL.mono (TK.of q8) (pairs_app (TL.mono (TK.of (s36.trans pm.same)) hTL) ?_)
          rw [← ez]
          exact pairs_snd pr
        revert q8 e8 hTL8
        generalize upd H7 p3 (.lst (ts.map V.ref ++ as.map V.ref)) = H8
        intro q8 e8 hTL8
        have s28 := s27.trans q8
        have e48 := (pm.same.trans q8) _ _ e4
        have hrow8 := s28 _ _ hrow1
        clear q8 s27 etl7 np3 eD pr pm e5 ha e3 hTL etl
        obtain ⟨c1, c2, c3⟩ := step_some (k := M.S * row.length + 1 - (i + 1)) hp hk
        -- stop?
        refine ⟨_, rfl, s, _, 4, .str (mvS t.st.mv), rfl, rfl, .of e48, atI_nat (j := 4) rfl, rfl, _, rfl, ite2 (fun hm => ?_) fun hm => ?_⟩
        · have hm := mvS_stop (of_decide_eq_true hm)
          rw [c1 hm] at hD
          subst hD
          refine ⟨small_le (by show 1 ≤ 100000; decide), fun e ne => ⟨_, rfl, small_le (by show 2 ≤ 100000; decide), fun a na => ?_⟩⟩
          have q2 := same_upd (o := .tup [V.str "stop"]) ne
          have q3 := same_upd (o := .lst [V.ref e, .ref p3]) na
          exact k a _ (((sm.trans s28).trans q2).trans q3) (((sm.trans s28).trans q2).free na) ⟨.ref e, p3, ts ++ as, upd_same, (q2.trans q3) _ _ e8, e, rfl, q3 _ _ upd_same, hTL8.mono (TK.of (q2.trans q3))⟩
        have hm : t.st.mv ≠ .stop := fun z => hm (decide_eq_true (by rw [z]; rfl))
        -- now
        refine ⟨_, rfl, s, _, 5, natV t.st.q, rfl, rfl, .of e48, atI_nat (j := 5) rfl, ?_⟩
        -- place
        refine ⟨fun σ H' => H' = H8 ∧ ∃ pl : Int, σ = SG m rw_ l r b q lk tb (some (.ref s)) (some (.int pl)) (some (natV t.st.q)) (some (.ref p3)) (some (natV i)) (some (natV (M.mc.mul l (M.mc.worth (row.take p))))) (some (natV (M.mc.mul (M.mc.worth (row.drop (p + 1))) r))) ∧ (t.st.mv = .left ∧ pl = (p : Int) - 1 ∨ t.st.mv = .right ∧ pl = (p : Int) + 1), ?_, fun σ H9 hM => ?_⟩
        · refine ⟨_, rfl, s, _, 4, .str (mvS t.st.mv), rfl, rfl, .of e48, atI_nat (j := 4) rfl, rfl, _, rfl, ite2 (fun hl => ?_) fun hl => ?_⟩
          · exact ⟨_, rfl, (p : Int), 1, rfl, rfl, rfl, _, rfl, .inl ⟨mvS_left (of_decide_eq_true hl), rfl⟩⟩
          · refine ⟨_, rfl, (p : Int), 1, rfl, rfl, rfl, _, rfl, .inr ⟨?_, rfl⟩⟩
            cases em : t.st.mv with
            | stop => exact absurd em hm
            | left => exact absurd (decide_eq_true (by rw [em]; rfl)) hl
            | right => rfl
        obtain ⟨rfl, pl, rfl, hpl2⟩ := hM
        have hout : ∀ (d : Bool), t.st.mv = (if d then .right else .left) → Dd.pre w (Dd.pre t.st.pc (.out d t.st.q [])) = DD → ∀ (a e : Addr) (Ha Hb : Hp), Same H9 Ha → Ha e = none → (upd Ha e (.tup [V.str "out", .str (mvS t.st.mv), natV t.st.q])) a = none → Q (.ref a) (upd (upd Ha e (.tup [V.str "out", .str (mvS t.st.mv), natV t.st.q])) a (.lst [V.ref e, .ref p3])) := by
          intro d hd hD' a e Ha Hb sa ne na
          have q2 := same_upd (o := .tup [V.str "out", .str (mvS t.st.mv), natV t.st.q]) ne
          have q3 := same_upd (o := .lst [V.ref e, .ref p3]) na
          refine k a _ ((((sm.trans s28).trans sa).trans q2).trans q3) ((((sm.trans s28).trans sa).trans q2).free na) ⟨.ref e, p3, ts ++ as, upd_same, ((sa.trans q2).trans q3) _ _ e8, ?_⟩
          subst hD'
          have ew : Dd.pre w (Dd.pre t.st.pc (.out d t.st.q [])) = .out d t.st.q (w ++ t.st.pc) := by
            show Dd.out d t.st.q (w ++ (t.st.pc ++ [])) = _
            rw [List.append_nil]
          rw [ew]
          refine ⟨e, rfl, q3 _ _ ?_, hTL8.mono (TK.of ((sa.trans q2).trans q3))⟩
          rw [upd_same, hd]
          cases d <;> rfl
        rcases hpl2 with ⟨hmv, rfl⟩ | ⟨hmv, rfl⟩
        · rw [c3 hmv] at hD
          by_cases p0 : p = 0
          · rw [p0, cr_left] at hD
            refine ⟨_, rfl, (p : Int) - 1, 0, rfl, rfl, _, rfl, ite2 (fun _ => iteT ?_) fun z => absurd (decide_eq_true (by omega)) z⟩
            exact ⟨_, rfl, s, _, 4, .str (mvS t.st.mv), rfl, rfl, .of e48, atI_nat (j := 4) rfl, _, rfl, small_le (by show 3 ≤ 100000; decide), fun e ne => ⟨_, rfl, small_le (by show 2 ≤ 100000; decide), fun a na => hout false hmv hD a e H9 H9 (Same.refl _) ne na⟩⟩
          · refine ⟨_, rfl, (p : Int) - 1, 0, rfl, rfl, _, rfl, ite2 (fun z => absurd (of_decide_eq_true z) (by omega)) fun _ => ⟨_, rfl, _, rfl, rw_, _, rfl, .inl (.of hrow8), rfl, _, rfl, ite2 (fun z => absurd (V.int.inj (of_decide_eq_true z)) (by rw [hmapl]; omega)) fun _ => ?_⟩⟩
            have hin : Inn row.length false p := ⟨fun z => (by cases z.1), fun z => p0 z.2⟩
            rw [cr_place _ _ hin (by omega), pre_pre] at hD
            have ep : (p : Int) - 1 = ((p - 1 : Nat) : Int) := by omega
            rw [ep]
            exact ⟨p - 1, t.st.q, w ++ t.st.pc, p3, ts ++ as, _, _, _, _, rfl, s28, e8, hTL8, by rw [List.length_append]; omega, by omega, hD⟩
        · rw [c2 hmv] at hD
          by_cases p0 : p + 1 = row.length
          · rw [p0, cr_right] at hD
            refine ⟨_, rfl, (p : Int) + 1, 0, rfl, rfl, _, rfl, ite2 (fun z => absurd (of_decide_eq_true z) (by omega)) fun _ => ⟨_, rfl, _, rfl, rw_, _, rfl, .inl (.of hrow8), rfl, _, rfl, ite2 (fun _ => ?_) fun z => absurd (decide_eq_true (by rw [hmapl, ← p0]; rfl)) z⟩⟩
            exact ⟨_, rfl, s, _, 4, .str (mvS t.st.mv), rfl, rfl, .of e48, atI_nat (j := 4) rfl, _, rfl, small_le (by show 3 ≤ 100000; decide), fun e ne => ⟨_, rfl, small_le (by show 2 ≤ 100000; decide), fun a na => hout true hmv hD a e H9 H9 (Same.refl _) ne na⟩⟩
          · refine ⟨_, rfl, (p : Int) + 1, 0, rfl, rfl, _, rfl, ite2 (fun z => absurd (of_decide_eq_true z) (by omega)) fun _ => ⟨_, rfl, _, rfl, rw_, _, rfl, .inl (.of hrow8), rfl, _, rfl, ite2 (fun z => absurd (V.int.inj (of_decide_eq_true z)) (by rw [hmapl]; omega)) fun _ => ?_⟩⟩
            rw [pre_pre] at hD
            exact ⟨p + 1, t.st.q, w ++ t.st.pc, p3, ts ++ as, _, _, _, _, rfl, s28, e8, hTL8, by rw [List.length_append]; omega, by omega, hD⟩
end
end K36
/-! _law_deed, _law_stretch -/
namespace K36
open PySem PySem.Spec PyProof.Rows L2
abbrev ND : List Str := ["_law_machine_here", "_law_row", "_law_left", "_law_right", "_law_side", "_law_start", "_law_end", "_law_told", "_law_one"]
theorem scDeed : FnScope ND ["_law_machine_here", "_law_row", "_law_left", "_law_right", "_law_side", "_law_start"] (defScope sDeed) := ⟨rfl, rfl, rfl, by decide +kernel, rfl, by decide +kernel, by decide +kernel⟩
def spDeed : Sp := fun vs H Q _ => ∃ (m rw_ : Addr) (M : Mach) (row : List Nat) (l r : Nat) (b : Bool) (q : Nat), vs = [.ref m, .ref rw_, natV l, natV r, .str (sideS b), natV q] ∧ Row4 H m rw_ M row l r q ∧
  ∀ v H', Same H H' → DeedAt H' v (M.deeds row (l, r, b, q)) → Q v H'
section
variable {P : Program} {w : World} {K : PySem.W.Frag} {mg : Str → Option Value} {base : Heap}
theorem ok_deed {f fW fG : Addr} {fd fdW fdG : FuncData} (F : Fun K "_law_deed" "_law_deed" sDeed f fd) (T : Free mg)
    (FW : Fun K "_law_worth" "_law_worth" sWorth fW fdW) (bW : Binds K fdW ["_law_reader", "_law_row"] []) (gW : mg "_law_worth" = some (.ref fW))
    (FG : Fun K "_law_goes" "_law_goes" sGoes fG fdG) (bG : Binds K fdG ["_law_machine_here", "_law_row", "_law_left", "_law_right", "_law_side", "_law_start"] []) (gG : mg "_law_goes" = some (.ref fG)) :
    FnOk P w K mg base CX0 3 f fd ["_law_machine_here", "_law_row", "_law_left", "_law_right", "_law_side", "_law_start"] spDeed := by
  have GG : FnOk P w K mg base CX0 2 fG fdG ["_law_machine_here", "_law_row", "_law_left", "_law_right", "_law_side", "_law_start"] spGoes := ok_goes FG T FW bW gW
  refine F.ok scDeed (fun vs H Q E h => ?_) (fun cdv A outer s H vs Q E hr h => ?_)
  · obtain ⟨m, rw_, M, row, l, r, b, q, rfl, _⟩ := h
    rfl
  · obtain ⟨m, rw_, M, row, l, r, b, q, rfl, R4, k⟩ := h
    refine ⟨_, pss_cons (ps_asg (pe_call GG hr rfl gG FG.kp bG .nil pass0 (pa_cons (pv 0) (pa_cons (pv 1) (pa_cons (pv 2) (pa_cons (pv 3) (pa_cons (pv 4) (pa_cons (pv 5) pa_nil)))))))
        (pg_unl rfl (pgs_cons (pg_name (i := 6) scDeed.nd rfl (Or.inl rfl)) (pgs_cons (pg_name (i := 7) scDeed.nd rfl (Or.inl rfl)) pgs_nil))))
      (pss_cons (ps_if (pt_cmpR op_isN (pv 6) pe_non (nomark _)) (pss_one (ps_ret pe_non)) pss_nil)
      (pss_one (ps_ret (pe_op op_catT (pv 6) (pe_tup (pa_cons (pe_callTy call_tuple_of (by rfl) T.tuple (by decide +kernel) (pa_cons (pe_lc (own := [("_law_one", 8)]) (g := gName 8) (tt := tYes) (te := tOp (rIxT K) (tVar 8) (tC (.int 3))) rfl scDeed.nd
          (pi_list (pv 7)) (blkOk_by (N := ND) (sc := defScope sDeed) (by decide +kernel))
          (fun _ _ _ _ _ => pg_name (i := 8) scDeed.nd rfl (Or.inl rfl)) (fun _ _ _ _ _ => pts_nil)
          (fun _ _ _ _ _ => pe_ix ix_tup (pv 8) pe_int (fun _ _ => rfl))) pa_nil)) pa_nil)))))), ?_⟩
    refine ⟨_, rfl, _, rfl, _, rfl, _, rfl, _, rfl, _, rfl, m, rw_, M, row, l, r, b, q, rfl, R4, fun a H1 s1 _ ⟨ev, tl, ts, e1, e2, e3⟩ => ⟨a, _, rfl, .of e1, rfl, ?_⟩⟩
    refine ⟨_, _, rfl, _, _, rfl, rfl, ?_⟩
    have hw := deeds_len R4.good (row := row) (by have := R4.len; omega) (l, r, b, q)
    revert e3 hw
    generalize M.deeds row (l, r, b, q) = d at k
    intro e3 hw
    by_cases hd : d = .non
    · subst hd
      obtain rfl : ev = .non := e3
      exact ⟨_, rfl, rfl, _, rfl, ite2 (fun _ => k .non H1 s1 rfl) fun z => absurd (decide_eq_true rfl) z⟩
    · obtain ⟨e, xs, w, rfl, he, hne, hx, hw, hTL, kk⟩ : ∃ (e : Addr) (xs : List V) (w : List Int), ev = .ref e ∧ H1 e = some (.tup xs) ∧ xs ≠ [] ∧ xs.length ≤ 3 ∧ w.length ≤ 1000 ∧ TL H1 ts w ∧ ∀ a p H', Same H1 H' → H' a = some (.tup (xs ++ [.ref p])) → H' p = some (.tup (w.map V.int)) → Q (.ref a) H' := by
        cases d with
        | non => exact absurd rfl hd
        | stop w =>
          obtain ⟨e, rfl, he, hTL⟩ := e3
          exact ⟨e, _, w, rfl, he, by simp, by decide, hw, hTL, fun a p H' s' ea ep => k _ H' (s1.trans s') ⟨a, p, rfl, ea, ep⟩⟩
        | out sd q' w =>
          obtain ⟨e, rfl, he, hTL⟩ := e3
          exact ⟨e, _, w, rfl, he, by simp, (by show 3 ≤ 3; decide), hw, hTL, fun a p H' s' ea ep => k _ H' (s1.trans s') ⟨a, p, rfl, ea, ep⟩⟩
      refine ⟨_, rfl, rfl, _, rfl, ite2 (fun z => absurd (of_decide_eq_true z) (fun y => by cases y)) fun _ => ?_⟩
      refine ⟨_, rfl, _, rfl, tl, rfl, ⟨_, .of e2⟩, fun D nD => ?_⟩
      refine lc_list (K := K) (a := tl) (xs := ts.map V.ref) (fun i H' => Grow H1 H' D ((w.take i).map V.int)) (Grow.start nD) (fun i H' _ pm => .of (pm.same _ _ e2)) (fun i x H' hx' pm => ?_) fun H2 pm => ?_
      · have hil : i < ts.length := by
          have := (List.getElem?_eq_some_iff.mp hx').1
          rwa [List.length_map] at this
        have hil2 : i < w.length := by rw [← Paired.length hTL]; exact hil
        obtain ⟨t, ea, a', b', j', ht⟩ := pairedGet hTL (List.getElem?_eq_getElem hil2)
        rw [List.getElem?_map, ea] at hx'
        obtain rfl : V.ref t = x := Option.some.inj hx'
        refine ⟨rfl, _, rfl, t, _, 3, .int w[i], rfl, rfl, .of (pm.same _ _ ht), atI_nat (j := 3) rfl, ?_⟩
        have := Grow.step (y := V.int w[i]) pm nD (Same.refl _) (by rw [List.length_map, List.length_take]; omega)
        rw [List.take_add_one, List.getElem?_eq_getElem hil2, List.map_append]
        exact this
      · have el : (ts.map V.ref).length = w.length := by rw [List.length_map, Paired.length hTL]
        have eD : H2 D = some (.lst (w.map V.int)) := by
          have := pm.at_
          rwa [el, List.take_length] at this
        refine ⟨D, _, rfl, .inl ⟨.of eD, fun p np => ⟨small_le (by show 1 ≤ 100000; decide), fun p2 np2 => ?_⟩⟩⟩
        have q1 := same_upd (o := .tup (w.map V.int)) np
        have q2 := same_upd (o := .tup [V.ref p]) np2
        refine ⟨e, p2, _, _, rfl, rfl, .of (((pm.same.trans q1).trans q2) _ _ he), .of upd_same, hne, small_le (by show xs.length + 1 ≤ 100000; omega), fun z => (by cases z), fun _ a na => ?_⟩
        have q3 := same_upd (o := .tup (xs ++ [V.ref p])) na
        exact kk a p _ (((pm.same.trans q1).trans q2).trans q3) upd_same ((q2.trans q3) _ _ upd_same)
/-! ### a kept stretch -/
end
/-- the dict grows -/
structure DG (H0 H : Hp) (d : Addr) (F : Ctx4 → Dd) (done : List Ctx4) : Prop where
  same : Same H0 H
  ex : ∃ kvs, H d = some (.dT kvs) ∧ DictIs H kvs F done
theorem DG.start {H0 : Hp} {d : Addr} {F : Ctx4 → Dd} (h : H0 d = none) : DG H0 (upd H0 d (.dT [])) d F [] := ⟨same_upd h, [], upd_same, DictIs.nil⟩
theorem DG.go {H0 H H1 : Hp} {d : Addr} {F : Ctx4 → Dd} {done : List Ctx4} (h : DG H0 H d F done) (s : Same H H1) : DG H0 H1 d F done := by
  obtain ⟨kvs, e, di⟩ := h.ex
  exact ⟨h.same.trans s, kvs, s _ _ e, di.mono (TK.of s)⟩
theorem DG.put {H0 H : Hp} {d : Addr} {F : Ctx4 → Dd} {done : List Ctx4} {z : Ctx4} {x : V} (h : DG H0 H d F done) (hd : H0 d = none) (dv : DeedAt H x (F z)) (hl : done.length < 100000) :
    ∃ kvs, H d = some (.dT kvs) ∧ kvs.length < sizeLine ∧ DG H0 (upd H d (.dT (putK kvs (kk z) x))) d F (done ++ [z]) := by
  obtain ⟨kvs, e, di⟩ := h.ex
  refine ⟨kvs, e, small_lt (by have := di.len; omega), fun b o eb => ?_, _, upd_same, ?_⟩
  · rw [upd_ne (ne_of_none eb hd)]
    exact h.same _ _ eb
  · exact (di.put dv).mono (tk_write e (fun xs z => by cases z))
def fS (S u v : Nat) (b : Bool) : List Ctx4 := (List.range S).map fun p => (u, v, b, p)
def fV (S u v : Nat) : List Ctx4 := [false, true].flatMap (fS S u v)
def fU (m S u : Nat) : List Ctx4 := (List.range m).flatMap (fV S u)
theorem allZ_eq (m S : Nat) : (List.range m).flatMap (fU m S) = allZ m S := rfl
theorem fS_len {S : Nat} (h : S ≤ 3) (u v : Nat) (b : Bool) : (fS S u v b).length ≤ 3 := by unfold fS; simpa using h
theorem fV_len {S : Nat} (h : S ≤ 3) (u v : Nat) : (fV S u v).length ≤ 6 := by
  have := flat_len (fS S u v) 3 (fS_len h u v) [false, true]
  simpa [fV] using this
theorem fU_len {m S : Nat} (hm : m ≤ 3) (h : S ≤ 3) (u : Nat) : (fU m S u).length ≤ 18 := by
  have := flat_len (fV S u) 6 (fV_len h u) (List.range m)
  rw [List.length_range] at this
  show ((List.range m).flatMap (fV S u)).length ≤ 18
  omega
section
variable {P : Program} {w : World} {K : PySem.W.Frag} {mg : Str → Option Value} {base : Heap}
abbrev SSt (m rw_ : Addr) (mn : Nat) (d : Addr) (x4 x5 x6 x7 : Option V) : L2.St := [some (.ref m), some (.ref rw_), some (natV mn), some (.ref d), x4, x5, x6, x7]
abbrev NS : List Str := ["_law_machine_here", "_law_row", "_law_many", "_law_deeds", "_law_u", "_law_v", "_law_side", "_law_p"]
theorem scStretch : FnScope NS ["_law_machine_here", "_law_row"] (defScope sStretch) := ⟨rfl, rfl, rfl, by decide +kernel, rfl, by decide +kernel, by decide +kernel⟩
def spStretch : Sp := fun vs H Q _ => ∃ (m rw_ : Addr) (M : Mach) (row : List Nat), vs = [.ref m, .ref rw_] ∧ MachAt H m M ∧ M.Good ∧ H rw_ = some (.lst (row.map natV)) ∧ M.mc.Row row ∧ row.length ≤ 20 ∧
  ∀ a H', Same H H' → H a = none → StrAt H' a (M.mc.worth row) (M.deeds row) M.zs → Q (.ref a) H'
theorem ok_stretch {f fW fG fD : Addr} {fd fdW fdG fdD : FuncData} (F : Fun K "_law_stretch" "_law_stretch" sStretch f fd) (T : Free mg)
    (FW : Fun K "_law_worth" "_law_worth" sWorth fW fdW) (bW : Binds K fdW ["_law_reader", "_law_row"] []) (gW : mg "_law_worth" = some (.ref fW))
    (FG : Fun K "_law_goes" "_law_goes" sGoes fG fdG) (bG : Binds K fdG ["_law_machine_here", "_law_row", "_law_left", "_law_right", "_law_side", "_law_start"] []) (gG : mg "_law_goes" = some (.ref fG))
    (FD : Fun K "_law_deed" "_law_deed" sDeed fD fdD) (bD : Binds K fdD ["_law_machine_here", "_law_row", "_law_left", "_law_right", "_law_side", "_law_start"] []) (gD : mg "_law_deed" = some (.ref fD)) :
    FnOk P w K mg base CX0 4 f fd ["_law_machine_here", "_law_row"] spStretch := by
  have GW : FnOk P w K mg base CX0 1 fW fdW ["_law_reader", "_law_row"] spWorth := ok_worth FW
  have GD : FnOk P w K mg base CX0 3 fD fdD ["_law_machine_here", "_law_row", "_law_left", "_law_right", "_law_side", "_law_start"] spDeed := ok_deed FD T FW bW gW FG bG gG
  refine F.ok scStretch (fun vs H Q E h => ?_) (fun cdv A outer s H vs Q E hr h => ?_)
  · obtain ⟨m, rw_, M, row, rfl, _⟩ := h
    rfl
  · obtain ⟨m, rw_, M, row, rfl, hM, g, hrow, hR, hlen, k⟩ := h
    refine ⟨_, pss_cons (ps_set (i := 2) scStretch.nd rfl (Or.inl rfl) (pe_callB call_len_seq (by rfl) T.len PySem.boot_len (pa_cons (pe_ix ix_tup (pe_ix ix_tup (pv 0) pe_int (fun _ _ => rfl)) pe_int (fun _ _ => rfl)) pa_nil)))
      (pss_cons (ps_set (i := 3) scStretch.nd rfl (Or.inl rfl) pe_dnewT)
      (pss_cons (ps_for PassesOwn.never rfl (pi_range1 rfl T.range (pa_cons (pv 2) pa_nil)) (pg_name (i := 4) scStretch.nd rfl (Or.inl rfl))
        (pss_one (ps_for PassesOwn.never rfl (pi_range1 rfl T.range (pa_cons (pv 2) pa_nil)) (pg_name (i := 5) scStretch.nd rfl (Or.inl rfl))
        (pss_one (ps_for PassesOwn.never rfl (pi_list (pe_lst (pa_cons pe_str (pa_cons pe_str pa_nil)))) (pg_name (i := 6) scStretch.nd rfl (Or.inl rfl))
        (pss_one (ps_for PassesOwn.never rfl (pi_range1 rfl T.range (pa_cons (pe_ix ix_tup (pv 0) pe_int (fun _ _ => rfl)) pa_nil)) (pg_name (i := 7) scStretch.nd rfl (Or.inl rfl))
        (pss_one (ps_dput (hu_of hr) (pv 3) (pe_tup (pa_cons (pv 4) (pa_cons (pv 5) (pa_cons (pv 6) (pa_cons (pv 7) pa_nil))))) (pe_call GD hr rfl gD FD.kp bD .nil pass0 (pa_cons (pv 0) (pa_cons (pv 1) (pa_cons (pv 4) (pa_cons (pv 5) (pa_cons (pv 6) (pa_cons (pv 7) pa_nil))))))) rfl)))))))))
      (pss_one (ps_ret (pe_tup (pa_cons (pe_call GW (hr.mono (by decide)) rfl gW FW.kp bW .nil pass0 (pa_cons (pe_ix ix_tup (pv 0) pe_int (fun _ _ => rfl)) (pa_cons (pv 1) pa_nil))) (pa_cons (pv 3) pa_nil))))))), ?_⟩
    obtain ⟨lk, wv, ov, ts, ss, h1, hL, h6, h7⟩ := hM.ex
    obtain ⟨al, am, rows, ac, h2, h3, h4, h5⟩ := hL.ex
    obtain ⟨b1, b2, b3⟩ := g.small
    have el : (rows.map V.ref).length = M.mul.length := by rw [List.length_map, Paired.length h5]
    refine ⟨_, rfl, m, _, 2, .ref lk, rfl, rfl, .of h1, atI_nat (j := 2) rfl, lk, _, 2, .ref am, rfl, rfl, .of h2, atI_nat (j := 2) rfl, am, _, rfl, .inr (.of h4), ?_⟩
    rw [el]
    refine fun d nd => ?_
    have D0 : DG H (upd H d (.dT [])) d (M.deeds row) [] := DG.start nd
    refine ⟨_, rfl, (M.mul.length : Int), rfl, by omega, by omega, ?_⟩
    rw [Int.toNat_natCast]
    refine for_rng0 (fun i σ H' => ∃ x4 x5 x6 x7, σ = SSt m rw_ M.mul.length d x4 x5 x6 x7 ∧ DG H H' d (M.deeds row) ((List.range i).flatMap (fU M.mul.length M.S))) ⟨none, none, none, none, rfl, D0⟩ (fun u σ Hu hu hq => ?_) fun σ H9 hq => ?_
    rotate_left
    · obtain ⟨x4, x5, x6, x7, rfl, dg⟩ := hq
      obtain ⟨kvs, ed, di⟩ := dg.ex
      refine ⟨_, rfl, m, _, 2, .ref lk, rfl, rfl, .of (dg.same _ _ h1), atI_nat (j := 2) rfl, _, rfl, lk, rw_, M, row, rfl, hL.mono (TK.of dg.same), g, dg.same _ _ hrow, hR, _, rfl, small_le (by show 2 ≤ 100000; decide), fun a na => ?_⟩
      have q := same_upd (o := .tup [natV (M.mc.worth row), .ref d]) na
      exact k a _ (dg.same.trans q) (dg.same.free na) ⟨d, kvs, upd_same, q _ _ ed, di.mono (TK.of q)⟩
    obtain ⟨x4, x5, x6, x7, rfl, dgu⟩ := hq
    refine ⟨_, rfl, (M.mul.length : Int), rfl, by omega, by omega, ?_⟩
    rw [Int.toNat_natCast]
    refine for_rng0 (fun j σ H' => ∃ x5 x6 x7, σ = SSt m rw_ M.mul.length d (some (natV u)) x5 x6 x7 ∧ DG H H' d (M.deeds row) ((List.range u).flatMap (fU M.mul.length M.S) ++ (List.range j).flatMap (fV M.S u))) ⟨x5, x6, x7, rfl, by simpa using dgu⟩ (fun v σ Hv hv hq => ?_) fun σ H9 hq => ?_
    rotate_left
    · obtain ⟨x5, x6, x7, rfl, dg⟩ := hq
      refine ⟨_, x5, x6, x7, rfl, ?_⟩
      rw [List.range_succ, List.flatMap_append, List.flatMap_singleton]
      exact dg
    clear x5 x6 x7
    obtain ⟨x5, x6, x7, rfl, dgv⟩ := hq
    refine ⟨small_le (by show 2 ≤ 100000; decide), fun ll nll => ⟨ll, rfl, ⟨_, .of upd_same⟩, for_list (K := K) (a := ll) (xs := [.str "left", .str "right"]) (fun c σ H' => ∃ x6 x7, σ = SSt m rw_ M.mul.length d (some (natV u)) (some (natV v)) x6 x7 ∧ H' ll = some (.lst [.str "left", .str "right"]) ∧
      DG H H' d (M.deeds row) (((List.range u).flatMap (fU M.mul.length M.S) ++ (List.range v).flatMap (fV M.S u)) ++ ([false, true].take c).flatMap (fS M.S u v))) ⟨x6, x7, rfl, upd_same, by simpa using dgv.go (same_upd nll)⟩ (fun _ _ _ _ ⟨_, _, _, e, _⟩ => .of e) (fun c x σ Hc hx hq => ?_) fun σ H9 hq => ?_⟩⟩
    rotate_left
    · obtain ⟨x6, x7, rfl, _, dg⟩ := hq
      refine ⟨_, x6, x7, rfl, ?_⟩
      rw [List.range_succ, List.flatMap_append, List.flatMap_singleton, ← List.append_assoc]
      exact dg
    clear x6 x7
    obtain ⟨x6, x7, rfl, ell, dgc⟩ := hq
    obtain ⟨b, rfl, et⟩ : ∃ b : Bool, x = .str (sideS b) ∧ [false, true].take (c + 1) = [false, true].take c ++ [b] := by
      match c, hx with
      | 0, hx => exact ⟨false, (Option.some.inj hx).symm, rfl⟩
      | 1, hx => exact ⟨true, (Option.some.inj hx).symm, rfl⟩
    refine ⟨_, rfl, m, _, 1, natV M.S, rfl, rfl, .of (dgc.same _ _ h1), atI_nat (j := 1) rfl, (M.S : Int), rfl, by omega, by omega, ?_⟩
    rw [Int.toNat_natCast, et]
    have hA := flat_len (fU M.mul.length M.S) 18 (fU_len b1 b2) (List.range u)
    have hB := flat_len (fV M.S u) 6 (fV_len b2 u) (List.range v)
    have hC := flat_len (fS M.S u v) 3 (fS_len b2 u v) ([false, true].take c)
    have hC2 : ([false, true].take c).length ≤ 2 := by rw [List.length_take]; exact Nat.min_le_right _ _
    rw [List.length_range] at hA hB
    have hAB : ((List.range u).flatMap (fU M.mul.length M.S) ++ (List.range v).flatMap (fV M.S u)).length ≤ 100 := by
      rw [List.length_append]
      omega
    have hC : (([false, true].take c).flatMap (fS M.S u v)).length ≤ 6 := by omega
    clear hA hB hC2 et hx dgv dgu D0 nll
    revert dgc hAB hC
    generalize ((List.range u).flatMap (fU M.mul.length M.S) ++ (List.range v).flatMap (fV M.S u)) = A
    generalize ([false, true].take c) = C
    intro dgc hAB hC
    refine for_rng0 (fun n σ H' => ∃ x7, σ = SSt m rw_ M.mul.length d (some (natV u)) (some (natV v)) (some (.str (sideS b))) x7 ∧ H' ll = some (.lst [.str "left", .str "right"]) ∧
      DG H H' d (M.deeds row) ((A ++ C.flatMap (fS M.S u v)) ++ (List.range n).map fun p => (u, v, b, p))) ⟨x7, rfl, ell, by simpa using dgc⟩ (fun p σ Hp hp hq => ?_) fun σ H9 hq => ?_
    rotate_left
    · obtain ⟨x7, rfl, ell, dg⟩ := hq
      refine ⟨_, x7, rfl, ell, ?_⟩
      rw [List.flatMap_append, List.flatMap_singleton, ← List.append_assoc]
      exact dg
    clear x7
    obtain ⟨x7, rfl, ell, dgp⟩ := hq
    have hM' := hM.mono (TK.of dgp.same)
    refine ⟨_, rfl, _, rfl, _, rfl, _, rfl, _, rfl, _, rfl, m, rw_, M, row, u, v, b, p, rfl, ⟨hM', g, dgp.same _ _ hrow, hR, hlen, hu, hv⟩, fun x H1 s1 dv => ?_⟩
    refine ⟨_, rfl, _, rfl, _, rfl, _, rfl, _, rfl, small_le (by show 4 ≤ 100000; decide), fun kt nkt => ?_⟩
    have q := same_upd (o := .tup [natV u, natV v, .str (sideS b), natV p]) nkt
    obtain ⟨kvs, ed, lk', dg2⟩ := DG.put (z := (u, v, b, p)) (dgp.go (s1.trans q)) nd (dv.mono (TK.of q)) (by
      rw [List.length_append, List.length_append, List.length_map, List.length_range]
      omega)
    refine ⟨d, _, rfl, DPut.t (k := kk (u, v, b, p)) ed upd_same lk', _, rfl, ?_, ?_⟩
    · rw [upd_ne (ne_of ((s1.trans q) _ _ ell) ed (fun z => by cases z))]
      exact (s1.trans q) _ _ ell
    · rw [List.range_succ, List.map_append, ← List.append_assoc]
      exact dg2
end
end K36
/-! the law -/
namespace K36
open PySem PySem.Spec PyProof.Rows L2
/-- the defs that the law itself has -/
structure LDefs (K : PySem.W.Frag) (mg : Str → Option Value) : Prop where
  draw : ∃ f fd, Fun K "_law_draw" "_law_draw" sDraw f fd ∧ Binds K fd ["_law_state", "_law_limit"] [] ∧ mg "_law_draw" = some (.ref f)
  product : ∃ f fd, Fun K "_law_product" "_law_product" sProduct f fd ∧ Binds K fd ["_law_kind", "_law_count", "_law_x", "_law_y"] [] ∧ mg "_law_product" = some (.ref f)
  word : ∃ f fd, Fun K "_law_word" "_law_word" sWord f fd ∧ Binds K fd ["_law_state", "_law_count", "_law_most"] [] ∧ mg "_law_word" = some (.ref f)
  worth : ∃ f fd, Fun K "_law_worth" "_law_worth" sWorth f fd ∧ Binds K fd ["_law_reader", "_law_row"] [] ∧ mg "_law_worth" = some (.ref f)
  reader : ∃ f fd, Fun K "_law_small_reader" "_law_small_reader" sReader f fd ∧ Binds K fd ["_law_state", "_law_count"] [] ∧ mg "_law_small_reader" = some (.ref f)
  machine : ∃ f fd, Fun K "_law_machine" "_law_machine" sMachine f fd ∧ Binds K fd ["_law_state", "_law_most", "_law_looks"] [] ∧ mg "_law_machine" = some (.ref f)
  goes : ∃ f fd, Fun K "_law_goes" "_law_goes" sGoes f fd ∧ Binds K fd ["_law_machine_here", "_law_row", "_law_left", "_law_right", "_law_side", "_law_start"] [] ∧ mg "_law_goes" = some (.ref f)
  deed : ∃ f fd, Fun K "_law_deed" "_law_deed" sDeed f fd ∧ Binds K fd ["_law_machine_here", "_law_row", "_law_left", "_law_right", "_law_side", "_law_start"] [] ∧ mg "_law_deed" = some (.ref f)
  stretch : ∃ f fd, Fun K "_law_stretch" "_law_stretch" sStretch f fd ∧ Binds K fd ["_law_machine_here", "_law_row"] [] ∧ mg "_law_stretch" = some (.ref f)
  joined : ∃ f fd, Fun K "joined" "joined" sJoined f fd ∧ Binds K fd ["machine", "first", "second"] [] ∧ mg "joined" = some (.ref f)
abbrev NL : List Str := ["_law_script", "_law_state", "_law_machine_here", "_law_k", "_law_one", "_law_two", "_law_first", "_law_second"]
theorem scLaw : FnScope NL ["_law_script"] (defScope sLaw) := ⟨rfl, rfl, rfl, by decide +kernel, rfl, by decide +kernel, by decide +kernel⟩
def spLaw (K : PySem.W.Frag) : Sp := fun vs H Q _ => ∃ (a : Addr) (ns : List Int), vs = [.ref a] ∧ SqL K H a (ns.map V.int) ∧ ns.length ≤ 63 ∧ ∀ H', Q (.bl true) H'
section
variable {P : Program} {w : World} {K : PySem.W.Frag} {mg : Str → Option Value} {base : Heap} {CR CW aS : Addr}
theorem ok_law {f : Addr} {fd : FuncData} (F : Fun K "law" "law" sLaw f fd) (T : Txt K mg CR CW aS) (D : Defs K mg CR CW) (L : LDefs K mg) : FnOk P w K mg base CX0 7 f fd ["_law_script"] (spLaw K) := by
  obtain ⟨fD, fdD, FD, bD, gD⟩ := L.draw
  obtain ⟨fP, fdP, FP, bP, gP⟩ := L.product
  obtain ⟨fWd, fdWd, FWd, bWd, gWd⟩ := L.word
  obtain ⟨fW, fdW, FW, bW, gW⟩ := L.worth
  obtain ⟨fR, fdR, FR, bR, gR⟩ := L.reader
  obtain ⟨fM, fdM, FM, bM, gM⟩ := L.machine
  obtain ⟨fG, fdG, FG, bG, gG⟩ := L.goes
  obtain ⟨fE, fdE, FE, bE, gE⟩ := L.deed
  obtain ⟨fS, fdS, FS, bS, gS⟩ := L.stretch
  obtain ⟨fJ, fdJ, FJ, bJ, gJ⟩ := L.joined
  have GM : FnOk P w K mg base CX0 3 fM fdM ["_law_state", "_law_most", "_law_looks"] spMachine := ok_machine FM T.fr FD bD gD FP bP gP FR bR gR
  have GW : FnOk P w K mg base CX0 2 fWd fdWd ["_law_state", "_law_count", "_law_most"] spWord := ok_word FWd T.fr FD bD gD
  have GS : FnOk P w K mg base CX0 4 fS fdS ["_law_machine_here", "_law_row"] spStretch := ok_stretch FS T.fr FW bW gW FG bG gG FE bE gE
  have GJ : FnOk P w K mg base CX0 6 fJ fdJ ["machine", "first", "second"] spJoined := ok_joined FJ T D
  refine F.ok scLaw (fun vs H Q E h => ?_) (fun cdv A outer s H vs Q E hr h => ?_)
  · obtain ⟨a, ns, rfl, _⟩ := h
    rfl
  · obtain ⟨a, ns, rfl, hS, hn, k⟩ := h
    have hr2 : Room 2 _ := hr.mono (by decide)
    have hr3 : Room 3 _ := hr.mono (by decide)
    have hr4 : Room 4 _ := hr.mono (by decide)
    have hu : (A.deeper (envOfC "law" (defScope sLaw) s.heap.objs.size f cdv)).units + 80 < cLine := by have := hr.un; omega
    refine ⟨_, pss_cons (ps_set (i := 1) scLaw.nd rfl (Or.inl rfl) (pe_lst (pa_cons pe_int (pa_cons pe_int (pa_cons (pe_callTy call_list_of (by rfl) T.fr.list (by decide +kernel) (pa_cons (pv 0) pa_nil)) (pa_cons pe_int pa_nil))))))
      (pss_cons (ps_set (i := 2) scLaw.nd rfl (Or.inl rfl) (pe_call GM hr3 rfl gM FM.kp bM .nil pass0 (pa_cons (pv 1) (pa_cons pe_int (pa_cons pe_int pa_nil)))))
      (pss_cons (ps_for PassesOwn.never rfl (pi_range1 rfl T.fr.range (pa_cons pe_int pa_nil)) (pg_name (i := 3) scLaw.nd rfl (Or.inl rfl))
        (pss_cons (ps_set (i := 4) scLaw.nd rfl (Or.inl rfl) (pe_call GW hr2 rfl gWd FWd.kp bWd .nil pass0 (pa_cons (pv 1) (pa_cons (pe_op op_add (pe_ix ix_tup (pv 2) pe_int (fun _ _ => rfl)) pe_int) (pa_cons pe_int pa_nil)))))
        (pss_cons (ps_set (i := 5) scLaw.nd rfl (Or.inl rfl) (pe_call GW hr2 rfl gWd FWd.kp bWd .nil pass0 (pa_cons (pv 1) (pa_cons (pe_op op_add (pe_ix ix_tup (pv 2) pe_int (fun _ _ => rfl)) pe_int) (pa_cons pe_int pa_nil)))))
        (pss_cons (ps_set (i := 6) scLaw.nd rfl (Or.inl rfl) (pe_call GS hr4 rfl gS FS.kp bS .nil pass0 (pa_cons (pv 2) (pa_cons (pv 4) pa_nil))))
        (pss_cons (ps_set (i := 7) scLaw.nd rfl (Or.inl rfl) (pe_call GS hr4 rfl gS FS.kp bS .nil pass0 (pa_cons (pv 2) (pa_cons (pv 5) pa_nil))))
        (pss_cons (ps_if (pt_cmpR (op_neS hu) (pe_call GJ hr rfl gJ FJ.kp bJ .nil pass0 (pa_cons (pv 2) (pa_cons (pv 6) (pa_cons (pv 7) pa_nil))))
            (pe_call GS hr4 rfl gS FS.kp bS .nil pass0 (pa_cons (pv 2) (pa_cons (pe_op op_cat (pv 4) (pv 5)) pa_nil))) (nomark _)) (pss_one (ps_ret pe_bl)) pss_nil)
        (pss_one (ps_if (PW.pt (pw_or (pt_cmpR (op_neS hu) (pv 6) (pe_call GS hr4 rfl gS FS.kp bS .nil pass0 (pa_cons (pv 2) (pa_cons (pv 4) pa_nil))) (nomark _))
            (pw_or1 (pt_cmpR (op_neS hu) (pv 7) (pe_call GS hr4 rfl gS FS.kp bS .nil pass0 (pa_cons (pv 2) (pa_cons (pv 5) pa_nil))) (nomark _))))) (pss_one (ps_ret pe_bl)) pss_nil))))))))
      (pss_one (ps_ret pe_bl)))), ?_⟩
    -- the state
    refine ⟨_, rfl, a, _, rfl, .inl hS, fun c nc => ⟨small_le (by show 4 ≤ 100000; decide), fun st nst => ?_⟩⟩
    have nsc : c ≠ st := fun z => by rw [z, upd_same] at nst; cases nst
    have ok1 : StOk (upd (upd H c (.lst (ns.map V.int))) st (.lst [.int 0, .int 0, .ref c, .int 1])) st c := ⟨0, 0, 1, ns, upd_same, Int.le_refl _, nsc, by rw [upd_ne nsc, upd_same]⟩
    -- the machine
    refine ⟨_, rfl, st, c, rfl, ok1, fun m M H2 b2 ok2 hM g n3 => ?_⟩
    refine ⟨2, rfl, by decide, by decide, for_rng0 (fun i σ H' => ∃ x3 x4 x5 x6 x7, σ = [some (.ref a), some (.ref st), some (.ref m), x3, x4, x5, x6, x7] ∧ But st H2 H' ∧ StOk H' st c) ⟨none, none, none, none, none, rfl, But.refl _ _, ok2⟩ (fun i σ H3 hi hq => ?_) fun σ H' hq => ?_⟩
    rotate_left
    · obtain ⟨x3, x4, x5, x6, x7, rfl, _⟩ := hq
      exact k H'
    obtain ⟨x3, x4, x5, x6, x7, rfl, b3, ok3⟩ := hq
    have hM3 := hM.mono (b3.tk ok2)
    obtain ⟨lk, wv, ov, ts, ss, h1, _⟩ := hM3.ex
    -- one
    refine ⟨_, rfl, _, rfl, m, _, 0, natV M.n, rfl, rfl, .of h1, atI_nat (j := 0) rfl, (M.n : Int), 2, rfl, rfl, st, c, M.n + 2, 4, rfl, ok3, by omega, by omega, by decide, fun l1 r1 H4 b4 ok4 nl1 e1 hr1 hl1 => ?_⟩
    have hM4 := hM3.mono (b4.tk ok3)
    obtain ⟨lk', wv', ov', ts', ss', h1', _⟩ := hM4.ex
    -- two
    refine ⟨_, rfl, _, rfl, m, _, 0, natV M.n, rfl, rfl, .of h1', atI_nat (j := 0) rfl, (M.n : Int), 2, rfl, rfl, st, c, M.n + 2, 4, rfl, ok4, by omega, by omega, by decide, fun l2 r2 H5 b5 ok5 nl2 e2 hr2' hl2 => ?_⟩
    have e1' := b5 _ _ e1 (ok3.st_ne nl1).1
    have hM5 := hM4.mono (b5.tk ok4)
    have R1 : M.mc.Row r1 := hr1
    have R2 : M.mc.Row r2 := hr2'
    have R12 : M.mc.Row (r1 ++ r2) := fun x hx => (List.mem_append.mp hx).elim (R1 x) (R2 x)
    -- first, second
    refine ⟨_, rfl, _, rfl, m, l1, M, r1, rfl, hM5, g, e1', R1, by omega, fun s1 H6 sm6 _ st1 => ?_⟩
    refine ⟨_, rfl, _, rfl, m, l2, M, r2, rfl, hM5.mono (TK.of sm6), g, sm6 _ _ e2, R2, by omega, fun s2 H7 sm7 _ st2 => ?_⟩
    have hM7 := (hM5.mono (TK.of sm6)).mono (TK.of sm7)
    have st1' := st1.mono sm7
    have e17 := (sm6.trans sm7) _ _ e1'
    have e27 := (sm6.trans sm7) _ _ e2
    -- joined(..) != stretch(one + two)
    refine ⟨_, rfl, _, rfl, _, rfl, m, s1, s2, M, r1, r2, rfl, ⟨hM7, st1', st2, g, R1, R2, by omega, by omega⟩, fun aj H8 sm8 stj => ?_⟩
    refine ⟨_, rfl, _, rfl, _, rfl, l1, l2, _, _, rfl, rfl, sm8 _ _ e17, sm8 _ _ e27, small_le (by rw [List.length_map, List.length_map]; omega), fun l3 nl3 => ?_⟩
    have q3 := same_upd (o := .lst (r1.map natV ++ r2.map natV)) nl3
    refine ⟨m, l3, M, r1 ++ r2, rfl, (hM7.mono (TK.of sm8)).mono (TK.of q3), g, by rw [upd_same, List.map_append], R12, by rw [List.length_append]; omega, fun s3 H9 sm9 _ st3 => ?_⟩
    refine StrAt.same (stj.mono (q3.trans sm9)) st3 (fun z _ => rfl) ⟨_, rfl, iteF ?_⟩
    have s79 := (sm8.trans q3).trans sm9
    -- first and second are as they were
    refine ⟨_, rfl, _, rfl, _, rfl, m, l1, M, r1, rfl, hM7.mono (TK.of s79), g, s79 _ _ e17, R1, by omega, fun s4 H10 sm10 _ st4 => ?_⟩
    refine StrAt.same (st1'.mono (s79.trans sm10)) st4 (fun z _ => rfl) ⟨_, rfl, iteF ?_⟩
    have s710 := s79.trans sm10
    refine ⟨_, rfl, _, rfl, _, rfl, m, l2, M, r2, rfl, hM7.mono (TK.of s710), g, s710 _ _ e27, R2, by omega, fun s5 H11 sm11 _ st5 => ?_⟩
    refine StrAt.same (st2.mono (s710.trans sm11)) st5 (fun z _ => rfl) ⟨_, rfl, iteF ?_⟩
    have sAll := (((sm6.trans sm7).trans s710).trans sm11)
    exact ⟨_, _, _, _, _, rfl, ((b3.trans b4).trans b5).trans (.of sAll), ok5.same sAll⟩
end
end K36
/-! what the top has written, and the law's own head -/
namespace K36
open PySem PySem.Spec PyProof.Rows L2
theorem all_mk {l : PySem.W.OpenLaw} {w : World} {K : PySem.W.Frag} {h : Heap} {mg : Str → Option Value} {fa CR CW aS f_n f_a f_i f_s f_c f_jd f_jw f_j f_dr f_pr f_wd f_wo f_rd f_mc f_go f_de f_st f_lw : Addr} (X : K.In h) (G : h.Ns mainGlobals mg) (hfa : mg "law" = some (.ref fa))
    {od_n an_n od_a an_a od_i an_i od_s an_s od_c an_c od_jd an_jd od_jw an_jw od_j an_j od_dr an_dr od_pr an_pr od_wd an_wd od_wo an_wo od_rd an_rd od_mc an_mc od_go an_go od_de an_de od_st an_st od_lw an_lw odS : Option Addr} {sl_n sl_a sl_i sl_s sl_c sl_jd sl_jw sl_j sl_dr sl_pr sl_wd sl_wo sl_rd sl_mc sl_go sl_de sl_st sl_lw slS : Array (Option Value)} {oc_n kV_n dc_n pm_n cd_n ct_n oc_a kV_a dc_a pm_a cd_a ct_a oc_i kV_i dc_i pm_i cd_i ct_i oc_s kV_s dc_s pm_s cd_s ct_s oc_c kV_c dc_c pm_c cd_c ct_c oc_jd kV_jd dc_jd pm_jd cd_jd ct_jd oc_jw kV_jw dc_jw pm_jw cd_jw ct_jw oc_j kV_j dc_j pm_j cd_j ct_j oc_dr kV_dr dc_dr pm_dr cd_dr ct_dr oc_pr kV_pr dc_pr pm_pr cd_pr ct_pr oc_wd kV_wd dc_wd pm_wd cd_wd ct_wd oc_wo kV_wo dc_wo pm_wo cd_wo ct_wo oc_rd kV_rd dc_rd pm_rd cd_rd ct_rd oc_mc kV_mc dc_mc pm_mc cd_mc ct_mc oc_go kV_go dc_go pm_go cd_go ct_go oc_de kV_de dc_de pm_de cd_de ct_de oc_st kV_st dc_st pm_st cd_st ct_st oc_lw kV_lw dc_lw pm_lw cd_lw ct_lw : Value} {tS1 tS2 : Tok} {nS : Nat}
    (aCR : PySem.W.nsIn K mainGlobals "Writing" = some (some (.ref CR)))
    (aCW : PySem.W.nsIn K mainGlobals "Walk" = some (some (.ref CW)))
    (a_n : PySem.W.findIn K (.ref CR) "nothing" = some (some (.ref f_n)))
    (i_n : PySem.W.isFn K (.ref f_n) = true)
    (l_n : K.lookup f_n = some ⟨oc_n, od_n, .func (PySem.W.fnOf "nothing" "Writing.nothing" (defArgs sNothing) (defBody sNothing) (defScope sNothing) .none kV_n dc_n pm_n an_n cd_n ct_n), sl_n⟩)
    (c_n : PySem.W.codeIn K cd_n "Writing.nothing" = true)
    (k_n : PySem.W.keepIn K (.ref f_n) = true)
    (a_a : PySem.W.findIn K (.ref CR) "add" = some (some (.ref f_a)))
    (i_a : PySem.W.isFn K (.ref f_a) = true)
    (l_a : K.lookup f_a = some ⟨oc_a, od_a, .func (PySem.W.fnOf "add" "Writing.add" (defArgs sAdd) (defBody sAdd) (defScope sAdd) .none kV_a dc_a pm_a an_a cd_a ct_a), sl_a⟩)
    (c_a : PySem.W.codeIn K cd_a "Writing.add" = true)
    (k_a : PySem.W.keepIn K (.ref f_a) = true)
    (a_i : PySem.W.findIn K (.ref CW) "__init__" = some (some (.ref f_i)))
    (i_i : PySem.W.isFn K (.ref f_i) = true)
    (l_i : K.lookup f_i = some ⟨oc_i, od_i, .func (PySem.W.fnOf "__init__" "Walk.__init__" (defArgs sInit) (defBody sInit) (defScope sInit) .none kV_i dc_i pm_i an_i cd_i ct_i), sl_i⟩)
    (c_i : PySem.W.codeIn K cd_i "Walk.__init__" = true)
    (k_i : PySem.W.keepIn K (.ref f_i) = true)
    (a_s : PySem.W.findIn K (.ref CW) "step" = some (some (.ref f_s)))
    (i_s : PySem.W.isFn K (.ref f_s) = true)
    (l_s : K.lookup f_s = some ⟨oc_s, od_s, .func (PySem.W.fnOf "step" "Walk.step" (defArgs sStep) (defBody sStep) (defScope sStep) .none kV_s dc_s pm_s an_s cd_s ct_s), sl_s⟩)
    (c_s : PySem.W.codeIn K cd_s "Walk.step" = true)
    (k_s : PySem.W.keepIn K (.ref f_s) = true)
    (a_c : PySem.W.nsIn K mainGlobals "contexts" = some (some (.ref f_c)))
    (l_c : K.lookup f_c = some ⟨oc_c, od_c, .func (PySem.W.fnOf "contexts" "contexts" (defArgs sContexts) (defBody sContexts) (defScope sContexts) .none kV_c dc_c pm_c an_c cd_c ct_c), sl_c⟩)
    (c_c : PySem.W.codeIn K cd_c "contexts" = true)
    (k_c : PySem.W.keepIn K (.ref f_c) = true)
    (a_jd : PySem.W.nsIn K mainGlobals "joined_deed" = some (some (.ref f_jd)))
    (l_jd : K.lookup f_jd = some ⟨oc_jd, od_jd, .func (PySem.W.fnOf "joined_deed" "joined_deed" (defArgs sJDeed) (defBody sJDeed) (defScope sJDeed) .none kV_jd dc_jd pm_jd an_jd cd_jd ct_jd), sl_jd⟩)
    (c_jd : PySem.W.codeIn K cd_jd "joined_deed" = true)
    (k_jd : PySem.W.keepIn K (.ref f_jd) = true)
    (a_jw : PySem.W.nsIn K mainGlobals "joined_with" = some (some (.ref f_jw)))
    (l_jw : K.lookup f_jw = some ⟨oc_jw, od_jw, .func (PySem.W.fnOf "joined_with" "joined_with" (defArgs sJWith) (defBody sJWith) (defScope sJWith) .none kV_jw dc_jw pm_jw an_jw cd_jw ct_jw), sl_jw⟩)
    (c_jw : PySem.W.codeIn K cd_jw "joined_with" = true)
    (k_jw : PySem.W.keepIn K (.ref f_jw) = true)
    (a_j : PySem.W.nsIn K mainGlobals "joined" = some (some (.ref f_j)))
    (l_j : K.lookup f_j = some ⟨oc_j, od_j, .func (PySem.W.fnOf "joined" "joined" (defArgs sJoined) (defBody sJoined) (defScope sJoined) .none kV_j dc_j pm_j an_j cd_j ct_j), sl_j⟩)
    (c_j : PySem.W.codeIn K cd_j "joined" = true)
    (k_j : PySem.W.keepIn K (.ref f_j) = true)
    (a_dr : PySem.W.nsIn K mainGlobals "_law_draw" = some (some (.ref f_dr)))
    (l_dr : K.lookup f_dr = some ⟨oc_dr, od_dr, .func (PySem.W.fnOf "_law_draw" "_law_draw" (defArgs sDraw) (defBody sDraw) (defScope sDraw) .none kV_dr dc_dr pm_dr an_dr cd_dr ct_dr), sl_dr⟩)
    (c_dr : PySem.W.codeIn K cd_dr "_law_draw" = true)
    (k_dr : PySem.W.keepIn K (.ref f_dr) = true)
    (a_pr : PySem.W.nsIn K mainGlobals "_law_product" = some (some (.ref f_pr)))
    (l_pr : K.lookup f_pr = some ⟨oc_pr, od_pr, .func (PySem.W.fnOf "_law_product" "_law_product" (defArgs sProduct) (defBody sProduct) (defScope sProduct) .none kV_pr dc_pr pm_pr an_pr cd_pr ct_pr), sl_pr⟩)
    (c_pr : PySem.W.codeIn K cd_pr "_law_product" = true)
    (k_pr : PySem.W.keepIn K (.ref f_pr) = true)
    (a_wd : PySem.W.nsIn K mainGlobals "_law_word" = some (some (.ref f_wd)))
    (l_wd : K.lookup f_wd = some ⟨oc_wd, od_wd, .func (PySem.W.fnOf "_law_word" "_law_word" (defArgs sWord) (defBody sWord) (defScope sWord) .none kV_wd dc_wd pm_wd an_wd cd_wd ct_wd), sl_wd⟩)
    (c_wd : PySem.W.codeIn K cd_wd "_law_word" = true)
    (k_wd : PySem.W.keepIn K (.ref f_wd) = true)
    (a_wo : PySem.W.nsIn K mainGlobals "_law_worth" = some (some (.ref f_wo)))
    (l_wo : K.lookup f_wo = some ⟨oc_wo, od_wo, .func (PySem.W.fnOf "_law_worth" "_law_worth" (defArgs sWorth) (defBody sWorth) (defScope sWorth) .none kV_wo dc_wo pm_wo an_wo cd_wo ct_wo), sl_wo⟩)
    (c_wo : PySem.W.codeIn K cd_wo "_law_worth" = true)
    (k_wo : PySem.W.keepIn K (.ref f_wo) = true)
    (a_rd : PySem.W.nsIn K mainGlobals "_law_small_reader" = some (some (.ref f_rd)))
    (l_rd : K.lookup f_rd = some ⟨oc_rd, od_rd, .func (PySem.W.fnOf "_law_small_reader" "_law_small_reader" (defArgs sReader) (defBody sReader) (defScope sReader) .none kV_rd dc_rd pm_rd an_rd cd_rd ct_rd), sl_rd⟩)
    (c_rd : PySem.W.codeIn K cd_rd "_law_small_reader" = true)
    (k_rd : PySem.W.keepIn K (.ref f_rd) = true)
    (a_mc : PySem.W.nsIn K mainGlobals "_law_machine" = some (some (.ref f_mc)))
    (l_mc : K.lookup f_mc = some ⟨oc_mc, od_mc, .func (PySem.W.fnOf "_law_machine" "_law_machine" (defArgs sMachine) (defBody sMachine) (defScope sMachine) .none kV_mc dc_mc pm_mc an_mc cd_mc ct_mc), sl_mc⟩)
    (c_mc : PySem.W.codeIn K cd_mc "_law_machine" = true)
    (k_mc : PySem.W.keepIn K (.ref f_mc) = true)
    (a_go : PySem.W.nsIn K mainGlobals "_law_goes" = some (some (.ref f_go)))
    (l_go : K.lookup f_go = some ⟨oc_go, od_go, .func (PySem.W.fnOf "_law_goes" "_law_goes" (defArgs sGoes) (defBody sGoes) (defScope sGoes) .none kV_go dc_go pm_go an_go cd_go ct_go), sl_go⟩)
    (c_go : PySem.W.codeIn K cd_go "_law_goes" = true)
    (k_go : PySem.W.keepIn K (.ref f_go) = true)
    (a_de : PySem.W.nsIn K mainGlobals "_law_deed" = some (some (.ref f_de)))
    (l_de : K.lookup f_de = some ⟨oc_de, od_de, .func (PySem.W.fnOf "_law_deed" "_law_deed" (defArgs sDeed) (defBody sDeed) (defScope sDeed) .none kV_de dc_de pm_de an_de cd_de ct_de), sl_de⟩)
    (c_de : PySem.W.codeIn K cd_de "_law_deed" = true)
    (k_de : PySem.W.keepIn K (.ref f_de) = true)
    (a_st : PySem.W.nsIn K mainGlobals "_law_stretch" = some (some (.ref f_st)))
    (l_st : K.lookup f_st = some ⟨oc_st, od_st, .func (PySem.W.fnOf "_law_stretch" "_law_stretch" (defArgs sStretch) (defBody sStretch) (defScope sStretch) .none kV_st dc_st pm_st an_st cd_st ct_st), sl_st⟩)
    (c_st : PySem.W.codeIn K cd_st "_law_stretch" = true)
    (k_st : PySem.W.keepIn K (.ref f_st) = true)
    (a_lw : PySem.W.nsIn K mainGlobals "law" = some (some (.ref f_lw)))
    (l_lw : K.lookup f_lw = some ⟨oc_lw, od_lw, .func (PySem.W.fnOf "law" "law" (defArgs sLaw) (defBody sLaw) (defScope sLaw) .none kV_lw dc_lw pm_lw an_lw cd_lw ct_lw), sl_lw⟩)
    (c_lw : PySem.W.codeIn K cd_lw "law" = true)
    (k_lw : PySem.W.keepIn K (.ref f_lw) = true)
    (pgCR : PySem.W.plainGet K CR Str.empty = true)
    (hdCR : PySem.W.hasDictIn K CR = true)
    (poCR : PySem.W.plainOver K CR = true)
    (saCR : PySem.W.findIn K (.ref CR) "__setattr__" = some (some (.builtin "object.__setattr__")))
    (mkCR : PySem.W.makesIn K CR = true)
    (kcCR : PySem.W.keepIn K (.ref CR) = true)
    (pgCW : PySem.W.plainGet K CW Str.empty = true)
    (hdCW : PySem.W.hasDictIn K CW = true)
    (poCW : PySem.W.plainOver K CW = true)
    (saCW : PySem.W.findIn K (.ref CW) "__setattr__" = some (some (.builtin "object.__setattr__")))
    (mkCW : PySem.W.makesIn K CW = true)
    (kcCW : PySem.W.keepIn K (.ref CW) = true)
    (iniCR : PySem.W.findIn K (.ref CR) "__init__" = some (some (.builtin "object.__init__")))
    (na_pair : PySem.W.findIn K (.ref CW) "pair" = some none)
    (na_content : PySem.W.findIn K (.ref CW) "content" = some none)
    (na_around : PySem.W.findIn K (.ref CW) "around" = some none)
    (na_where : PySem.W.findIn K (.ref CW) "where" = some none)
    (na_done : PySem.W.findIn K (.ref CW) "done" = some none)
    (na_seen : PySem.W.findIn K (.ref CW) "seen" = some none)
    (na_side : PySem.W.findIn K (.ref CW) "side" = some none)
    (na_state : PySem.W.findIn K (.ref CW) "state" = some none)
    (z_range : PySem.W.nsIn K mainGlobals "range" = some none)
    (z_len : PySem.W.nsIn K mainGlobals "len" = some none)
    (z_int : PySem.W.nsIn K mainGlobals "int" = some none)
    (z_max : PySem.W.nsIn K mainGlobals "max" = some none)
    (z_tuple : PySem.W.nsIn K mainGlobals "tuple" = some none)
    (z_list : PySem.W.nsIn K mainGlobals "list" = some none)
    (aS_ : PySem.W.nsIn K mainGlobals "SIDES" = some (some (.ref aS)))
    (lS_ : K.lookup aS = some ⟨.type "tuple", odS, .seq #[.str "left" tS1, .str "right" tS2] nS, slS⟩) :
    ∃ fd : FuncData, (∀ (s : Shared) (v : Value), BindsTo s fd ⟨[v], []⟩ [("_law_script", v)]) ∧ ∀ base : Heap, K.In base → base.Ns mainGlobals mg → FnOk l.prog w K mg base CX0 7 fa fd ["_law_script"] (spLaw K) := by
  have e := hfa.symm.trans (PySem.W.mg_of X G a_lw)
  cases e
  have F_n := fun_mk (st := sNothing) l_n c_n k_n
  have b_n := F_n.binds (ps := ["self"]) fun _ _ _ _ _ _ us hl => match us, hl with | [_], _ => rfl
  have F_a := fun_mk (st := sAdd) l_a c_a k_a
  have b_a := F_a.binds (ps := ["self", "one", "two"]) fun _ _ _ _ _ _ us hl => match us, hl with | [_, _, _], _ => rfl
  have F_i := fun_mk (st := sInit) l_i c_i k_i
  have b_i := F_i.binds (ps := ["self", "machine", "pair", "content", "context"]) fun _ _ _ _ _ _ us hl => match us, hl with | [_, _, _, _, _], _ => rfl
  have F_s := fun_mk (st := sStep) l_s c_s k_s
  have b_s := F_s.binds (ps := ["self"]) fun _ _ _ _ _ _ us hl => match us, hl with | [_], _ => rfl
  have F_c := fun_mk (st := sContexts) l_c c_c k_c
  have b_c := F_c.binds (ps := ["machine"]) fun _ _ _ _ _ _ us hl => match us, hl with | [_], _ => rfl
  have F_jd := fun_mk (st := sJDeed) l_jd c_jd k_jd
  have b_jd := F_jd.binds (ps := ["machine", "pair", "content", "context"]) fun _ _ _ _ _ _ us hl => match us, hl with | [_, _, _, _], _ => rfl
  have F_jw := fun_mk (st := sJWith) l_jw c_jw k_jw
  have b_jw := F_jw.binds (ps := ["machine", "first", "second", "content"]) fun _ _ _ _ _ _ us hl => match us, hl with | [_, _, _, _], _ => rfl
  have F_j := fun_mk (st := sJoined) l_j c_j k_j
  have b_j := F_j.binds (ps := ["machine", "first", "second"]) fun _ _ _ _ _ _ us hl => match us, hl with | [_, _, _], _ => rfl
  have F_dr := fun_mk (st := sDraw) l_dr c_dr k_dr
  have b_dr := F_dr.binds (ps := ["_law_state", "_law_limit"]) fun _ _ _ _ _ _ us hl => match us, hl with | [_, _], _ => rfl
  have F_pr := fun_mk (st := sProduct) l_pr c_pr k_pr
  have b_pr := F_pr.binds (ps := ["_law_kind", "_law_count", "_law_x", "_law_y"]) fun _ _ _ _ _ _ us hl => match us, hl with | [_, _, _, _], _ => rfl
  have F_wd := fun_mk (st := sWord) l_wd c_wd k_wd
  have b_wd := F_wd.binds (ps := ["_law_state", "_law_count", "_law_most"]) fun _ _ _ _ _ _ us hl => match us, hl with | [_, _, _], _ => rfl
  have F_wo := fun_mk (st := sWorth) l_wo c_wo k_wo
  have b_wo := F_wo.binds (ps := ["_law_reader", "_law_row"]) fun _ _ _ _ _ _ us hl => match us, hl with | [_, _], _ => rfl
  have F_rd := fun_mk (st := sReader) l_rd c_rd k_rd
  have b_rd := F_rd.binds (ps := ["_law_state", "_law_count"]) fun _ _ _ _ _ _ us hl => match us, hl with | [_, _], _ => rfl
  have F_mc := fun_mk (st := sMachine) l_mc c_mc k_mc
  have b_mc := F_mc.binds (ps := ["_law_state", "_law_most", "_law_looks"]) fun _ _ _ _ _ _ us hl => match us, hl with | [_, _, _], _ => rfl
  have F_go := fun_mk (st := sGoes) l_go c_go k_go
  have b_go := F_go.binds (ps := ["_law_machine_here", "_law_row", "_law_left", "_law_right", "_law_side", "_law_start"]) fun _ _ _ _ _ _ us hl => match us, hl with | [_, _, _, _, _, _], _ => rfl
  have F_de := fun_mk (st := sDeed) l_de c_de k_de
  have b_de := F_de.binds (ps := ["_law_machine_here", "_law_row", "_law_left", "_law_right", "_law_side", "_law_start"]) fun _ _ _ _ _ _ us hl => match us, hl with | [_, _, _, _, _, _], _ => rfl
  have F_st := fun_mk (st := sStretch) l_st c_st k_st
  have b_st := F_st.binds (ps := ["_law_machine_here", "_law_row"]) fun _ _ _ _ _ _ us hl => match us, hl with | [_, _], _ => rfl
  have F_lw := fun_mk (st := sLaw) l_lw c_lw k_lw
  have T : Txt K mg CR CW aS := {
    fr := ⟨PySem.W.mg_none_of X G z_range, PySem.W.mg_none_of X G z_len, PySem.W.mg_none_of X G z_int, PySem.W.mg_none_of X G z_max, PySem.W.mg_none_of X G z_tuple, PySem.W.mg_none_of X G z_list⟩
    clR := ⟨pgCR, hdCR, poCR, saCR⟩
    clW := ⟨pgCW, hdCW, poCW, saCW⟩
    mkR := ⟨mkCR, iniCR, kcCR⟩
    mgR := PySem.W.mg_of X G aCR
    mgW := PySem.W.mg_of X G aCW
    mgS := PySem.W.mg_of X G aS_
    sides := fun H => .inr ⟨_, _, _, lS_, rfl, rfl, small_le (by show 2 ≤ 100000; decide), .cons ⟨_, rfl⟩ (.cons ⟨_, rfl⟩ .nil)⟩
    nPair := na_pair
    nContent := na_content
    nAround := na_around
    nWhere := na_where
    nDone := na_done
    nSeen := na_seen
    nSide := na_side
    nState := na_state }
  have D : Defs K mg CR CW := {
    nothing := ⟨_, _, F_n, b_n, ⟨a_n, i_n, k_n⟩⟩
    add := ⟨_, _, F_a, b_a, ⟨a_a, i_a, k_a⟩⟩
    init := ⟨_, _, F_i, b_i, ⟨mkCW, a_i, i_i, kcCW⟩⟩
    step := ⟨_, _, F_s, b_s, ⟨a_s, i_s, k_s⟩⟩
    contexts := ⟨_, _, F_c, b_c, PySem.W.mg_of X G a_c⟩
    jdeed := ⟨_, _, F_jd, b_jd, PySem.W.mg_of X G a_jd⟩
    jwith := ⟨_, _, F_jw, b_jw, PySem.W.mg_of X G a_jw⟩ }
  have L : LDefs K mg := {
    draw := ⟨_, _, F_dr, b_dr, PySem.W.mg_of X G a_dr⟩
    product := ⟨_, _, F_pr, b_pr, PySem.W.mg_of X G a_pr⟩
    word := ⟨_, _, F_wd, b_wd, PySem.W.mg_of X G a_wd⟩
    worth := ⟨_, _, F_wo, b_wo, PySem.W.mg_of X G a_wo⟩
    reader := ⟨_, _, F_rd, b_rd, PySem.W.mg_of X G a_rd⟩
    machine := ⟨_, _, F_mc, b_mc, PySem.W.mg_of X G a_mc⟩
    goes := ⟨_, _, F_go, b_go, PySem.W.mg_of X G a_go⟩
    deed := ⟨_, _, F_de, b_de, PySem.W.mg_of X G a_de⟩
    stretch := ⟨_, _, F_st, b_st, PySem.W.mg_of X G a_st⟩
    joined := ⟨_, _, F_j, b_j, PySem.W.mg_of X G a_j⟩ }
  exact ⟨PySem.W.fnOf "law" "law" (defArgs sLaw) (defBody sLaw) (defScope sLaw) .none kV_lw dc_lw pm_lw an_lw cd_lw ct_lw, fun s v => .of_eq rfl, fun base _ _ => ok_law F_lw T D L⟩
theorem walk {l : PySem.W.OpenLaw} {q : Program} {loose : List Str} {XP : (Str → Option Value) → Heap → Prop} {YP : World → Heap → Prop} {d : DefRec} {K : Params → PySem.W.Frag} (hn : l.most = some 63) (hdf : d.params.defaults = [])
    (hY : ∀ (w : World) (h : Heap), YP w h → (K w.params).In h)
    (F : ∀ (w : World) (mg : Str → Option Value) (fa : Addr) (h : Heap), (K w.params).In h → h.Ns mainGlobals mg → mg d.name = some (.ref fa) →
      ∃ fd : FuncData, (∀ (s : Shared) (u : Value), BindsTo s fd ⟨[u], []⟩ [("_law_script", u)]) ∧ ∀ base : Heap, (K w.params).In base → base.Ns mainGlobals mg → FnOk l.prog w (K w.params) mg base CX0 7 fa fd ["_law_script"] (spLaw (K w.params))) :
    PySem.W.WalkO q loose XP YP l.row.toRowW d [] (fun f vs => PySem.call f vs) :=
  L2.walk_of (n := 63) (k := 7) (x := "_law_script") (CX := fun _ => CX0) (sp := fun w => spLaw (K w.params)) hn (by rw [sizeLine_eq]; decide) hdf ⟨rfl, by decide, by decide⟩ hY F (fun _ _ a ns hl _ hS => ⟨a, ns, rfl, hS, hl, fun _ => rfl⟩) fun _ _ _ _ _ z => z
end K36
open PySem PySem.W PyProof.Rows
set_option maxRecDepth 100000 in
set_option maxHeartbeats 0 in
theorem PySem.Challenge.cw_twoways_k36_whole_joined_stretches_holds : PySem.Challenge.rw_twoways_k36_whole_joined_stretches.Holds := by
  w_on; o_law; k_head; (case hw => w_witness2)
  k_fill
  refine K36.walk (l := PySem.Challenge.rw_twoways_k36_whole_joined_stretches) rfl rfl (fun w h Y => PySem.W.kIn_of Y) ?F
  case F =>
    intro w mg fa h KX G hmg
    refine' K36.all_mk KX G hmg ?aCR ?aCW ?a_n ?i_n ?l_n ?c_n ?k_n ?a_a ?i_a ?l_a ?c_a ?k_a ?a_i ?i_i ?l_i ?c_i ?k_i ?a_s ?i_s ?l_s ?c_s ?k_s ?a_c ?l_c ?c_c ?k_c ?a_jd ?l_jd ?c_jd ?k_jd ?a_jw ?l_jw ?c_jw ?k_jw ?a_j ?l_j ?c_j ?k_j ?a_dr ?l_dr ?c_dr ?k_dr ?a_pr ?l_pr ?c_pr ?k_pr ?a_wd ?l_wd ?c_wd ?k_wd ?a_wo ?l_wo ?c_wo ?k_wo ?a_rd ?l_rd ?c_rd ?k_rd ?a_mc ?l_mc ?c_mc ?k_mc ?a_go ?l_go ?c_go ?k_go ?a_de ?l_de ?c_de ?k_de ?a_st ?l_st ?c_st ?k_st ?a_lw ?l_lw ?c_lw ?k_lw ?pgCR ?hdCR ?poCR ?saCR ?mkCR ?kcCR ?pgCW ?hdCW ?poCW ?saCW ?mkCW ?kcCW ?iniCR ?na_pair ?na_content ?na_around ?na_where ?na_done ?na_seen ?na_side ?na_state ?z_range ?z_len ?z_int ?z_max ?z_tuple ?z_list ?aS_ ?lS_
    (case aCR => k_is)
    (case aCW => k_is)
    (case a_n => k_is)
    (case i_n => k_is)
    (case l_n => k_is)
    (case c_n => k_is)
    (case k_n => k_is)
    (case a_a => k_is)
    (case i_a => k_is)
    (case l_a => k_is)
    (case c_a => k_is)
    (case k_a => k_is)
    (case a_i => k_is)
    (case i_i => k_is)
    (case l_i => k_is)
    (case c_i => k_is)
    (case k_i => k_is)
    (case a_s => k_is)
    (case i_s => k_is)
    (case l_s => k_is)
    (case c_s => k_is)
    (case k_s => k_is)
    (case a_c => k_is)
    (case l_c => k_is)
    (case c_c => k_is)
    (case k_c => k_is)
    (case a_jd => k_is)
    (case l_jd => k_is)
    (case c_jd => k_is)
    (case k_jd => k_is)
    (case a_jw => k_is)
    (case l_jw => k_is)
    (case c_jw => k_is)
    (case k_jw => k_is)
    (case a_j => k_is)
    (case l_j => k_is)
    (case c_j => k_is)
    (case k_j => k_is)
    (case a_dr => k_is)
    (case l_dr => k_is)
    (case c_dr => k_is)
    (case k_dr => k_is)
    (case a_pr => k_is)
    (case l_pr => k_is)
    (case c_pr => k_is)
    (case k_pr => k_is)
    (case a_wd => k_is)
    (case l_wd => k_is)
    (case c_wd => k_is)
    (case k_wd => k_is)
    (case a_wo => k_is)
    (case l_wo => k_is)
    (case c_wo => k_is)
    (case k_wo => k_is)
    (case a_rd => k_is)
    (case l_rd => k_is)
    (case c_rd => k_is)
    (case k_rd => k_is)
    (case a_mc => k_is)
    (case l_mc => k_is)
    (case c_mc => k_is)
    (case k_mc => k_is)
    (case a_go => k_is)
    (case l_go => k_is)
    (case c_go => k_is)
    (case k_go => k_is)
    (case a_de => k_is)
    (case l_de => k_is)
    (case c_de => k_is)
    (case k_de => k_is)
    (case a_st => k_is)
    (case l_st => k_is)
    (case c_st => k_is)
    (case k_st => k_is)
    (case a_lw => k_is)
    (case l_lw => k_is)
    (case c_lw => k_is)
    (case k_lw => k_is)
    (case pgCR => k_is)
    (case hdCR => k_is)
    (case poCR => k_is)
    (case saCR => k_is)
    (case mkCR => k_is)
    (case kcCR => k_is)
    (case pgCW => k_is)
    (case hdCW => k_is)
    (case poCW => k_is)
    (case saCW => k_is)
    (case mkCW => k_is)
    (case kcCW => k_is)
    (case iniCR => k_is)
    (case na_pair => k_is)
    (case na_content => k_is)
    (case na_around => k_is)
    (case na_where => k_is)
    (case na_done => k_is)
    (case na_seen => k_is)
    (case na_side => k_is)
    (case na_state => k_is)
    (case z_range => k_is)
    (case z_len => k_is)
    (case z_int => k_is)
    (case z_max => k_is)
    (case z_tuple => k_is)
    (case z_list => k_is)
    (case aS_ => k_is)
    (case lS_ => k_is)
